import PyProof.Rows.All
import OpenK.KLine
import OpenK.KQuick
import Wide.FinOn
import PySem.PyData
import PySem.Syntax
import PyProof.Lay0
import PyProof.P3Statements
import KE.KItemsList
import KE.KPairComp
import KE.KSortTup
import KE.KDictOf
import PyProof.ExcClass
import PyProof.ExcBaseAll.Exception
import PyProof.ExcFactsAll.ValueError
import PyProof.DictDisplay
import PyProof.ZipIter
import PyProof.Draws
import PyProof.EnumMake
import PyProof.TypeOfCall
import OpenK.KOwn
import Open.Head
import OpenK.KWalk
import PyProof.TableCode
import PyProof.Rows.KernelRfl
import PyProof.P3Eq
import PySem.Challenge.RW_sx_vvault_8
set_option tactic.hygienic false
set_option genInjectivity false
set_option genSizeOf false
set_option genSizeOfSpec false
set_option genCtorIdx false
set_option bootstrap.genMatcherCode false
set_option backward.match.sparseCases false
set_option compiler.extract_closed false
set_option Elab.async false
set_option maxRecDepth 100000
set_option linter.all false
namespace Mine.Internal
noncomputable section
open Nat renaming le_trans->aI,lt_of_le_of_lt->fj,le_add_right->fy,add_le_add_left->iY,le_of_eq->dN,add_le_add_right->l4,le_add_left->jm,zero_le->ft,le_refl->fB,le_of_not_lt->kl,succ_pos->gU,add_right_comm->nr,lt_irrefl->mD,le_of_ble_eq_true->u9,lt_of_lt_of_le->ve,lt_succ_of_le->vg,add_lt_add_left->zO,ne_of_lt->rn,add_comm->ro,lt_succ_self->wY,not_lt_zero->pL,min_eq_left->pM,not_lt->mh,not_le->mi,zero_lt_succ->tY,succ_le_succ->tZ,ne_of_gt->pQ,le_of_lt->pR,lt_of_lt_of_eq->xf,le_of_sub_eq_zero->Bn,le_antisymm->xk,add_sub_cancel'->Bp,sub_pos_iff_lt->Bq,add_le_add->xl,min_eq_right->By,add_sub_cancel_left->E9,mul_le_mul_left->Fo,lt_trans->BO,lt_of_succ_lt->Fx,le_succ_of_le->Fy,le_of_lt_succ->Fz,min_le_left->FK,mul_assoc->FQ,lt_succ_iff_lt_or_eq->Nd,le_total->FV,le_mul_of_pos_left->Nm,sub_eq_zero_of_le->Nr,add_left_cancel->NI,succ_ne_zero->N2,succ_lt_succ->N3,lt_of_not_le->N5,sub_zero->Oy,add_zero->Oz,le_succ->OD,sub_le->OJ
open PySem renaming wpAny_bind->aF,wpAny_pure->bY,wpAny_mono->bA,wpAny_holding->ix,wpAny_standAt->jM,wpAny_field->gV,wpAny_Name->jo,sizeLine_eq->kq,wpAny_loadName_local->zN,wpAny_items_cons->pK,wpAny_newObj_type->rx,wpAny_setField_rec->tS,wpAny_loadPart_at->tU,wpAny_assign_Name->tV,wpAny_execs_cons->t5,wpAny_items_nil->t8,wpAny_truthy_bool->xi,wpAny_seqItems->ua,wpAny_isSubtype_exc->Bt,wpAny_setField->xm,wpAny_Constant_int->Bv,wpAny_pyIter_list->Bz,wpAny_assignInOrder_more->Fb,wpAny_list_append_plain->Fe,wpAny_call_entry->BC,wpAny_callSpecial?_slot->Ff,wpAny_rule->uc,wpAny_execs_nil->BD,wpAny_updateSeq_pair->Fs,wpAny_newTuple->BJ,wpAny_onRaise->BS,wpAny_Constant_str->FJ,codeAny_of_tree->FO,codeAny_builtin->FP,wpAny_call->BV,isSubtype_type->FU,callWith_type->Nq,wpAny_assignInOrder_none->Ny,wpAny_typeOf->FZ,wpAny_isTrue_Compare1->NW,wpAny_throw->F3,wpAny_letGo->F4,wpAny_Constant_none->N8,wpAny_Constant_bool->N9,wpAny_List->F6,call_meets->F7,wpAny_sequenceKey->Oo,wpAny_pyIter_strU->Oq,wpAny_isNot_plain->Ot,slot_list_setitem->Ou,wpAny_eqBool_int->Ow,entryFor_of_fast->Ox,wpAny_bindName->OG,wpAny_Expr_any->OH,wpAny_release->OK,wpAny_newList->ON,wpAny_handled->OO,wpAny_UnaryOp->OP,plainId_quiet->OQ
open List renaming length_map->cn,mem_cons->cL,mem_append_left->iF,getD_eq_getElem?_getD->fi,length_append->cZ,mem_singleton->dp,mem_append->cG,mem_map->bU,map_cons->c7,not_mem_nil->eF,pairwise_cons->jJ,getElem?_eq_getElem->nq,getElem?_map->jK,append_assoc->j9,all_eq_true->jL,mem_range->jn,map_append->kb,length_set->km,mem_cons_self->qw,nodup_cons->nu,size_toArray->qx,mem_append_right->u7,mem_or_eq_of_mem_set->zG,getElem?_eq_none->wW,append_nil->rm,length_drop->tg,filterMap_cons->wX,mem_of_find?_eq_some->Dh,length_filter_le->zJ,lookup_cons->vh,map_map->qy,mem_of_getElem?->zK,mem_cons_of_mem->zM,mem_filter->vj,take_append_drop->Di,getElem?_eq_some_iff->wZ,all_cons->ny,mem_map_of_mem->tQ,pairwise_singleton->xa,nodup_nil->pN,find?_eq_none->tR,reverse_cons->tT,getElem?_append_right->Bm,getElem_mem->tW,any_eq_true->tX,nil_append->t6,forIn_cons->t7,zip_cons_cons->xe,getElem?_set->xg,prefix_refl->xh,any_cons->ub,getElem?_range->Bo,getElem?_append_left->E5,head?_filter->Bu,length_filterMap_le->E6,drop_eq_nil_of_le->Fa,foldl_cons->BA,find?_some->BB,sizeOf_lt_of_mem->Fc,length_replicate->Fd,map_congr_left->Fl,getD_cons_succ->Fm,drop_succ_cons->Fn,drop_nil->BG,contains_cons->Fq,pairwise_map->Fu,map_set->BL,flatMap_cons->Fv,any_eq_false->Fw,map_reverse->FE,length_take->FF,isEmpty_iff->FG,filter_cons->FH,cons_append->FI,filterMap_cons_some->Nb,take_of_length_le->Nj,length_take_of_le->Nk,filter_eq_nil_iff->Nl,pairwise_append->Nt,mem_of_mem_drop->Nu,forall_mem_cons->Nv,replicate_succ->Nz,map_eq_nil_iff->NA,length_reverse->NB,eraseDups_cons->NC,set_cons_succ->NJ,mem_replicate->NL,getElem?_drop->NM,nodup_append->NN,length_range->NO,find?_append->NP,ext_getElem?->NQ,zipIdx_cons->NZ,take_length->N1,zipIdx_nil->N6,all_append->N7,tail_drop->Oa,forIn_nil->Ob,drop_zero->Od,drop_left->Oe,take_nil->Oi,map_drop->Oj,set_set->Ov
open PySem.Heap renaming get?_push_of_some->il,get?_push_size->fX,lt_size->fk,get?_update_other->qv,get?_update_self->Dj,size_push->t9,get?_none_of_le->Nx
open Option.some renaming inj->dS,injEq->Fg
open Bool renaming false_ne_true->cO,and_eq_true->dg,and_eq_true_iff->fW,false_eq_true->iw,not_eq_true'->rp,false_and->pO,or_eq_true->xj,true_and->BH,or_true->BM,not_not->BN,and_false->FN,not_eq_false->NU,eq_false_iff->NV,or_false->Ol,and_self->Om
open Option renaming map_eq_some_iff->iu,isSome_iff_exists->rk,bind_eq_some_iff->w9,isNone_iff_eq_none->E4,map_eq_none_iff->E7,map_some->FC,map_map->NY
open Array renaming length_toList->gT,getElem?_toList->tf,mem_toList_iff->tP,toList_append->Fj,find?_toList->NH
open Classical renaming byContradiction->nj,em->iy
open Int renaming not_lt->dX,ofNat_lt->kc,ofNat_le->kn,fmod_eq_emod_of_nonneg->zF,lt_of_lt_of_le->vf,natCast_nonneg->zQ,fdiv_eq_ediv_of_nonneg->EZ,le_trans->ma,le_of_lt->mf,eq_ofNat_of_zero_le->xb,lt_trans->pS,not_le->pT,lt_of_le_of_lt->Br,fdiv_mul_add_fmod->Fh,le_of_lt_add_one->Fi,lt_irrefl->BI,zero_add->BP,add_zero->BQ,add_comm->BR,le_refl->BU,natCast_inj->FL,add_neg_cancel_right->Nh,add_assoc->FT,ne_of_gt->FW,le_of_eq->FX,fmod_nonneg_of_pos->Nn,lt_add_one_of_le->ND,add_le_add_right->NF,fmod_lt_of_pos->NS,emod_lt_of_pos->NT,min_eq_left->Of,emod_nonneg->Og,ediv_nonneg->Oh,toNat_lt->OA,mul_one->OE
open PySem.W renaming looks_nsIn->i8
open PySem.Obj renaming data_mapFields->zP,isFreed_of_fields->xc
open Ne renaming symm->eh
open PySem.F renaming slot_list_getattribute->E0,excRaise_ValueError->E3,slot_dict_items->M8,slot_zip_next->M9,slot_int_rmul->Na
open PyProof.Rows renaming slot_tuple_getitem->Bw,Attribute_any_->BK,neg_int->M6,lt_int->M7,tail_any->xn,listUpdate_at->FY,Call_Name->BW,seqEpoch_at->F5,Subscript_->F8,get?_update_seq->OB,truthy_int->Um,sub_int->Un,rshift_int->Uo,mul_int->Up,mod_int'->Uq,le_int->Ur,gt_int->Us,ge_int->Ut,floordiv_int->Uu,and_int->Uv,add_int->Uw,slicePart_none->OI,getItem_tuple->OS
open Nat.succ renaming inj->BE
open PySem.Value renaming isInt_shape->Ft,isStrOf_shape->Np
open List.Perm renaming refl->FA
open Iff renaming rfl->ud
open PySem.Calls renaming callWith_function->Nc,callWith_builtin->Ni
open PySem PySem.W PyProof.Rows
local macro_rules | `(tactic| cases $h:ident) => `(tactic| first | (injection $h; done) | (injection $h with hA hB hC hD; (first | subst hA | cases (hA)); (first | subst hB | cases (hB)); (first | subst hC | cases (hC)); (first | subst hD | cases (hD))) | (injection $h with hA hB hC; (first | subst hA | cases (hA)); (first | subst hB | cases (hB)); (first | subst hC | cases (hC))) | (injection $h with hA hB; (first | subst hA | cases (hA)); (first | subst hB | cases (hB))) | (injection $h with hA; (first | subst hA | cases (hA))) | cases ($h:ident))
def dx:=@decide_eq_false
def bz:=@congrArg
def bR:=@of_decide_eq_true
def aw:=@if_neg
def bP:=@decide_eq_true
def iZ:=@decide_eq_true_eq
def fY:=@beq_iff_eq
def eH:=@if_false
def dZ:=@if_true
def rl:=@beq_self_eq_true
def jr:=@or_false
def pP:=@beq_false_of_ne
def Bx:=@beq_eq_false_iff_ne
def Fp:=@decide_eq_false_iff_not
def F9:=@decide_true
theorem Ux:PySem.Challenge.rw_sx_vvault_8.wellSaid=true:=by rewrite [Fast.te9446332074065402090];kernel_rfl
@[elab_as_elim] theorem Rw.{u}{α:Sort u}{a b:α}{p:(x:α)->Prop}(h:a = b)(z:p b):p a:=h ▸ z
@[elab_as_elim] theorem Rl.{u}{α:Sort u}{a b:α}{p:(x:α)->Prop}(h:b = a)(z:p b):p a:=h ▸ z
@[elab_as_elim] theorem O2.{u}{α:Sort u}{x a b:α}{p:(x:α)->Prop}(h:x = a \/ x = b)(y:p a)(z:p b):p x:=h.elim (fun h=>Rw h y) fun h=>Rw h z
@[elab_as_elim] theorem O3.{u}{α:Sort u}{x a b c:α}{p:(x:α)->Prop}(h:x = a \/ x = b \/ x = c)(y:p a)(z:p b)(w:p c):p x:=h.elim (fun h=>Rw h y) fun h=>O2 h z w
theorem Es{p:(n:Nat)->Prop}(h:i<n+1)(a:p n)(b:i<n->p i):p i:=(Nd.mp h).elim b fun e=>Rw e a
@[elab_as_elim] theorem Ga{p:(n:Nat)->Prop}(h:i < 3)(a:p 0)(b:p 1)(c:p 2):p i:=Es h c fun h=>Es h b fun h=>Es h a fun h=>absurd h (Nat.not_lt_zero _)
@[elab_as_elim] theorem J9{p:(n:Nat)->Prop}(h:i < 12)(a0:p 0)(a1:p 1)(a2:p 2)(a3:p 3)(a4:p 4)(a5:p 5)(a6:p 6)(a7:p 7)(a8:p 8)(a9:p 9)(a10:p 10)(a11:p 11):p i:=Es h a11 fun h=>Es h a10 fun h=>Es h a9 fun h=>Es h a8 fun h=>Es h a7 fun h=>Es h a6 fun h=>Es h a5 fun h=>Es h a4 fun h=>Es h a3 fun h=>Es h a2 fun h=>Es h a1 fun h=>Es h a0 fun h=>absurd h (Nat.not_lt_zero _)
@[elab_as_elim] theorem El8{p:(n:Nat)->Prop}(h:i < 8)(a0:p 0)(a1:p 1)(a2:p 2)(a3:p 3)(a4:p 4)(a5:p 5)(a6:p 6)(a7:p 7):p i:=Es h a7 fun h=>Es h a6 fun h=>Es h a5 fun h=>Es h a4 fun h=>Es h a3 fun h=>Es h a2 fun h=>Es h a1 fun h=>Es h a0 fun h=>absurd h (Nat.not_lt_zero _)
def Ce.{u}{α:Sort u}{p:α->Prop}(h:∃x,p x):α:=Classical.choose h
theorem Cs.{u}{α:Sort u}{p:α->Prop}(h:∃x,p x):p (Ce h):=Classical.choose_spec h
theorem Dn(h:Nat.ble a b=true):a<=b:=u9 h
theorem Bc(h:¬¬a):a:=nj h
theorem Ns.{u}{α:Type u}{x:Option α}{a:α}{C:Prop}(h:x=none)(z:x=some a):C:=absurd (h.symm.trans z) nofun
theorem Nf{x:Bool}{C:Prop}(h:x=false)(z:x=true):C:=absurd (h.symm.trans z) cO
theorem Al.{u}{α:Type u}{P:α->Prop}{a:α}{l:List α}(h:P a)(t:∀x∈l,P x):∀x∈a::l,P x:=Nv.mpr ⟨h,t⟩
theorem An.{u}{α:Type u}{P:α->Prop}:∀x∈([]:List α),P x:=fun ω h=>absurd h eF
theorem La{a b l:Nat}(h1:a=l)(h2:b=3):a+b+1=4+l:=by subst h1 h2;exact ro _ 4
theorem Lb{a b l:Nat}(h1:a=l)(h2:b=3):a+b+1=1+l+3:=(La h1 h2).trans (nr 1 3 l)
theorem Lx{l n k:Nat}(h:4+l<=n)(hk:Nat.ble (k+1) 4=true):k<n:=aI (aI (Dn hk) (fy 4 l)) h
theorem Ld{l n t:Nat}(h:4+l<=n)(ht:t<3):1+l+t<n:=ve (zO ht (1+l)) (aI (dN (nr 1 l 3)) h)
theorem Lg{a b:Nat}(h:a<=b):a<2*b+2:=vg (Fy (aI h (Nm b (Dn rfl))))
theorem Ng{a n i:Nat}(h:a=n+i):n<=a:=aI (fy ..) (dN h.symm)
theorem No{a b n i j:Nat}(h1:a=n+i)(h2:b=n+j)(h:Nat.beq i j=false):a≠b:=fun e=>Nat.ne_of_beq_eq_false h (NI (h1.symm.trans (e.trans h2)))
theorem Oc.{u}{α:Type u}{motive:(x:Option α)->Prop}(t:Option α)(none:motive .none)(some:∀a,motive (.some a)):motive t:=Option.casesOn t none some
theorem Lc.{u}{α:Type u}{motive:(x:List α)->Prop}(t:List α)(nil:motive .nil)(cons:∀a l,motive (.cons a l)):motive t:=List.casesOn t nil cons
theorem Tc{motive:(x:Bool)->Prop}(t:Bool)(false:motive .false)(true:motive .true):motive t:=Bool.casesOn t false true
abbrev D:=PyData
inductive RV where
 |dat(d:D)
 |ref(k:Nat)
noncomputable def RV.ctorIdx(x:RV):Nat:=RV.casesOn x (fun ω=>0) (fun ω=>1)
inductive LV where
 |dat(d:D)
 |ref(k:Nat)
 |own(xs:List D)
noncomputable def LV.ctorIdx(x:LV):Nat:=LV.casesOn x (fun ω=>0) (fun ω=>1) (fun ω=>2)
noncomputable def RV.lv:RV->LV
 |.dat d=>.dat d
 |.ref k=>.ref k
structure bt where
 live:Bool
 cls:Nat
 gW:List (Nat×LV)
structure St where
 loc:List (Nat×LV)
 aW:List (Nat×LV)
 cmp:List (Nat×LV)
 objs:List bt
inductive Res(α:Type)where
 |ok(a:α)(st:St)
 |exc(x:Nat)(st:St)
 |bad
noncomputable def Res.ctorIdx{α:Type}(x:(Res α)):Nat:=Res.casesOn x (fun ω ω=>0) (fun ω ω=>1) 2
inductive gu where
 |ok(r:RV)(objs:List bt)
 |exc(x:Nat)(objs:List bt)
 |bad
noncomputable def gu.ctorIdx(x:gu):Nat:=gu.casesOn x (fun ω ω=>0) (fun ω ω=>1) 2
inductive dJ where
 |next
 |cont
 |ret(r:RV)
noncomputable def dJ.ctorIdx(x:dJ):Nat:=dJ.casesOn x 0 1 (fun ω=>2)
noncomputable def Res.bind{α β:Type}:Res α->(α->St->Res β)->Res β
 |.ok a st,f=>f a st
 |.exc x st,_=>.exc x st
 |.bad,_=>.bad
noncomputable def opt{α:Type}:Option α->St->Res α
 |some a,st=>.ok a st
 |none,_=>.bad
mutual
inductive BX where
 |add|sub|mul|fdiv|mod|shr|band
inductive BF where
 |len|list|sum|min|max|sorted|dict|range|zip
end
noncomputable def BX.ctorIdx(x:BX):Nat:=BX.casesOn x 0 1 2 3 4 5 6
noncomputable def BF.ctorIdx(x:BF):Nat:=BF.casesOn x 0 1 2 3 4 5 6 7 8
set_option genSizeOf true in
set_option genSizeOfSpec true in
mutual
inductive ME where
 |i9(i:Int)(k:Nat)(p:Pos)
 |oL(s:Str)(k:Nat)(p:Pos)
 |mj(b:Bool)(k:Nat)(p:Pos)
 |jt(k:Nat)(p:Pos)
 |neg(e:ME)(p:Pos)
 |not(e:ME)(p:Pos)
 |loc(x:Nat)(p:Pos)
 |aW(x:Nat)(p:Pos)
 |cmp(x:Nat)(p:Pos)
 |oM(x:Nat)(p:Pos)
 |bin(op:BX)(l r:ME)(p:Pos)
 |rel(op:CmpOp)(l r:ME)(p:Pos)
 |zR(op1 op2:CmpOp)(a b c:ME)(p:Pos)
 |bool(op:BoolOp)(es:List ME)(p:Pos)
 |ite(t a b:ME)(p:Pos)
 |sub(o i:ME)(p:Pos)
 |PY(o:ME)(lo hi:Option ME)(sp p:Pos)
 |attr(o:ME)(x:Nat)(p:Pos)
 |lst(es:List ME)(p:Pos)
 |tup(es:List ME)(k:Nat)(p:Pos)
 |OT(ks vs:List ME)(p:Pos)
 |comp(elt:ME)(g:MG)(gens:List MG)(ks:List (Nat×NameKind))(p:Pos)
 |call(f:Nat)(args:List ME)(np p:Pos)
 |new(c:Nat)(args:List ME)(np p:Pos)
 |pU(b:BF)(args:List ME)(np p:Pos)
 |gv(o:ME)(m:Nat)(args:List ME)(ap p:Pos)
 |items(o:ME)(ap p:Pos)
 |iG(e:ME)(np p1 Xq p:Pos)
inductive MG where
 |mk(t:MT)(it:ME)(ifs:List ME)
inductive MT where
 |loc(x:Nat)(p:Pos)
 |aW(x:Nat)(p:Pos)
 |cmp(x:Nat)(p:Pos)
 |tup(ts:List MT)(k:Nat)(p:Pos)
 |attr(o:ME)(x:Nat)(p:Pos)
 |sub(o i:ME)(p:Pos)
end
noncomputable def ME.ctorIdx(x:ME):Nat:=ME.casesOn x (fun ω ω ω=>0) (fun ω ω ω=>1) (fun ω ω ω=>2) (fun ω ω=>3) (fun ω ω=>4) (fun ω ω=>5) (fun ω ω=>6) (fun ω ω=>7) (fun ω ω=>8) (fun ω ω=>9) (fun ω ω ω ω=>10) (fun ω ω ω ω=>11) (fun ω ω ω ω ω ω=>12) (fun ω ω ω=>13) (fun ω ω ω ω=>14) (fun ω ω ω=>15) (fun ω ω ω ω ω=>16) (fun ω ω ω=>17) (fun ω ω=>18) (fun ω ω ω=>19) (fun ω ω ω=>20) (fun ω ω ω ω ω=>21) (fun ω ω ω ω=>22) (fun ω ω ω ω=>23) (fun ω ω ω ω=>24) (fun ω ω ω ω ω=>25) (fun ω ω ω=>26) (fun ω ω ω ω ω=>27)
noncomputable def MT.ctorIdx(x:MT):Nat:=MT.casesOn x (fun ω ω=>0) (fun ω ω=>1) (fun ω ω=>2) (fun ω ω ω=>3) (fun ω ω ω=>4) (fun ω ω ω=>5)
set_option genSizeOf true in
set_option genSizeOfSpec true in
mutual
inductive MS where
 |asg(t:MT)(e:ME)(p:Pos)
 |app(o:ME)(e:ME)(ap cp p:Pos)
 |expr(e:ME)(p:Pos)
 |ifs(t:ME)(b o:List MS)(p:Pos)
 |for(t:MT)(it:ME)(b:List MS)(p:Pos)
 |ret(e:ME)(p:Pos)
 |zS(p:Pos)
 |raise(c:Nat)(msg:Str)(k:Nat)(mp np cp p:Pos)
 |eI(p:Pos)
 |try(b:List MS)(hs:List MH)(p:Pos)
 |cont(p:Pos)
 |pass(p:Pos)
inductive MH where
 |mk(c:Nat)(np:Pos)(body:List MS)(p:Pos)
end
noncomputable def MS.ctorIdx(x:MS):Nat:=MS.casesOn x (fun ω ω ω=>0) (fun ω ω ω ω ω=>1) (fun ω ω=>2) (fun ω ω ω ω=>3) (fun ω ω ω ω=>4) (fun ω ω=>5) (fun ω=>6) (fun ω ω ω ω ω ω ω=>7) (fun ω=>8) (fun ω ω ω=>9) (fun ω=>10) (fun ω=>11)
noncomputable def lim:Nat:=100000
noncomputable def small(a:Int):Bool:=decide (-(2^62)<a)&&decide (a<2^62)
noncomputable def mE{α:Type}(a b:D)(f:Int->Int->Option α):Option α:=match a with
 |.int i=>(match b with|.int j=>f i j|_=>none)
 |_=>none
def Uy(a b:D):Option D:=match a with
 |.int i=>(match b with|.int j=>some (.int (i+j))|_=>none)
 |.list x=>(match b with|.list y=>if x.length+y.length<=lim then some (.list (x++y))else none|_=>none)
 |.tuple x=>(match b with|.tuple y=>if x.length+y.length<=lim/\x.isEmpty=false/\y.isEmpty=false then some (.tuple (x++y))else none|_=>none)
 |_=>none
def Uz(a b:D):Option D:=match a with
 |.int i=>(match b with|.int j=>if small j then some (.int (i*j))else none|_=>none)
 |.list x=>(match b with|.int n=>if small n&&decide (x.length*n.toNat<=lim)then some (.list (List.replicate n.toNat x).flatten)else none|_=>none)
 |_=>none
def fE(op:BX)(a b:D):Option D:=match op with
 |.add=>Uy a b
 |.sub=>mE a b fun a b=>some (.int (a-b))
 |.mul=>Uz a b
 |.fdiv=>mE a b fun a b=>if b=0 then none else if small b then some (.int (Int.fdiv a b))else none
 |.mod=>mE a b fun a b=>if b=0 then none else some (.int (Int.fmod a b))
 |.shr=>mE a b fun a b=>if 0<=b/\b<=64 then some (.int (Int.fdiv a (2^b.toNat)))else none
 |.band=>mE a b fun a b=>some (.int (Builtin.bitAnd a b))
def gY:D->Option Bool
 |.none=>some false
 |.bool b=>some b
 |.int i=>some (i !=0)
 |.list xs=>if xs.length<=lim then some (!xs.isEmpty)else none
 |.tuple xs=>if xs.length<=lim then some (!xs.isEmpty)else none
 |_=>none
noncomputable def cN(d:D):Bool:=d.canLay0&&decide (d.depth<=64)
def Gb(a b:D):Option Bool:=if cN a&&cN b then some (PyData.eqv a b)else none
noncomputable def Yi(a b:D):Option Bool:=match b with
 |.none=>some (match a with|.none=>true|_=>false)
 |.bool b=>some (match a with|.bool a=>a==b|_=>false)
 |_=>none
def inD(x:D)(ys:List D):Option Bool:=if cN (.list ys)&&cN x then some (ys.any fun y=>PyData.eqv y x)else none
def UA(a b:D):Option Bool:=mE a b fun a b=>some (a==b)
noncomputable def qz(a b:D):Option Bool:=match a with
 |.str i=>(match b with|.str j=>some (i==j)|_=>none)
 |_=>none
noncomputable def fw(x:D):List (D×D)->Option (Option D)
 | []=>some none
 |(k,v)::r=>match qz k x with
  |some true=>some (some v)
  |some false=>fw x r
  |none=>none
def Yj(x b:D):Option Bool:=match b with
 |.list ys=>(inD x ys).map (!·)
 |_=>none
noncomputable def UB(x b:D):Option Bool:=match x with
 |.str a=>(match b with|.str b=>some (!(Builtin.Str.occurrences b a 0 b.length 1).isEmpty)|_=>none)
 |_=>none
def bp(op:CmpOp)(a b:D):Option Bool:=match op with
 |.Eq=>Gb a b
 |.NotEq=>(Gb a b).map (!·)
 |.Lt=>mE a b fun a b=>some (decide (a<b))
 |.LtE=>mE a b fun a b=>some (decide (a<=b))
 |.Gt=>mE a b fun a b=>some (decide (b<a))
 |.GtE=>mE a b fun a b=>some (decide (b<=a))
 |.Is=>Yi a b
 |.IsNot=>(Yi a b).map (!·)
 |.In=>UB a b
 |.NotIn=>Yj a b
noncomputable def Gd(xs:List D)(i:Int):Option D:=
 if 0<=i then(if i<2^62 then xs[i.toNat]? else none)else if-(xs.length:Int)<=i/\ -(2^62)<i then xs[(i+xs.length).toNat]? else none
def bZ:D->D->Option D
 |.list xs,.int i=>Gd xs i
 |.tuple xs,.int i=>Gd xs i
 |.dict kvs,k=>(fw k kvs).join
 |_,_=>none
noncomputable def eJ(n:Nat)(i:Int):Nat:=if i<0 then(i+n).toNat else min i.toNat n
def OU(n:Nat)(dflt:Nat):Option D->Option Nat
 |none=>some dflt
 |some (.int i)=>if small i then some (eJ n i)else none
 |_=>none
def cut(xs:List D)(lo hi:Option D):Option (List D):=
 match OU xs.length 0 lo,OU xs.length xs.length hi with
 |some a,some b=>some ((xs.take b).drop a)
 |_,_=>none
def fZ(d:D)(lo hi:Option D):Option D:=match d with
 |.list xs=>if xs.length<=lim then(cut xs lo hi).map .list else none
 |.tuple xs=>if xs.length<=lim then(match lo with
  |none=>(match hi with
   |some (.int b)=>if 1<=b/\b<xs.length then some (.tuple (xs.take b.toNat))else none
   |_=>none)
  |some (.int a)=>(match hi with
   |none=>if 1<=a/\a<=xs.length then some (.tuple (xs.drop a.toNat))else none
   |_=>none)
  |_=>none)else none
 |_=>none
noncomputable def ue:D->Option (List D)
 |.list xs=>some xs
 |.tuple xs=>some xs
 |.str s=>some (s.cps.toList.map fun c=>.str ⟨#[c]⟩)
 |_=>none
def xp:D->Option Nat
 |.list xs=>if xs.length<=lim then some xs.length else none
 |_=>none
noncomputable def Ge:List D->Option Int
 | []=>some 0
 |.int i::r=>(Ge r).map (i+ ·)
 |_=>none
noncomputable def dput(k v:D):List (D×D)->Option (List (D×D))
 | []=>some [(k,v)]
 |(k',v')::r=>match UA k' k with
  |some true=>some ((k',v)::r)
  |some false=>(dput k v r).map ((k',v'):: ·)
  |none=>none
noncomputable def dictFrom:List D->List (D×D)->Option (List (D×D))
 | [],acc=>some acc
 |.tuple [.int k,v]::r,acc=>(match dput (.int k) v acc with|some a=>dictFrom r a|none=>none)
 |_::_,_=>none
theorem Gf{k i:Int}{v v':D}{r:List (D×D)}:dput (.int k) v ((.int i,v')::r)=bif i==k then some ((.int i,v)::r)else(dput (.int k) v r).map ((.int i,v'):: ·):=by
 show(match some (i==k)with|some true=>_|some false=>_|none=>_)=_;cases i==k<;>rfl
noncomputable def UC:D->D->Option Bool
 |.tuple [.int a,.int b],.tuple [.int c,.int d]=>some (if a=c then decide (b<d)else decide (a<c))
 |_,_=>none
noncomputable def xq(x:D):List D->Option (List D)
 | []=>some [x]
 |y::ys=>match UC x y with
  |some true=>some (x::y::ys)
  |some false=>(xq x ys).map (y:: ·)
  |none=>none
noncomputable def ry:List D->List D->Option (List D)
 | [],acc=>some acc
 |x::r,acc=>match xq x acc with|some a=>ry r a|none=>none
theorem Gg{x y:D}{ys:List D}{b:Bool}(h:UC x y=some b):xq x (y::ys)=bif b then some (x::y::ys)else(xq x ys).map (y:: ·):=by
 show(match UC x y with|some true=>_|some false=>_|none=>_)=_;rw[h];cases b<;>rfl
theorem BY{x:D}{r acc a:List D}(h:xq x acc=some a):ry (x::r) acc=ry r a:=by
 show(match xq x acc with|some a=>ry r a|none=>none)=_;rw[h]
noncomputable def vm:D->Bool
 |.tuple [.int _,.int _]=>true
 |_=>false
def gA(xs:List D):Option (List D):=if xs.length<=5&&xs.all vm then ry xs []else none
noncomputable def gZ(n:Int):Option (List D):=if n<=1000/\ -(2^62)<n then some ((List.range n.toNat).map fun(i:Nat)=>.int (i:Int))else none
noncomputable def look{α:Type}(x:Nat):List (Nat×α)->Option α
 | []=>none
 |(y,v)::r=>bif x==y then some v else look x r
noncomputable def put{α:Type}(x:Nat)(v:α):List (Nat×α)->List (Nat×α)
 | []=>[(x,v)]
 |(y,u)::r=>bif x==y then(y,v)::r else(y,u)::put x v r
theorem BZ{α:Type}(x y:Nat)(a b:α):(bif x==y then a else b)=if x=y then a else b:=by
 by_cases h:x=y
 ·rw[if_pos h,fY.mpr h];rfl
 ·rw[aw h,Bx.mpr h];rfl
theorem dh(x):look x ([]:List (Nat×α))=none:=rfl
theorem cu(x y)(v:α)(r):look x ((y,v)::r)=if x=y then some v else look x r:=BZ ..
theorem dO:∀{l:List (Nat×α)},look x l=some v->(x,v)∈l
 | [],h=>by cases h
 |(y,u)::r,h=>by
  rw[cu]at h;by_cases e:x=y
  ·rw[if_pos e]at h;cases h;subst e;exact .head _
  ·rw[aw e]at h;exact .tail _ (dO h)
noncomputable def B0(c m:Nat):List (Nat×Nat×Nat)->Option Nat
 | []=>none
 |(a,b,f)::r=>bif a==c&&b==m then some f else B0 c m r
theorem oN:∀{l:List (Nat×Nat×Nat)},B0 c m l=some f->(c,m,f)∈l
 | [],h=>by cases h
 |(a,b,g)::r,h=>by
  replace h:(bif a==c&&b==m then some g else B0 c m r)=some f:=h;by_cases e:a=c/\b=m
  ·obtain⟨rfl,rfl⟩:=e;rw[rl,rl]at h;cases h;exact .head _
  ·have z:(a==c&&b==m)=false:=by
    cases q:a==c&&b==m with
    |false=>rfl
    |true=>rw[dg,fY,fY]at q;exact absurd q e
   rw[z]at h;exact .tail _ (oN h)
theorem OV(x)(v:α):put x v []= [(x,v)]:=rfl
theorem B1(x y)(v u:α)(r):put x v ((y,u)::r)=if x=y then(y,v)::r else(y,u)::put x v r:=BZ ..
def fld(objs:List bt)(k x:Nat):Option LV:=match objs[k]? with
 |some o=>if o.live then look x o.gW else none
 |none=>none
def di(objs:List bt)(k x:Nat)(v:LV):Option (List bt):=match objs[k]? with
 |some o=>if o.live then some (objs.set k {o with gW:=put x v o.gW})else none
 |none=>none
noncomputable def hidden(objs:List bt):List bt:=objs.map fun ω=>⟨false,0,[]⟩
noncomputable def LV.shut:LV->LV
 |.own xs=>.dat (.list xs)
 |v=>v
abbrev Call:=Nat->List RV->List bt->gu
structure FD where
 params:List (Nat×Bool)
 kinds:List (Nat×NameKind)
 fast:List Nat
 body:List MS
structure dH where
 fn:Nat->Option FD
 gv:Nat->Nat->Option Nat
 init:Nat->Option Nat
 oM:Nat->Option D
 ju:Nat->Nat->Bool
 deep:Nat->Bool
def eK(P:dH)(objs:List bt)(k x:Nat)(v:LV):Option (List bt):=match objs[k]? with
 |some o=>if P.ju o.cls x then di objs k x v else none
 |none=>none
structure Ev where
 val:St->Res RV
 gw:St->Res Bool
 pk:St->Res D
 it:St->Res (List D×Bool)
def pV:St->Res RV:=fun ω=>.bad
def bc(v:St->Res RV):Ev where
 val:=v
 gw st:=(v st).bind fun r st=>match r with|.dat d=>opt (gY d) st|.ref _=>.bad
 pk st:=(v st).bind fun r st=>match r with|.dat d=>.ok d st|.ref _=>.bad
 it st:=(v st).bind fun r st=>match r with|.dat d=>opt ((ue d).map (·,false)) st|.ref _=>.bad
def Ev.dat(e:Ev)(st:St):Res D:=(e.val st).bind fun r st=>match r with|.dat d=>.ok d st|.ref _=>.bad
def bV(v:St->Res D):Ev:=bc fun st=>(v st).bind fun d st=>.ok (.dat d) st
def ofBool(b:St->Res Bool):Ev:={bc (fun st=>(b st).bind fun b st=>.ok (.dat (.bool b)) st)with gw:=b}
def lB(b:St->Res Bool):Ev:={bc pV with gw:=b}
def rz(i:St->Res (List D×Bool)):Ev:={bc pV with it:=i}
noncomputable def g4:List Ev->St->Res (List RV)
 | [],st=>.ok [] st
 |e::es,st=>(e.val st).bind fun r st=>(g4 es st).bind fun rs st=>.ok (r::rs) st
noncomputable def gx:List Ev->St->Res (List D)
 | [],st=>.ok [] st
 |e::es,st=>(e.dat st).bind fun r st=>(gx es st).bind fun rs st=>.ok (r::rs) st
def pW:Option Ev->St->Res (Option D)
 |none,st=>.ok none st
 |some e,st=>(e.dat st).bind fun d st=>.ok (some d) st
noncomputable def mF(op:BoolOp):List Ev->St->Res Bool
 | [],st=>.ok (op== .And) st
 |e::es,st=>(e.gw st).bind fun b st=>match op,b with
  |.And,false=>.ok false st
  |.Or,true=>.ok true st
  |_,_=>mF op es st
def rA(x:Nat):Ev:=
 let v (st:St):Res RV:=match look x st.loc with
  |some (.dat d)=>.ok (.dat d) st
  |some (.ref k)=>.ok (.ref k) st
  |some (.own xs)=>.ok (.dat (.list xs)) {st with loc:=put x (.dat (.list xs)) st.loc}
  |none=>.bad
 {bc v with pk:=fun st=>match look x st.loc with
  |some (.dat d)=>.ok d st
  |some (.own xs)=>.ok (.list xs) st
  |_=>.bad}
def OW(x:Nat):Ev:=bc fun st=>match look x st.aW with
  |some (.dat d)=>.ok (.dat d) st
  |some (.ref k)=>.ok (.ref k) st
  |_=>.bad
def OX(x:Nat):Ev:=bc fun st=>match look x st.cmp with
  |some (.dat d)=>.ok (.dat d) st
  |_=>.bad
def mG(o:Ev)(x:Nat):Ev:=
 let v (st:St):Res RV:=(o.val st).bind fun r st=>match r with
  |.dat _=>.bad
  |.ref k=>match fld st.objs k x with
   |some (.dat d)=>.ok (.dat d) st
   |some (.ref j)=>.ok (.ref j) st
   |some (.own xs)=>(match di st.objs k x (.dat (.list xs))with
    |some os=>.ok (.dat (.list xs)) {st with objs:=os}
    |none=>.bad)
   |none=>.bad
 {bc v with
  pk:=fun st=>(o.val st).bind fun r st=>match r with
   |.dat _=>.bad
   |.ref k=>match fld st.objs k x with
    |some (.dat d)=>.ok d st
    |some (.own xs)=>.ok (.list xs) st
    |_=>.bad
  it:=fun st=>(o.val st).bind fun r st=>match r with
   |.dat _=>.bad
   |.ref k=>match fld st.objs k x with
    |some (.dat d)=>opt ((ue d).map (·,false)) st
    |some (.own xs)=>.ok (xs,true) st
    |_=>.bad}
noncomputable def oO:List RV->Option (List D)
 | []=>some []
 |.dat d::r=>(oO r).map (d:: ·)
 |.ref _::_=>none
def g5(call:Call)(f:Nat)(rs:List RV)(st:St):Res RV:=match oO rs with
 |some _=>(match call f rs []with
  |.ok (.dat d) _=>.ok (.dat d) st
  |.exc x _=>.exc x st
  |_=>.bad)
 |none=>(match call f rs st.objs with
  |.ok r os=>.ok r {st with objs:=os}
  |.exc x os=>.exc x {st with objs:=os}
  |.bad=>.bad)
noncomputable def bM(call:Call)(f:Nat)(rs:List RV)(st:St):Res RV:=match call f rs st.objs with
  |.ok r os=>.ok r {st with objs:=os}
  |.exc x os=>.exc x {st with objs:=os}
  |.bad=>.bad
noncomputable def mn:MT->D->Option (List (Nat×LV))
 |.cmp x _,d=>some [(x,.dat d)]
 |_,_=>none
structure Gen where
 t:MT
 it:Ev
 ifs:List Ev
noncomputable def iH:List (Option (List D))->Option (List D)
 | []=>some []
 |none::_=>none
 |some ds::r=>(iH r).map (ds++ ·)
theorem Ka{ds:List D}{r:List (Option (List D))}:iH (some ds::r)=(iH r).map (ds++ ·):=rfl
noncomputable def cv(elt:Ev):List Gen->MT->List Ev->List D->St->Option (List D)
 | [],t,ifs,items,st=>iH (items.map fun d=>match mn t d with
   |none=>none
   |some b=>
    if b.all (fun x=>(look x.1 st.cmp).isNone)=false then none else
    let st1:St:={st with cmp:=b++st.cmp}
    match mF .And ifs st1 with
    |.ok false st2=>if st2.objs.isEmpty then some []else none
    |.ok true st2=>(match elt.dat st2 with|.ok v gB=>if gB.objs.isEmpty then some [v]else none|_=>none)
    |_=>none)
 |g::gs,t,ifs,items,st=>iH (items.map fun d=>match mn t d with
   |none=>none
   |some b=>
    if b.all (fun x=>(look x.1 st.cmp).isNone)=false then none else
    let st1:St:={st with cmp:=b++st.cmp}
    match mF .And ifs st1 with
    |.ok false st2=>if st2.objs.isEmpty then some []else none
    |.ok true st2=>(match g.it.it st2 with|.ok (its,false) gB=>if gB.objs.isEmpty then cv elt gs g.t g.ifs its st1 else none|_=>none)
    |_=>none)
noncomputable def dj:LV->Bool
 |.dat _=>true
 |_=>false
def bH(elt:Ev)(g:Gen)(gs:List Gen)(st:St):Res (List D):=
 (g.it.it st).bind fun r st=>if st.aW.all (fun x=>dj x.2)=false then .bad else match cv elt gs g.t g.ifs r.1 ⟨[],st.aW,[],[]⟩with
  |some ds=>if ds.length<=lim then .ok ds st else .bad
  |none=>.bad
noncomputable def UD:ME->Bool
 |.i9 ..=>true
 |_=>false
def cC:ME->Bool
 |.i9 ..=>true
 |.loc ..=>true
 |.aW ..=>true
 |.cmp ..=>true
 |.neg e _=>UD e
 |_=>false
def OY(simple:Bool)(o i:Ev):Ev:=bV fun st=>
 if simple then(o.pk st).bind fun d st=>(i.dat st).bind fun k st=>opt (bZ d k) st
 else(o.dat st).bind fun d st=>(i.dat st).bind fun k st=>opt (bZ d k) st
noncomputable def kr(a b:List D):List D:=List.zipWith (fun x y=>.tuple [x,y]) a b
noncomputable def Gh:D->Option (List D)
 |.list xs=>some xs
 |.str s=>some (s.cps.toList.map fun c=>.str ⟨#[c]⟩)
 |_=>none
noncomputable def xr(x y:D):Option (List D):=match y with
 |.list ys=>(Gh x).map fun xs=>kr xs ys
 |_=>none
def two(es:List Ev)(f:D->D->Option D):Ev:=match es with
 | [a,b]=>bV fun st=>(a.dat st).bind fun x st=>(b.dat st).bind fun y st=>opt (f x y) st
 |_=>bc pV
def minD(a b:D):Option D:=mE a b fun a b=>some (.int (if b<a then b else a))
def maxD(a b:D):Option D:=mE a b fun a b=>some (.int (if a<b then b else a))
noncomputable def shape:List ME->Bool
 | [.pU .range _ _ _]=>true
 | [.items _ _ _]=>true
 |_=>false
noncomputable def xt:D->Option (List D)
 |.list xs=>some xs
 |.tuple xs=>some xs
 |_=>none
def Kb:Bool->BF->List Ev->Ev
 |_,.len,[e]=>bV fun st=>(e.pk st).bind fun d st=>opt ((xp d).map fun n=>.int n) st
 |false,.list,[e]=>bV fun st=>(e.dat st).bind fun d st=>match xt d with|some xs=>if xs.length<=lim then .ok (.list xs) st else .bad|none=>.bad
 |_,.sum,[e]=>bV fun st=>(e.dat st).bind fun d st=>match d with|.list xs=>opt ((Ge xs).map .int) st|_=>.bad
 |_,.min,es=>two es minD
 |_,.max,es=>two es maxD
 |false,.sorted,[e]=>bV fun st=>(e.dat st).bind fun d st=>match d with|.list xs=>opt ((gA xs).map .list) st|_=>.bad
 |true,.sorted,[e]=>bV fun st=>(e.it st).bind fun r st=>if r.2 then .bad else opt ((gA r.1).map .list) st
 |_,.dict,[e]=>bV fun st=>(e.dat st).bind fun d st=>match d with|.list xs=>if xs.length<=lim then opt ((dictFrom xs []).map .dict) st else .bad|_=>.bad
 |_,.range,[e]=>rz fun st=>(e.dat st).bind fun d st=>match d with|.int n=>opt ((gZ n).map (·,false)) st|_=>.bad
 |_,.zip,[a,b]=>rz fun st=>(a.dat st).bind fun x st=>(b.dat st).bind fun y st=>opt ((xr x y).map (·,false)) st
 |_,_,_=>bc pV
def vn(k v:D)(acc:List (D×D)):Option (List (D×D)):=match k with
 |.str x=>(match fw (.str x) acc with
  |some none=>some (acc++ [(.str x,v)])
  |_=>none)
 |_=>none
noncomputable def g7:List Ev->List Ev->St->List (D×D)->Res (List (D×D))
 | [],[],st,acc=>.ok acc st
 |k::ks,v::vs,st,acc=>(k.dat st).bind fun a st=>(v.dat st).bind fun b st=>match vn a b acc with|some acc=>g7 ks vs st acc|none=>.bad
 |_,_,_,_=>.bad
def vp:D->Bool
 |.bool _=>true
 |_=>false
mutual
noncomputable def ev(P:dH)(call:Call):ME->Ev
 |.i9 i _ _=>bc fun st=>.ok (.dat (.int i)) st
 |.oL s _ _=>bc fun st=>.ok (.dat (.str s)) st
 |.mj b _ _=>bc fun st=>.ok (.dat (.bool b)) st
 |.jt _ _=>bc fun st=>.ok (.dat .none) st
 |.neg e _=>bV fun st=>((ev P call e).dat st).bind fun d st=>match d with|.int i=>.ok (.int (-i)) st|_=>.bad
 |.not e _=>lB fun st=>((ev P call e).gw st).bind fun b st=>.ok (!b) st
 |.loc x _=>rA x
 |.aW x _=>OW x
 |.cmp x _=>OX x
 |.oM x _=>bc fun st=>opt ((P.oM x).map .dat) st
 |.bin op l r _=>bV fun st=>((ev P call l).dat st).bind fun a st=>((ev P call r).dat st).bind fun b st=>opt (fE op a b) st
 |.rel op l r _=>ofBool fun st=>((ev P call l).dat st).bind fun a st=>((ev P call r).dat st).bind fun b st=>opt (bp op a b) st
 |.zR o1 o2 a b c _=>lB fun st=>((ev P call a).dat st).bind fun x st=>((ev P call b).dat st).bind fun y st=>
   (opt (bp o1 x y) st).bind fun t st=>if t then((ev P call c).dat st).bind fun z st=>opt (bp o2 y z) st else .ok false st
 |.bool op es _=>lB (mF op (bS P call es))
 |.ite t a b _=>
  {bc (fun st=>((ev P call t).gw st).bind fun c st=>if c then(ev P call a).val st else(ev P call b).val st)with gw:=(bc pV).gw}
 |.sub o i _=>OY (cC i) (ev P call o) (ev P call i)
 |.PY o lo hi _ _=>bV fun st=>((ev P call o).dat st).bind fun d st=>(pW (OZ P call lo) st).bind fun a st=>(pW (OZ P call hi) st).bind fun b st=>opt (fZ d a b) st
 |.attr o x _=>mG (ev P call o) x
 |.lst es _=>bV fun st=>(gx (bS P call es) st).bind fun ds st=>.ok (.list ds) st
 |.tup es _ _=>bV fun st=>(gx (bS P call es) st).bind fun ds st=>.ok (.tuple ds) st
 |.OT ks vs _=>bV fun st=>(g7 (bS P call ks) (bS P call vs) st []).bind fun kvs st=>.ok (.dict kvs) st
 |.comp elt g gs _ _=>bV fun st=>(bH (ev P call elt) (TQ P call g) (Kc P call gs) st).bind fun ds st=>.ok (.list ds) st
 |.call f args _ _=>bc fun st=>(g4 (bS P call args) st).bind fun rs st=>g5 call f rs st
 |.new c args _ _=>bc fun st=>(g4 (bS P call args) st).bind fun rs st=>match P.init c with
  |none=>.bad
  |some f=>(match call f (.ref st.objs.length::rs) (st.objs++ [⟨true,c,[]⟩])with
   |.ok (.dat .none) os=>.ok (.ref st.objs.length) {st with objs:=os}
   |_=>.bad)
 |.pU b args _ _=>Kb (shape args) b (bS P call args)
 |.gv o m args _ _=>bc fun st=>((ev P call o).val st).bind fun r st=>match r with
  |.dat _=>.bad
  |.ref k=>match st.objs[k]? with
   |none=>.bad
   |some ob=>if ob.live then(match P.gv ob.cls m with
    |none=>.bad
    |some f=>(g4 (bS P call args) st).bind fun rs st=>bM call f (.ref k::rs) st)else .bad
 |.items o _ _=>rz fun st=>((ev P call o).dat st).bind fun d st=>match d with
  |.dict kvs=>.ok (kvs.map fun p=>.tuple [p.1,p.2],false) st
  |_=>.bad
 |.iG e _ _ _ _=>lB fun st=>((ev P call e).dat st).bind fun d st=>if vp d then .ok false st else .bad
noncomputable def bS(P:dH)(call:Call):List ME->List Ev
 | []=>[]
 |e::es=>ev P call e::bS P call es
noncomputable def OZ(P:dH)(call:Call):Option ME->Option Ev
 |none=>none
 |some e=>some (ev P call e)
noncomputable def TQ(P:dH)(call:Call):MG->Gen
 |.mk t it ifs=>⟨t,ev P call it,bS P call ifs⟩
noncomputable def Kc(P:dH)(call:Call):List MG->List Gen
 | []=>[]
 |g::gs=>TQ P call g::Kc P call gs
end
def nA(P:dH)(call:Call):ME->St->Res LV
 |.lst es _,st=>(gx (bS P call es) st).bind fun ds st=>.ok (.own ds) st
 |e,st=>((ev P call e).val st).bind fun r st=>.ok r.lv st
def Kd(P:dH)(call:Call):ME->St->Res LV
 |.lst es _,st=>(gx (bS P call es) st).bind fun ds st=>.ok (.own ds) st
 |.comp elt g gs _ _,st=>(bH (ev P call elt) (TQ P call g) (Kc P call gs) st).bind fun ds st=>.ok (.own ds) st
 |e,st=>((ev P call e).val st).bind fun r st=>.ok r.lv st
def th:MT->LV->St->Option St
 |.loc x _,v,st=>some {st with loc:=put x v st.loc}
 |.aW x _,v,st=>some {st with aW:=put x v.shut st.aW}
 |_,_,_=>none
noncomputable def eL:List MT->List LV->St->Option St
 | [],[],st=>some st
 |t::ts,v::vs,st=>(th t v st).bind (eL ts vs)
 |_,_,_=>none
noncomputable def rB:D->Option (List D)
 |.tuple ds=>some ds
 |_=>none
def fu:MT->D->St->Option St
 |.tup ts _ _,d,st=>(rB d).bind fun ds=>eL ts (ds.map .dat) st
 |t,d,st=>th t (.dat d) st
inductive Place where
 |loc(x:Nat)
 |fld(k x:Nat)
noncomputable def Place.ctorIdx(x:Place):Nat:=Place.casesOn x (fun ω=>0) (fun ω ω=>1)
def placeOf:ME->St->Option Place
 |.loc x _,_=>some (.loc x)
 |.attr (.loc y _) x _,st=>match look y st.loc with
  |some (.ref k)=>some (.fld k x)
  |_=>none
 |_,_=>none
def ownAt:Place->St->Option (List D)
 |.loc x,st=>match look x st.loc with|some (.own xs)=>some xs|_=>none
 |.fld k x,st=>match fld st.objs k x with|some (.own xs)=>some xs|_=>none
def ja:Place->List D->St->Option St
 |.loc x,xs,st=>some {st with loc:=put x (.own xs) st.loc}
 |.fld k x,xs,st=>(di st.objs k x (.own xs)).map fun os=>{st with objs:=os}
noncomputable def ku(xs:List D)(i:Int)(v:D):Option (List D):=
 if 0<=i/\i<xs.length/\i<2^62 then some (xs.set i.toNat v)else none
def fF:MT->Bool
 |.loc _ _=>true
 |_=>false
def zT(P:dH)(call:Call):List ME->St->Res (List LV)
 | [],_=>.bad
 |e::es,st=>(nA P call e st).bind fun v st=>(g4 (bS P call es) st).bind fun rs st=>.ok (v::rs.map RV.lv) st
def Gi(P:dH)(call:Call):MT->ME->St->Res dJ
 |.loc x p,e,st=>(nA P call e st).bind fun v st=>(opt (th (.loc x p) v st) st).bind fun st ω=>.ok .next st
 |.aW x p,e,st=>(nA P call e st).bind fun v st=>(opt (th (.aW x p) v st) st).bind fun st ω=>.ok .next st
 |.attr (.loc y _) x _,e,st=>(Kd P call e st).bind fun v st=>match look y st.loc with
  |some (.ref k)=>(match eK P st.objs k x v with
   |some os=>.ok .next {st with objs:=os}
   |none=>.bad)
  |_=>.bad
 |.attr ..,_,_=>.bad
 |.sub o i _,e,st=>((ev P call e).dat st).bind fun v st=>(opt (placeOf o st) st).bind fun pl st=>if cC i then((ev P call i).dat st).bind fun k st=>(match k with
  |.int j=>(match ownAt pl st with
   |some xs=>(match ku xs j v with
    |some ys=>(match ja pl ys st with
     |some st=>.ok .next st
     |none=>.bad)
    |none=>.bad)
   |none=>.bad)
  |_=>.bad)else .bad
 |.tup ts k p,.tup es k' p',st=>if ts.all fF then(zT P call es st).bind fun vs st=>(opt (eL ts.reverse vs.reverse st) st).bind fun st ω=>.ok .next st
  else((ev P call (.tup es k' p')).dat st).bind fun d st=>(opt (fu (.tup ts k p) d st) st).bind fun st ω=>.ok .next st
 |.tup ts k p,e,st=>((ev P call e).dat st).bind fun d st=>(opt (fu (.tup ts k p) d st) st).bind fun st ω=>.ok .next st
 |.cmp ..,_,_=>.bad
noncomputable def g8:ME->Option D
 |.i9 i _ _=>some (.int i)
 |.oL s _ _=>some (.str s)
 |.mj b _ _=>some (.bool b)
 |.jt _ _=>some .none
 |_=>none
noncomputable def eM(P:dH)(x:Nat):List MS->St->Res dJ
 | [],st=>.ok .next st
 |.pass _::r,st=>eM P x r st
 |.asg (.loc y _) e _::r,st=>match g8 e with
  |some d=>eM P x r {st with loc:=put y (.dat d) st.loc}
  |none=>.bad
 |.asg (.attr (.loc y _) f _) e _::r,st=>match g8 e,look y st.loc with
  |some d,some (.ref k)=>(match eK P st.objs k f (.dat d)with
   |some os=>eM P x r {st with objs:=os}
   |none=>.bad)
  |_,_=>.bad
 |.raise c _ _ _ _ _ _::_,st=>if P.deep x=false/\P.deep c=true then .exc c st else .bad
 |.eI _::_,st=>.exc x st
 |_,_=>.bad
noncomputable def handle(P:dH)(x:Nat):List MH->St->Res dJ
 | [],st=>.exc x st
 |.mk c _ body _::hs,st=>if c=x then eM P x body st else handle P x hs st
theorem Gj{P:dH}{x:Nat}{st:St}:handle P x [] st= .exc x st:=rfl
theorem xu{P:dH}{x c:Nat}{a b:Pos}{body:List MS}{hs:List MH}{st:St}:handle P x (.mk c a body b::hs) st=if c=x then eM P x body st else handle P x hs st:=rfl
noncomputable def aO(t:MT)(body:St->Res dJ):List D->St->Res dJ
 | [],st=>.ok .next st
 |d::ds,st=>match fu t d st with
  |none=>.bad
  |some st=>(body st).bind fun f st=>match f with
   |.ret r=>.ok (.ret r) st
   |_=>aO t body ds st
theorem B2{t:MT}{body:St->Res dJ}{d:D}{ds:List D}{st:St}:aO t body (d::ds) st=match fu t d st with
  |none=>.bad
  |some st=>(body st).bind fun f st=>match f with
   |.ret r=>.ok (.ret r) st
   |_=>aO t body ds st:=rfl
noncomputable def bx(objs:List bt):Res dJ->Res dJ
 |.ok f st=>if st.objs.length=objs.length then .ok f {st with objs:=objs}else .bad
 |.exc x st=>if st.objs.length=objs.length then .exc x {st with objs:=objs}else .bad
 |.bad=>.bad
theorem uf{objs:List bt}{f:dJ}{st:St}(h:st.objs.length=objs.length):bx objs (.ok f st)= .ok f {st with objs:=objs}:=if_pos h
theorem rC{objs:List bt}{x:Nat}{st:St}(h:st.objs.length=objs.length):bx objs (.exc x st)= .exc x {st with objs:=objs}:=if_pos h
theorem Gk{objs:List bt}{f:dJ}{st:St}(h:bx objs (.ok f st)≠ .bad):st.objs.length=objs.length:=Bc fun z=>h (aw z)
theorem Gm{objs:List bt}{x:Nat}{st:St}(h:bx objs (.exc x st)≠ .bad):st.objs.length=objs.length:=Bc fun z=>h (aw z)
mutual
noncomputable def exec(P:dH)(call:Call):MS->St->Res dJ
 |.asg t e _,st=>Gi P call t e st
 |.app o e _ _ _,st=>(match placeOf o st with
  |none=>.bad
  |some (.loc x)=>(match ownAt (.loc x) st with
   |none=>.bad
   |some _=>((ev P call e).dat st).bind fun d st=>match ownAt (.loc x) st with
    |none=>.bad
    |some xs=>if xs.length<=lim then .ok .next {st with loc:=put x (.own (xs++ [d])) st.loc}else .bad)
  |some (.fld k x)=>(match ownAt (.fld k x) st with
   |none=>.bad
   |some xs=>if xs.length<=lim then(match(ev P call e).dat {st with objs:=hidden st.objs}with
    |.ok d st1=>if st1.objs.length=st.objs.length then(match di st.objs k x (.own (xs++ [d]))with
     |some os=>.ok .next {st1 with objs:=os}
     |none=>.bad)else .bad
    |_=>.bad)else .bad))
 |.expr e _,st=>((ev P call e).val st).bind fun ω st=>.ok .next st
 |.ifs t b o _,st=>((ev P call t).gw st).bind fun c st=>if c then execs P call b st else execs P call o st
 |.for t it b _,st=>((ev P call it).it st).bind fun r st=>
   if r.2 then bx st.objs (aO t (execs P call b) r.1 {st with objs:=hidden st.objs})else aO t (execs P call b) r.1 st
 |.ret e _,st=>((ev P call e).val st).bind fun r st=>.ok (.ret r) st
 |.zS _,st=>.ok (.ret (.dat .none)) st
 |.raise c _ _ _ _ _ _,st=>.exc c st
 |.eI _,_=>.bad
 |.try b hs _,st=>match execs P call b st with
  |.exc x st=>handle P x hs st
  |r=>r
 |.cont _,st=>.ok .cont st
 |.pass _,st=>.ok .next st
noncomputable def execs(P:dH)(call:Call):List MS->St->Res dJ
 | [],st=>.ok .next st
 |m::ms,st=>(exec P call m st).bind fun f st=>match f with
  |.next=>execs P call ms st
  |f=>.ok f st
end
noncomputable def ky:List (Nat×Bool)->List RV->St->Option St
 | [],[],st=>some st
 |(x,c)::ps,r::rs,st=>if c then(ky ps rs {st with aW:=st.aW++ [(x,r.lv)]})else ky ps rs {st with loc:=st.loc++ [(x,r.lv)]}
 |_,_,_=>none
noncomputable def Dk:Res dJ->gu
 |.ok .next st=>.ok (.dat .none) st.objs
 |.ok (.ret r) st=>.ok r st.objs
 |.ok .cont _=>.bad
 |.exc x st=>.exc x st.objs
 |.bad=>.bad
def mr(P:dH)(cf:Call)(fd:FD)(rs:List RV)(objs:List bt):gu:=match ky fd.params rs ⟨[],[],[],objs⟩with
 |none=>.bad
 |some st=>Dk (execs P cf fd.body st)
noncomputable def ae(P:dH):Nat->Call
 |0=>fun ω ω ω=>.bad
 |n+1=>fun f rs objs=>match P.fn f with
  |none=>.bad
  |some fd=>mr P (ae P n) fd rs objs
theorem qN{P:dH}{cf:Call}{fd:FD}{rs:List RV}{objs:List bt}{st:St}(h:ky fd.params rs ⟨[],[],[],objs⟩=some st):mr P cf fd rs objs=Dk (execs P cf fd.body st):=by
 delta mr;rw[h]
theorem qO{P:dH}{n f:Nat}{fd:FD}{rs:List RV}{objs:List bt}(h:P.fn f=some fd):ae P (n+1) f rs objs=mr P (ae P n) fd rs objs:=by
 show(match P.fn f with|none=>gu.bad|some fd=>mr P (ae P n) fd rs objs)=_;rw[h]
noncomputable def UE:BX->Operator
 |.add=>.Add|.sub=>.Sub|.mul=>.Mult|.fdiv=>.FloorDiv|.mod=>.Mod|.shr=>.RShift|.band=>.BitAnd
noncomputable def oP:BF->Nat
 |.len=>0|.list=>1|.sum=>2|.min=>3|.max=>4|.sorted=>5|.dict=>6|.range=>7|.zip=>8
noncomputable def bh(nm:Nat->Str)(ks:List (Nat×NameKind))(fast:List Nat):Scope:=⟨.function,ks.map (fun p=>(nm p.1,p.2)),false,false,fast.map fun x=>("fast",.str (nm x))⟩
mutual
noncomputable def aB(nm:Nat->Str):ME->Expr
 |.i9 i k p=>.Constant (.int i) k p
 |.oL s k p=>.Constant (.str s) k p
 |.mj b k p=>.Constant (.bool b) k p
 |.jt k p=>.Constant .none k p
 |.neg e p=>.UnaryOp .USub (aB nm e) p
 |.not e p=>.UnaryOp .Not (aB nm e) p
 |.loc x p=>.Name (nm x) p
 |.aW x p=>.Name (nm x) p
 |.cmp x p=>.Name (nm x) p
 |.oM x p=>.Name (nm x) p
 |.bin op l r p=>.BinOp (aB nm l) (UE op) (aB nm r) p
 |.rel op l r p=>.Compare (aB nm l) [op] [aB nm r] p
 |.zR o1 o2 a b c p=>.Compare (aB nm a) [o1,o2] [aB nm b,aB nm c] p
 |.bool op es p=>.BoolOp op (ba nm es) p
 |.ite t a b p=>.IfExp (aB nm t) (aB nm a) (aB nm b) p
 |.sub o i p=>.Subscript (aB nm o) (aB nm i) p
 |.PY o lo hi sp p=>.Subscript (aB nm o) (.Slice (Gn nm lo) (Gn nm hi) none sp) p
 |.attr o x p=>.Attribute (aB nm o) (nm x) p
 |.lst es p=>.List (ba nm es) p
 |.tup es k p=>.Tuple (ba nm es) k p
 |.OT ks vs p=>.Dict (B3 nm ks) (ba nm vs) p
 |.comp elt g gs ks p=>.ListComp (aB nm elt) (toG nm g::UG nm gs) (bh nm ks []) p
 |.call f args np p=>.Call (.Name (nm f) np) (ba nm args) [] p
 |.new c args np p=>.Call (.Name (nm c) np) (ba nm args) [] p
 |.pU b args np p=>.Call (.Name (nm (oP b)) np) (ba nm args) [] p
 |.gv o m args ap p=>.Call (.Attribute (aB nm o) (nm m) ap) (ba nm args) [] p
 |.items o ap p=>.Call (.Attribute (aB nm o) "items" ap) [] [] p
 |.iG e np p1 Xq p=>.Compare (.Call (.Name (nm 9) np) [aB nm e] [] p1) [.IsNot] [.Name (nm 10) Xq] p
noncomputable def ba(nm:Nat->Str):List ME->List Expr
 | []=>[]
 |e::es=>aB nm e::ba nm es
noncomputable def B3(nm:Nat->Str):List ME->List (Option Expr)
 | []=>[]
 |e::es=>some (aB nm e)::B3 nm es
noncomputable def Gn(nm:Nat->Str):Option ME->Option Expr
 |none=>none
 |some e=>some (aB nm e)
noncomputable def toG(nm:Nat->Str):MG->Comprehension
 |.mk t it ifs=>⟨toT nm t,aB nm it,ba nm ifs,0⟩
noncomputable def UG(nm:Nat->Str):List MG->List Comprehension
 | []=>[]
 |g::gs=>toG nm g::UG nm gs
noncomputable def toT(nm:Nat->Str):MT->Expr
 |.loc x p=>.Name (nm x) p
 |.aW x p=>.Name (nm x) p
 |.cmp x p=>.Name (nm x) p
 |.tup ts k p=>.Tuple (qA nm ts) k p
 |.attr o x p=>.Attribute (aB nm o) (nm x) p
 |.sub o i p=>.Subscript (aB nm o) (aB nm i) p
noncomputable def qA(nm:Nat->Str):List MT->List Expr
 | []=>[]
 |t::ts=>toT nm t::qA nm ts
end
theorem rD{nm:Nat->Str}:ba nm []= []:=rfl
theorem rE{nm:Nat->Str}{e:ME}{es:List ME}:ba nm (e::es)=aB nm e::ba nm es:=rfl
theorem Gp{nm:Nat->Str}:qA nm []= []:=rfl
theorem Gq{nm:Nat->Str}{e:MT}{es:List MT}:qA nm (e::es)=toT nm e::qA nm es:=rfl
mutual
noncomputable def toS(nm:Nat->Str):MS->Stmt
 |.asg t e p=>.Assign [toT nm t] (aB nm e) p
 |.app o e ap cp p=>.Expr (.Call (.Attribute (aB nm o) "append" ap) [aB nm e] [] cp) p
 |.expr e p=>.Expr (aB nm e) p
 |.ifs t b o p=>.If (aB nm t) (nB nm b) (nB nm o) p
 |.for t it b p=>.For (toT nm t) (aB nm it) (nB nm b) [] p
 |.ret e p=>.Return (some (aB nm e)) p
 |.zS p=>.Return none p
 |.raise c msg k mp np cp p=>.Raise (some (.Call (.Name (nm c) np) [.Constant (.str msg) k mp] [] cp)) none p
 |.eI p=>.Raise none none p
 |.try b hs p=>.Try (nB nm b) (Ke nm hs) [] [] p
 |.cont p=>.Continue p
 |.pass p=>.Pass p
noncomputable def nB(nm:Nat->Str):List MS->List Stmt
 | []=>[]
 |s::ss=>toS nm s::nB nm ss
noncomputable def toH(nm:Nat->Str):MH->ExceptHandler
 |.mk c np body p=>.ExceptHandler (some (.Name (nm c) np)) none (nB nm body) p
noncomputable def Ke(nm:Nat->Str):List MH->List ExceptHandler
 | []=>[]
 |h::hs=>toH nm h::Ke nm hs
end
noncomputable def iz(l:List Str)(i:Nat):Str:=l.getD i ⟨#[2000000+i]⟩
noncomputable def aX:List Str:=[.ofString "len",.ofString "list",.ofString "sum",.ofString "min",.ofString "max",.ofString "sorted",.ofString "dict",.ofString "range",.ofString "zip",.ofString "type",.ofString "bool",.ofString "PowerLoss",.ofString "FormatError",.ofString "CorruptError",.ofString "FullError",.ofString "ValueError",.ofString "Disk",.ofString "Vault",.ofString "_wall",.ofString "four_bytes",.ofString "from_four_bytes",.ofString "sealed",.ofString "seal_holds",.ofString "encode_slot",.ofString "decode_slot",.ofString "encode_header",.ofString "model_put",.ofString "model_delete",.ofString "model_after",.ofString "fresh_image",.ofString "_law_pick",.ofString "_law_four",.ofString "_law_slot",.ofString "_law_listing",.ofString "_law_device_is",.ofString "_law_session",.ofString "law",.ofString "_law_old",.ofString "_law_mean",.ofString "_law_keys",.ofString "_law_values",.ofString "n",.ofString "b",.ofString "body",.ofString "block",.ofString "x",.ofString "flag",.ofString "used",.ofString "key",.ofString "value",.ofString "targets",.ofString "out",.ofString "placed",.ofString "p",.ofString "pairs",.ofString ".0",.ofString "state",.ofString "txn",.ofString "txns",.ofString "count",.ofString "d",.ofString "disk",.ofString "_",.ofString "log_size",.ofString "slots",.ofString "wipe",.ofString "image",.ofString "found",.ofString "box",.ofString "done",.ofString "writes",.ofString "power",.ofString "place",.ofString "start",.ofString "budget",.ofString "held",.ofString "deeds",.ofString "due",.ofString "log",.ofString "said",.ofString "put",.ofString "blocks",.ofString "staged",.ofString "wiped",.ofString "head",.ofString "logged",.ofString "i",.ofString "homes",.ofString "gone",.ofString "commit",.ofString "dead",.ofString "script",.ofString "kinds",.ofString "old",.ofString "j",.ofString "k",.ofString "kept",.ofString "lost",.ofString "left",.ofString "want",.ofString "plain",.ofString "same",.ofString "t",.ofString "self",.ofString "read",.ofString "write",.ofString "home",.ofString "install",.ofString "recover",.ofString "read_slot",.ofString "seen",.ofString "slot_of",.ofString "find_free",.ofString "stage",.ofString "fetch",.ofString "delete",.ofString "rollback",.ofString "decode_header",.ofString "play",.ofString "reopen",.ofString "_law_seal",.ofString "_law_image",.ofString "_law_deed",.ofString "_law_bent",.ofString "_law_due",.ofString "_law_step",.ofString "_law_try",.ofString "_law_bases",.ofString "_law_words",.ofString "_law_bends",.ofString "vault",.ofString "entry",.ofString "entries",.ofString "shift",.ofString "raw",.ofString "v",.ofString "kind",.ofString "whole",.ofString "byte",.ofString "answers",.ofString "touched",.ofString "road",.ofString "answer",.ofString "table",.ofString "size",.ofString "y",.ofString "store",.ofString "got",.ofString "base",.ofString "a",.ofString "q",.ofString "pair",.ofString "steps",.ofString "right",.ofString "extra",.ofString "tail",.ofString "c",.ofString "other",.ofString "letter",.ofString "spoken",.ofString "cut",.ofString "last",.ofString "named",.ofString "after",.ofString "spot",.ofString "near",.ofString "bent",.ofString "mine",.ofString "view",.ofString "views",.ofString "laid",.ofString "names",.ofString "heal",.ofString "good"]
set_option maxHeartbeats 40000000 in
noncomputable def Yk:List (List FD):=letI x:List (List FD):=_;haveI:∀(R:List (Str×NameKind)->Bool->∀{a b:Type},a->b->Prop) (N:Str->Nat->Prop) (I:List (Str×NameKind)->Str->NameKind->Prop) (ar1:∀{K s i p},I K s .local->N s i->R K false (Expr.Name s p) (ME.loc i p)) (ar2:∀{K s i p},I K s .local->N s i->R K true (Expr.Name s p) (ME.cmp i p)) (ar3:∀{K s i c p},I K s .cell->N s i->R K c (Expr.Name s p) (ME.aW i p)) (ar4:∀{K s i c p},I K s .free->N s i->R K c (Expr.Name s p) (ME.aW i p)) (ar5:∀{K s i c p},I K s .globalImplicit->N s i->R K c (Expr.Name s p) (ME.oM i p)) (ar6:∀{K s i p},I K s .local->N s i->R K false (Expr.Name s p) (MT.loc i p)) (ar7:∀{K s i p},I K s .local->N s i->R K true (Expr.Name s p) (MT.cmp i p)) (ar8:∀{K s i c p},I K s .cell->N s i->R K c (Expr.Name s p) (MT.aW i p)) (JY:∀{s k K},I ((s,k)::K) s k) (tm:∀{K s k x},I K s k->I (x::K) s k) (Yl:∀{K c z k p},R K c (Expr.Constant (.int z) k p) (ME.i9 z k p)) (Ym:∀{K c z k p},R K c (Expr.Constant (.str z) k p) (ME.oL z k p)) (Yn:∀{K c z k p},R K c (Expr.Constant (.bool z) k p) (ME.mj z k p)) (Yo:∀{K c k p},R K c (Expr.Constant .none k p) (ME.jt k p)) (Yp:∀{K c e m p},R K c e m->R K c (Expr.UnaryOp .USub e p) (ME.neg m p)) (Yq:∀{K c e m p},R K c e m->R K c (Expr.UnaryOp .Not e p) (ME.not m p)) (Yr:∀{K c l m o a r n p},R K c l m->R K c o a->R K c r n->R K c (Expr.BinOp l o r p) (ME.bin a m n p)) (Ys:∀{K c},R K c Operator.Add BX.add) (Yt:∀{K c},R K c Operator.Sub BX.sub) (Yu:∀{K c},R K c Operator.Mult BX.mul) (Yv:∀{K c},R K c Operator.FloorDiv BX.fdiv) (Yw:∀{K c},R K c Operator.Mod BX.mod) (Yx:∀{K c},R K c Operator.RShift BX.shr) (Yy:∀{K c},R K c Operator.BitAnd BX.band) (Yz:∀{K c e m n p a b},R K c e m->R K c (Expr.Compare (.Call (.Name "type" n) [e] [] p) [.IsNot] [.Name "bool" a] b) (ME.iG m n p a b)) (YA:∀{K c l m r n o p},R K c l m->R K c r n->R K c (Expr.Compare l [o] [r] p) (ME.rel o m n p)) (YB:∀{K c l m r n e x o q p},R K c l m->R K c r n->R K c e x->R K c (Expr.Compare l [o,q] [r,e] p) (ME.zR o q m n x p)) (YC:∀{K c e m o p},R K c e m->R K c (Expr.BoolOp o e p) (ME.bool o m p)) (YD:∀{K c t x l m r n p},R K c t x->R K c l m->R K c r n->R K c (Expr.IfExp t l r p) (ME.ite x m n p)) (YE:∀{K c e x l m r n s p},R K c e x->R K c l m->R K c r n->R K c (Expr.Subscript e (.Slice l r none s) p) (ME.PY x m n s p)) (YF:∀{K c l m r n p},R K c l m->R K c r n->R K c (Expr.Subscript l r p) (ME.sub m n p)) (YG:∀{K c e m s i p},R K c e m->N s i->R K c (Expr.Attribute e s p) (ME.attr m i p)) (YH:∀{K c e m p},R K c e m->R K c (Expr.List e p) (ME.lst m p)) (YI:∀{K c e m k p},R K c e m->R K c (Expr.Tuple e k p) (ME.tup m k p)) (YJ:∀{K c l m r n p},R K c l m->R K c r n->R K c (Expr.Dict l r p) (ME.OT m n p)) (YK:∀{K e m t a b c l x r y g z k p},R K true e m->R K true t a->R b c l x->R K true r y->R K true g z->R b c K k->R b c (Expr.ListComp e (⟨t,l,r,0⟩::g) ⟨.function,K,false,false,[]⟩ p) (ME.comp m (.mk a x y) z k p)) (YL:∀{K c t a l x r y},R K c t a->R K c l x->R K c r y->R K c (Comprehension.mk t l r 0) (MG.mk a x y)) (YM:∀{s i K c} {k:NameKind},N s i->R K c (s,k) (i,k)) (PZ:∀{K c},R K c (Str.ofString "len") BF.len) (P0:∀{K c},R K c (Str.ofString "list") BF.list) (P4:∀{K c},R K c (Str.ofString "sum") BF.sum) (P5:∀{K c},R K c (Str.ofString "min") BF.min) (P6:∀{K c},R K c (Str.ofString "max") BF.max) (P7:∀{K c},R K c (Str.ofString "sorted") BF.sorted) (P8:∀{K c},R K c (Str.ofString "dict") BF.dict) (P9:∀{K c},R K c (Str.ofString "range") BF.range) (Qa:∀{K c},R K c (Str.ofString "zip") BF.zip) (Qb:∀{K c},R K c (Str.ofString "Disk") 16) (Qc:∀{K c},R K c (Str.ofString "Vault") 17) (YN:∀{K c s b e m n p},R K c s b->R K c e m->R K c (Expr.Call (.Name s n) e [] p) (ME.pU b m n p)) (YO:∀{K c s b e m n p},R K c s b->R K c e m->R K c (Expr.Call (.Name s n) e [] p) (ME.new b m n p)) (YQ:∀{s i K c e m n p},N s i->R K c e m->R K c (Expr.Call (.Name s n) e [] p) (ME.call i m n p)) (YR:∀{K c e m n p},R K c e m->R K c (Expr.Call (.Attribute e "items" n) [] [] p) (ME.items m n p)) (YT:∀{K c e m s i a b n p},R K c e m->N s i->R K c a b->R K c (Expr.Call (.Attribute e s n) a [] p) (ME.gv m i b n p)) (YU:∀{K c A B},R K c (@List.nil A) (@List.nil B)) (YV:∀{A B:Type} {K c a b} {e:A} {m:B},R K c e m->R K c a b->R K c (e::a) (m::b)) (YW:∀{K c A B},R K c (@none A) (@none B)) (YX:∀{A B:Type} {K c} {e:A} {m:B},R K c e m->R K c (some e) (some m)) (YY:∀{A B:Type} {K c} {e:A} {m:B},R K c e m->R K c (some e) m) (YZ:∀{K c e m k p},R K c e m->R K c (Expr.Tuple e k p) (MT.tup m k p)) (Y0:∀{K c e m s i p},R K c e m->N s i->R K c (Expr.Attribute e s p) (MT.attr m i p)) (Y1:∀{K c l m r n p},R K c l m->R K c r n->R K c (Expr.Subscript l r p) (MT.sub m n p)) (Y2:∀{K c t m e n p},R K c t m->R K c e n->R K c (Stmt.Assign [t] e p) (MS.asg m n p)) (Y3:∀{K c e m l n a p b},R K c e m->R K c l n->R K c (Stmt.Expr (.Call (.Attribute e "append" a) [l] [] p) b) (MS.app m n a p b)) (Y4:∀{K c e m p},R K c e m->R K c (Stmt.Expr e p) (MS.expr m p)) (Y5:∀{K c t x l m r n p},R K c t x->R K c l m->R K c r n->R K c (Stmt.If t l r p) (MS.ifs x m n p)) (Y6:∀{K c t x l m r n p},R K c t x->R K c l m->R K c r n->R K c (Stmt.For t l r [] p) (MS.for x m n p)) (Y7:∀{K c e m p},R K c e m->R K c (Stmt.Return (some e) p) (MS.ret m p)) (Y8:∀{K c p},R K c (Stmt.Return none p) (MS.zS p)) (Y9:∀{s i K c n z k a p b},N s i->R K c (Stmt.Raise (some (.Call (.Name s n) [.Constant (.str z) k a] [] p)) none b) (MS.raise i z k a n p b)) (Za:∀{K c p},R K c (Stmt.Raise none none p) (MS.eI p)) (Zb:∀{K c l m r n p},R K c l m->R K c r n->R K c (Stmt.Try l r [] [] p) (MS.try m n p)) (Zc:∀{K c p},R K c (Stmt.Continue p) (MS.cont p)) (Zd:∀{K c p},R K c (Stmt.Pass p) (MS.pass p)) (Ze:∀{s i K c l m n p},N s i->R K c l m->R K c (ExceptHandler.ExceptHandler (some (.Name s n)) none l p) (MH.mk i n m p)) (Zf:∀{K s i c p},I K s .local->N s i->R K c (Arg.mk s none p) (i,false)) (Zg:∀{K s i c p},I K s .cell->N s i->R K c (Arg.mk s none p) (i,true)) (Zh:∀{s i K c},N s i->R K c (Str.ofString "fast",Const.str s) i) (Zi:∀{K l m a c x e y r n s b p},R K false l m->R a c K x->R a c e y->R K false r n->R a c (Stmt.FunctionDef s ⟨[],l,none,[],[],none,[]⟩ r [] none [] ⟨.function,K,false,false,e⟩ none b p) (FD.mk m x y n)) (Zj:∀{K c s l r e a b d t o p m},R K c (Stmt.FunctionDef s l r e a b d t o p) m->R K c (Stmt.FunctionDef s l r e a b d t o p) [(m:FD)]) (Zk:∀{K c e m s l r a b d t o q p},R K c e m->R K c (Stmt.ClassDef s l r e a b d t o q p) (m:List FD)) (Zl:∀{K c t e p},R K c (Stmt.Assign t e p) ([]:List FD)) (Zm:∀{K c p},R K c (Stmt.Pass p) (FD.mk [] [] [] [])) (ar0:∀{e l m},PySem.Challenge.pw_sx_vvault_8.main.body=e::l->R [] false (e::l) m->R [] false 0 m),aX.foldr (fun s k i=>N s i->k (i+1)) (fun ω=>R [] false 0 x) 0:=(by delta aX;dsimp only[List.foldr,Nat.reduceAdd];intros;apply ar0 rfl;with_reducible repeat' first|exact Yl|exact YU|apply YV|(apply ar1;(·repeat first|exact JY|apply tm);assumption)|(apply ar2;(·repeat first|exact JY|apply tm);assumption)|(apply ar3;(·repeat first|exact JY|apply tm);assumption)|(apply ar4;(·repeat first|exact JY|apply tm);assumption)|(apply ar5;(·repeat first|exact JY|apply tm);assumption)|(apply ar6;(·repeat first|exact JY|apply tm);assumption)|(apply ar7;(·repeat first|exact JY|apply tm);assumption)|(apply ar8;(·repeat first|exact JY|apply tm);assumption)|exact Ym|exact Yn|exact Yo|apply Yp|apply Yq|apply Yr|exact Ys|exact Yt|exact Yu|exact Yv|exact Yw|exact Yx|exact Yy|apply Yz|apply YA|apply YB|apply YC|apply YD|apply YE|apply YF|apply YG|apply YH|apply YI|apply YJ|apply YK|apply YL|apply YM|exact PZ|exact P0|exact P4|exact P5|exact P6|exact P7|exact P8|exact P9|exact Qa|exact Qb|exact Qc|(apply YN;(·first|exact PZ|exact P0|exact P4|exact P5|exact P6|exact P7|exact P8|exact P9|exact Qa|exact Qb|exact Qc))|(apply YO;(·first|exact PZ|exact P0|exact P4|exact P5|exact P6|exact P7|exact P8|exact P9|exact Qa|exact Qb|exact Qc))|apply YQ|apply YR|apply YT|exact YW|apply YX|apply YY|apply YZ|apply Y0|apply Y1|apply Y2|apply Y3|apply Y4|apply Y5|apply Y6|apply Y7|exact Y8|apply Y9|exact Za|apply Zb|exact Zc|exact Zd|apply Ze|(apply Zf;(·repeat first|exact JY|apply tm);assumption)|(apply Zg;(·repeat first|exact JY|apply tm);assumption)|apply Zh|apply Zi|apply Zj|apply Zk|exact Zl|exact Zm|assumption)
 x
def jN(i j:Nat):FD:=(Yk.getD i []).getD j ⟨[],[],[],[]⟩
def tn:FD:=jN 5 0
def mH:FD:=jN 6 0
def Dl:FD:=jN 7 0
def tp:FD:=jN 8 0
def rF:FD:=jN 9 0
def rG:FD:=jN 10 0
def oQ:FD:=jN 11 0
def oR:FD:=jN 12 0
def gE:FD:=jN 13 0
def rH:FD:=jN 16 0
def Kf:FD:=jN 17 0
def Dm:FD:=jN 18 0
def xw:FD:=jN 25 0
def nE:FD:=jN 26 0
def xy:FD:=jN 27 0
def xB:FD:=jN 28 0
def rI:FD:=jN 29 0
def xD:FD:=jN 30 0
def rJ:FD:=jN 31 0
def aH:FD:=jN 32 0
def jO:FD:=jN 14 0
def vq:FD:=jN 14 1
def tu:FD:=jN 14 2
def jb:FD:=jN 14 3
def tx:FD:=jN 15 0
def tC:FD:=jN 15 1
def fR:FD:=jN 15 2
def dB:FD:=jN 15 3
def oS:FD:=jN 15 4
def cU:FD:=jN 15 5
def dC:FD:=jN 15 6
def cV:FD:=jN 15 7
def rK:FD:=jN 15 8
def rL:FD:=jN 15 9
def vA:FD:=jN 15 10
def qB:FD:=jN 15 11
def nF:FD:=jN 15 12
def j4:FD:=jN 15 13
def eN:FD:=jN 15 14
noncomputable def dy:D:=.tuple [.int 0,.int 7,.int 16909060,.int 4294967295,.int 256,.int 65535,.int (-1),.int 4294967296]
noncomputable def fS:D:=.tuple [.int 0,.int 1,.int 255,.int 65536,.int 305419896,.int 4294967295,.int 4294967296,.int (-1)]
noncomputable def dD:D:=.tuple [.tuple [.int (-1),.int (-1),.int (-1)],.tuple [.int 1,.int (-1),.int 0],.tuple [.int (-1),.int 2,.int (-1)],.tuple [.int 0,.int 1,.int 2],.tuple [.int 3,.int 2,.int 1],.tuple [.int 2,.int 0,.int (-1)],.tuple [.int (-1),.int 3,.int 0],.tuple [.int (-1),.int (-1),.int 1]]
noncomputable def dE:D:=.tuple [.tuple [.str "aRbC",.str "bC",.int 0],.tuple [.str "aVbC",.str "bC",.int 1],.tuple [.str "aCVbC",.str "aCbC",.int 1],.tuple [.str "aCCRbC",.str "aCbC",.int 2],.tuple [.str "aabC",.str "abC",.int 0],.tuple [.str "aWRWbC",.str "WbC",.int 4],.tuple [.str "opC",.str "pC",.int 0],.tuple [.str "aqC",.str "qaC",.int (-1)],.tuple [.str "abaC",.str "baC",.int (-1)],.tuple [.str "xpC",.str "pC",.int (-1)],.tuple [.str "pxC",.str "xC",.int (-1)],.tuple [.str "abC",.str "aCbC",.int (-2)]]
noncomputable def gF:D:=.tuple [.tuple [.int 1,.int 0,.int 1],.tuple [.int 0,.int 0,.int 0],.tuple [.int 1,.int 1,.int (-1)],.tuple [.int 1,.int 1,.int 256],.tuple [.int 1,.int 0,.int 2],.tuple [.int 1,.int 9,.int 1],.tuple [.int 1,.int 14,.int 1],.tuple [.int 0,.int 1,.int 1],.tuple [.int 0,.int 8,.int 1]]
def oU:List (Nat×FD):=[(19,tn),(20,mH),(21,Dl),(22,tp),(23,rF),(24,rG),(25,oQ),(117,oR),(26,gE),(29,rH),(118,Kf),(119,Dm),(120,xw),(121,nE),(122,xy),(123,xB),(124,rI),(125,xD),(126,rJ),(36,aH),(1000,jO),(1001,vq),(1002,tu),(1003,jb),(1004,tx),(1005,tC),(1006,fR),(1007,dB),(1008,oS),(1009,cU),(1010,dC),(1011,cV),(1012,rK),(1013,rL),(1014,vA),(1015,qB),(1016,nF),(1017,j4),(1018,eN)]
def O0(f:Nat):Option FD:=look f oU
noncomputable def kz:List (Nat×Nat×Nat):=[(16,104,1001),(16,105,1002),(16,66,1003),(17,106,1005),(17,65,1006),(17,107,1007),(17,108,1008),(17,109,1009),(17,111,1010),(17,112,1011),(17,113,1012),(17,114,1013),(17,80,1014),(17,115,1015),(17,116,1016),(17,89,1017),(17,54,1018)]
def Kg(c m:Nat):Option Nat:=B0 c m kz
def Kh(c:Nat):Option Nat:=look c [(16,1000),(17,1004)]
def Qd(x:Nat):Option D:=look x [(39,dy),(40,fS),(127,dD),(128,dE),(129,gF)]
noncomputable def qP:List (Nat×Nat):=[(16,81),(16,74),(16,70),(17,61),(17,64),(17,63),(17,82),(17,90)]
def kC(c x:Nat):Bool:=qP.any fun p=>p.1==c&&p.2==x
def v8:dH:=⟨O0,Kg,Kh,Qd,kC,fun x=>x==13⟩
noncomputable def pX:List Value:=[.type "Exception",.type "BaseException",.type "object"]
noncomputable def O1:Data->Option FuncData
 |.func f=>some f
 |_=>none
noncomputable def O4:Data->Option (Array Value)
 |.fields vs=>some vs
 |_=>none
noncomputable def UH:Data->Option (Array Value×Nat)
 |.seq vs n=>some (vs,n)
 |_=>none
def fnOf(K:Frag)(a:Addr):Option FuncData:=(K.lookup a).bind fun o=>O1 o.data
noncomputable def Qe:Value->Option Addr
 |.ref a=>some a
 |_=>none
noncomputable def vStr:Value->Option (Str×Tok)
 |.str s t=>some (s,t)
 |_=>none
def codeOf(K:Frag)(v:Value):Option (Str×Tok):=(Qe v).bind fun c=>(K.lookup c).bind fun o=>(O4 o.data).bind fun vs=>vs[1]?.bind vStr
def codeOk(K:Frag)(f:FuncData):Bool:=match codeOf K f.code with
 |some p=>decide (p.1=f.qualname)
 |none=>false
def Gr(K:Frag)(v:Value):Option (Array Value×Nat):=(Qe v).bind fun a=>(K.lookup a).bind fun o=>if o.cls= .type "tuple" /\o.dict=none/\o.slots.isEmpty=true then UH o.data else none
noncomputable def vInt:Value->Option (Int×Tok)
 |.int s t=>some (s,t)
 |_=>none
mutual
noncomputable def B4(K:Frag):PyData->Value->Bool
 |.bool b,v=>decide (v= .bool b)
 |.int i,v=>(vInt v).any fun p=>decide (p.1=i)
 |.str x,v=>(vStr v).any fun p=>decide (p.1=x)
 |.tuple ds,v=>(Gr K v).any fun p=>rM K ds p.1.toList
 |.none,v=>decide (v= .none)
 |.list _,_=>false
 |.dict _,_=>false
noncomputable def rM(K:Frag):List PyData->List Value->Bool
 | [],vs=>decide (vs= [])
 |d::ds,vs=>(match vs with
  |v::vs=>B4 K d v&&rM K ds vs
  | []=>false)
end
noncomputable def fragOf(h:Heap):List Addr->Frag
 | []=>[]
 |a::as=>match h.get? a with
  |some o=>(a,o)::fragOf h as
  |none=>fragOf h as
theorem oX(h):∀as:List Addr,(fragOf h as).In h
 | []=>@fun a o e=>(nomatch e)
 |b::as=>@fun a o e=>by
  replace e:List.lookup a (match h.get? b with|some o=>(b,o)::fragOf h as|none=>fragOf h as)=some o:=e;generalize hb:h.get? b=zV at e
  induction zV using Oc with
  |none=>exact oX h as a o e
  |some o'=>
   rw[vh]at e;generalize q:(a==b)=zB at e
   induction zB using Tc with
   |false=>exact oX h as a o e
   |true=>obtain rfl:=fY.mp q;exact hb.trans e
abbrev Zn:=Option ((List Str×List Str×List Str)×(Bool×Bool)×(FuncBody×Scope×Addr)×(Addr×List (Str×Addr))×Value×Bool)
abbrev Qf:=List (Option (Option Value))×List Zn×List (Option Value)×List Bool×List (Bool×Bool×Bool×Bool)×List (Option (Option Value))×List Bool
def Gs(K:Frag)(a:Addr):Zn:=(fnOf K a).map fun f=>((f.params.posonlyargs.map (·.arg),f.params.args.map (·.arg),f.params.kwonlyargs.map (·.arg)),(f.params.vararg.isNone,f.params.kwarg.isNone),(f.body,f.scope,f.globals),(f.builtins,f.closure),f.defaults,codeOk K f)
def Qg(K:Frag)(C:Addr):Bool:=(K.lookup C).any fun o=>o.cls== .type "type" &&(o.slots.size==6&&(o.slots[4]?).join==some (.builtin "Exception.__new__"))&&(clsIn K C).any fun cd=>cd.mro== .ref C::pX&&!cd.hasDel&&nsOkIn K cd.ns&&nsIn K cd.ns "__init__" ==some none
structure Tab where
 nm:Nat->Str
 as:List Addr
 ns:List (Nat×Option Value)
 fns:List (FD×Addr)
 Xr:List Addr
 Ki:List Addr
 cls:List Addr
 g9:List ((Addr×Str)×Option Value)
 oM:List (PyData×Value)
def Gu(nm:Nat->Str)(fd:FD):Zn:=some (([],fd.params.map fun q=>nm q.1,[]),(true,true),(.stmts (nB nm fd.body),bh nm fd.kinds fd.fast,mainGlobals),(builtinsNs,[]),.none,true)
def Tab.obs(t:Tab)(K:Frag):Qf:=
 (t.ns.map fun p=>nsIn K mainGlobals (t.nm p.1),t.fns.map fun p=>Gs K p.2,t.Xr.map fun a=>typeIn K (.ref a),t.Ki.map (Qg K),t.cls.map fun C=>(plainOver K C,hasDictIn K C,makesIn K C,keepIn K (.ref C)),
  t.g9.map fun p=>findIn K (.ref p.1.1) p.1.2,t.oM.map fun p=>B4 K p.1 p.2)
def Tab.val(t:Tab):Qf:=
 (t.ns.map fun p=>some p.2,t.fns.map fun p=>Gu t.nm p.1,t.Xr.map fun ω=>some (.type "function"),t.Ki.map fun ω=>true,t.cls.map fun ω=>(true,true,true,true),t.g9.map fun p=>some p.2,t.oM.map fun ω=>true)
def Tab.hook(t:Tab):Hook:=⟨Qf,fun s=>t.obs (fragOf s.heap t.as),fun ω=>t.val,fun ω h=>∃K:Frag,K.In h/\t.obs K=t.val,fun ω ω e=>⟨_,oX _ _,e⟩,fun _ _ _ ⟨K,X,e⟩ k=>⟨K,X.keeps k,e⟩⟩
def TR(c:Nat):Option Addr:=look c [(16,163),(17,282)]
noncomputable def Zo:List (Nat×Addr):=[(19,73),(20,80),(21,87),(22,94),(23,101),(24,108),(25,115),(26,129),(29,291),(36,389),(117,122),(118,298),(119,305),(120,346),(121,351),(122,358),(123,365),(124,370),(125,377),(126,384),(1000,141),(1001,148),(1002,155),(1003,160),(1004,181),(1005,188),(1006,195),(1007,202),(1008,209),(1009,216),(1010,223),(1011,230),(1012,237),(1013,244),(1014,251),(1015,258),(1016,265),(1017,272),(1018,279)]
def Gv(f:Nat):Option Addr:=look f Zo
def mI:Tab where
 nm:=iz aX
 as:=[3,23,24,36,37,49,50,62,63,72,73,79,80,86,87,93,94,100,101,107,108,114,115,121,122,128,129,140,141,147,148,154,155,159,160,162,163,180,181,187,188,194,195,201,202,208,209,215,216,222,223,229,230,236,237,243,244,250,251,257,258,264,265,271,272,278,279,281,282,290,291,297,298,304,305,306,307,308,309,310,311,312,313,314,315,316,317,318,319,320,321,322,323,324,325,326,327,328,329,330,331,332,333,334,335,336,337,338,339,345,346,350,351,357,358,364,365,369,370,376,377,383,384,388,389]
 ns:=[(0,none),(1,none),(2,none),(3,none),(4,none),(5,none),(6,none),(7,none),(8,none),(9,none),(10,none),(15,none),(11,some (Value.ref 24)),(12,some (Value.ref 37)),(13,some (Value.ref 50)),(14,some (Value.ref 63)),(16,some (Value.ref 163)),(17,some (Value.ref 282)),(39,some (Value.ref 306)),(40,some (Value.ref 307)),(127,some (Value.ref 316)),(128,some (Value.ref 329)),(129,some (Value.ref 339))]++(Zo.filter fun p=>p.1<1000).map fun p=>(p.1,some (Value.ref p.2))
 fns:=oU.map fun p=>(p.2,(Gv p.1).getD 0)
 Xr:=Zo.map (·.2)
 Ki:=[24,37,50,63]
 cls:=[163,282]
 g9:=[((163,Str.ofString "__getattribute__"),some (Value.builtin "object.__getattribute__")),
  ((163,Str.ofString "__getattr__"),none),
  ((163,Str.ofString "__setattr__"),some (Value.builtin "object.__setattr__")),
  ((282,Str.ofString "__getattribute__"),some (Value.builtin "object.__getattribute__")),
  ((282,Str.ofString "__getattr__"),none),
  ((282,Str.ofString "__setattr__"),some (Value.builtin "object.__setattr__")),
  ((163,Str.ofString "__init__"),some (Value.ref 141)),
  ((282,Str.ofString "__init__"),some (Value.ref 181))]++(kz.map fun p=>(((TR p.1).getD 0,iz aX p.2.1),some (Value.ref ((Gv p.2.2).getD 0))))++qP.map fun p=>(((TR p.1).getD 0,iz aX p.2),none)
 oM:=[(dy,Value.ref 306),(fS,Value.ref 307),(dD,Value.ref 316),(dE,Value.ref 329),(gF,Value.ref 339)]
noncomputable def Q8:Program:={PySem.Challenge.pw_sx_vvault_8 with main:={PySem.Challenge.pw_sx_vvault_8.main with body:=PySem.Challenge.pw_sx_vvault_8.main.body.drop 32}}
noncomputable def lo8:List Str:=["PowerLoss","FormatError","CorruptError","FullError","four_bytes","from_four_bytes","sealed","seal_holds","encode_slot","decode_slot","encode_header","model_put","fresh_image","decode_header","play","reopen","_law_seal","_law_image","_law_deed","_law_bent","_law_due","_law_step","_law_try","Disk","Vault","_law_keys","_law_values","_law_bases","_law_words","_law_bends"]
set_option maxHeartbeats 8000000 in
theorem UI:LeftO PySem.Challenge.pw_sx_vvault_8 Q8 lo8 (fun s=>xlAt Q8 [] s&&recOk [] s) (Hook.obs mI.hook) (Hook.val mI.hook) 5564:=fun w=>by
 unfold openEnds fencedOpening topFrom
 rewrite [Fast.te14082659384304107361,Fast.te10274390034422433532,Fast.te4187177175401517315,Fast.te14364793385576792824]
 kernel_rfl
def xE(w:World)(es:Array DictEntry):Prop:=
 (∀e∈es,∃k,Value.isInt k e.key=true/\e.hash=hashInt k)\/ ∀e∈es,∃k,Value.isStrOf k e.key=true/\e.hash=hashStr w k
def Dp(h:Heap)(a:Addr)(vs:Array Value):Prop:=∃n,h.get? a=some {cls:=.type "tuple",data:=.seq vs n}
theorem Dp.isTup(x:Dp h a vs):IsTup h a vs:=x.elim fun n e=>⟨_,e,rfl,n,rfl⟩
def Heap.IsDict(h:Heap)(a:Addr)(es:Array DictEntry):Prop:=∃o n,h.get? a=some o/\o.ExactDict/\o.data= .dict es n
mutual
inductive aU(w:World)(V:Addr->Prop)(h:Heap):Value->PyData->Prop
 |none:aU w V h .none .none
 |bool(b):aU w V h (.bool b) (.bool b)
 |int(i t):aU w V h (.int i t) (.int i)
 |str(x t):aU w V h (.str x t) (.str x)
 |list{a vs xs}:¬V a->h.PlainList a vs->ak w V h vs.toList xs->aU w V h (.ref a) (.list xs)
 |tuple{a vs xs}:¬V a->Dp h a vs->ak w V h vs.toList xs->aU w V h (.ref a) (.tuple xs)
 |dict{a es kvs}:¬V a->(a==sysModules)=false->Heap.IsDict h a es->xE w es->ak w V h (es.toList.map (·.key)) (kvs.map (·.1))->
   ak w V h (es.toList.map (·.val)) (kvs.map (·.2))->(kvs.map (·.1)).Nodup->aU w V h (.ref a) (.dict kvs)
inductive ak(w:World)(V:Addr->Prop)(h:Heap):List Value->List PyData->Prop
 |nil:ak w V h [] []
 |cons{v vs d ds}:aU w V h v d->ak w V h vs ds->ak w V h (v::vs) (d::ds)
end
theorem ax{α:Type}{a:α}{G:Prop}(h:none=some a):G:=nomatch h
theorem ak.cons_inv(r:ak w V h (v::vs) (d::ds)):aU w V h v d/\ak w V h vs ds:=by
 cases r with|cons a b=>exact⟨a,b⟩
theorem aU.int_inv(r:aU w V h v (.int i)):∃t,v= .int i t:=by cases r;exact⟨_,rfl⟩
theorem aU.bool_inv(r:aU w V h v (.bool b)):v= .bool b:=by cases r;rfl
theorem aU.cD(r:aU w V h v (.list ds)):∃a vs,v= .ref a/\ ¬V a/\h.PlainList a vs/\ak w V h vs.toList ds:=by
 cases r with|list n p r=>exact⟨_,_,rfl,n,p,r⟩
theorem aU.dF(r:aU w V h v (.tuple ds)):∃a vs,v= .ref a/\ ¬V a/\Dp h a vs/\ak w V h vs.toList ds:=by
 cases r with|tuple n p r=>exact⟨_,_,rfl,n,p,r⟩
theorem aU.nG(r:aU w V h v (.dict kvs)):∃a es,v= .ref a/\ ¬V a/\(a==sysModules)=false/\Heap.IsDict h a es/\xE w es/\ak w V h (es.toList.map (·.key)) (kvs.map (·.1))/\
   ak w V h (es.toList.map (·.val)) (kvs.map (·.2))/\(kvs.map (·.1)).Nodup:=by
 cases r with|dict a b c d e f g=>exact⟨_,_,rfl,a,b,c,d,e,f,g⟩
section
theorem ak.ind{P:List Value->List PyData->Prop}(h0:P [] [])(h1:∀{v vs d ds},aU w V h v d->ak w V h vs ds->P vs ds->P (v::vs) (d::ds))(r:ak w V h vs ds):P vs ds:=
 ak.rec (motive_1:=fun ω ω ω=>True) (motive_2:=fun vs ds ω=>P vs ds) trivial (fun ω=>trivial) (fun ω ω=>trivial) (fun ω ω=>trivial) (fun ω ω ω ω=>trivial) (fun ω ω ω ω=>trivial) (fun ω ω ω ω ω ω ω ω ω=>trivial) h0 (fun a b ω ih=>h1 a b ih) r
theorem aU.ind{M:Value->PyData->Prop}(c0:M .none .none)(c1:∀b,M (.bool b) (.bool b))(c2:∀i t,M (.int i t) (.int i))(c3:∀x t,M (.str x t) (.str x)){N:List Value->List PyData->Prop}(h0:N [] [])(h1:∀{v vs d ds},M v d->N vs ds->N (v::vs) (d::ds))(c4:∀{a vs xs},¬V a->h.PlainList a vs->N vs.toList xs->M (.ref a) (.list xs))(c5:∀{a vs xs},¬V a->Dp h a vs->N vs.toList xs->M (.ref a) (.tuple xs))(c6:∀{a es kvs},¬V a->(a==sysModules)=false->Heap.IsDict h a es->xE w es->N (es.toList.map (·.key)) (kvs.map (·.1))->N (es.toList.map (·.val)) (kvs.map (·.2))->(kvs.map (·.1)).Nodup->M (.ref a) (.dict kvs)):(∀{v d},aU w V h v d->M v d)/\ ∀{vs ds},ak w V h vs ds->N vs ds:=by
 have k:∀{v d},aU w V h v d->M v d:=fun r=>aU.rec (motive_1:=fun v d ω=>M v d) (motive_2:=fun vs ds ω=>N vs ds) c0 c1 c2 c3 (fun n p ω ih=>c4 n p ih) (fun n p ω ih=>c5 n p ih) (fun a b c d ω ω g i1 i2=>c6 a b c d i1 i2 g) h0 (fun ω ω i1 i2=>h1 i1 i2) r;exact⟨k,fun r=>ak.ind (P:=N) h0 (fun a ω ih=>h1 (k a) ih) r⟩
theorem xF(hV:∀a o,¬V a->(∀vs,o.data≠ .fields vs)->h.get? a=some o->¬V' a/\h'.get? a=some o):(∀{v d},aU w V h v d->aU w V' h' v d)/\ ∀{vs ds},ak w V h vs ds->ak w V' h' vs ds:=
 aU.ind .none .bool .int .str .nil (fun a b=>.cons a b)
  (fun n p r=>p.elim fun k e=>have q:=hV _ _ n (fun ω z=>by cases z) e;.list q.1 ⟨k,q.2⟩ r)
  (fun n p r=>let⟨k,e⟩:=p;have q:=hV _ _ n (fun ω z=>by cases z) e;.tuple q.1 ⟨k,q.2⟩ r)
  (fun n ns p k r r' nd=>p.elim fun o zL=>zL.elim fun m zL=>zL.elim fun e q=>have z:=hV _ _ n (fun ω z=>by rw[q.2]at z;injection z) e;.dict z.1 ns ⟨o,m,z.2,q⟩ k r r' nd)
theorem aU.rN(hV:∀a o,¬V a->(∀vs,o.data≠ .fields vs)->h.get? a=some o->¬V' a/\h'.get? a=some o)(r:aU w V h v d):aU w V' h' v d:=(xF hV).1 r
theorem ak.rN(hV:∀a o,¬V a->(∀vs,o.data≠ .fields vs)->h.get? a=some o->¬V' a/\h'.get? a=some o)(r:ak w V h vs ds):ak w V' h' vs ds:=(xF hV).2 r
theorem aU.imp(hV:∀a o,¬V a->h.get? a=some o->¬V' a/\h'.get? a=some o)(r:aU w V h v d):aU w V' h' v d:=r.rN fun a o n ω e=>hV a o n e
theorem ak.imp(hV:∀a o,¬V a->h.get? a=some o->¬V' a/\h'.get? a=some o)(r:ak w V h vs ds):ak w V' h' vs ds:=r.rN fun a o n ω e=>hV a o n e
theorem ug:(∀{v d},aU w V h v d->∃as,Reads h v d as)/\ ∀{vs ds},ak w V h vs ds->∃as,ReadsAll h vs ds as:=
 aU.ind ⟨_,.none⟩ (fun b=>⟨_,.bool b⟩) (fun i t=>⟨_,.int i t⟩) (fun x t=>⟨_,.str x t⟩) ⟨_,.nil⟩ (fun x y=>let⟨_,x⟩:=x;y.elim fun ω y=>⟨_,.cons x y⟩)
  (fun ω p z=>let⟨_,e⟩:=p;let⟨_,z⟩:=z;⟨_,.list e rfl rfl z⟩) (fun ω p z=>let⟨_,e⟩:=p;let⟨_,z⟩:=z;⟨_,.tuple e rfl rfl z⟩) (fun ω ω p ω z z' ω=>p.elim fun ω zL=>zL.elim fun ω zL=>zL.elim fun e zL=>zL.elim fun c q=>let⟨_,z⟩:=z;z'.elim fun ω z'=>⟨_,.dict e c.1 q z z'⟩)
theorem aU.reads(r:aU w V h v d):∃as,Reads h v d as:=ug.1 r
theorem ak.reads(r:ak w V h vs ds):∃as,ReadsAll h vs ds as:=ug.2 r
theorem ak.length(r:ak w V h vs ds):vs.length=ds.length:=ak.ind (P:=fun vs ds=>vs.length=ds.length) rfl (fun ω ω ih=>bz (· +1) ih) r
theorem ak.append(r:ak w V h vs ds)(r2:ak w V h us es):ak w V h (vs++us) (ds++es):=ak.ind (P:=fun vs ds=>ak w V h (vs++us) (ds++es)) r2 (fun a ω ih=>.cons a ih) r
theorem ak.get(r:ak w V h vs ds){i:Nat}:ds[i]?=some d->∃v,vs[i]?=some v/\aU w V h v d:=
 ak.ind (P:=fun vs ds=>∀(i:Nat),ds[i]?=some d->∃v,vs[i]?=some v/\aU w V h v d) (fun i e=>by simp only[List.getElem?_nil]at e;cases e) (fun{v vs d ds} a _ ih i e=>by
  induction i using Nat.casesAuxOn with
  |zero=>exact⟨v,rfl,dS e▸a⟩
  |succ i=>simp only[List.getElem?_cons_succ]at e⊢;exact ih i e) r i
theorem ak.set(r:ak w V h vs ds)(q:aU w V h v d):ak w V h (vs.set i v) (ds.set i d):=
 ak.ind (P:=fun vs ds=>∀i:Nat,ak w V h (vs.set i v) (ds.set i d)) (fun ω=>.nil) (fun a b ih i=>by
  induction i with
  |zero=>exact .cons q b
  |succ i=>exact .cons a (ih i)) r i
theorem ak.take(r:ak w V h vs ds):ak w V h (vs.take i) (ds.take i):=
 ak.ind (P:=fun vs ds=>∀i:Nat,ak w V h (vs.take i) (ds.take i)) (fun i=>by simp only[Oi,Oi];exact .nil) (fun a b ih i=>by
  induction i with
  |zero=>exact .nil
  |succ i=>exact .cons a (ih i)) r i
theorem ak.drop(r:ak w V h vs ds):ak w V h (vs.drop i) (ds.drop i):=
 ak.ind (P:=fun vs ds=>∀i:Nat,ak w V h (vs.drop i) (ds.drop i)) (fun i=>by simp only[BG,BG];exact .nil) (fun a b ih i=>by
  induction i with
  |zero=>exact .cons a b
  |succ i=>exact ih i) r i
theorem ak.one(r:aU w V h v d):ak w V h [v] [d]:=.cons r .nil
theorem ak.replicate(r:ak w V h vs ds):∀n:Nat,ak w V h (List.replicate n vs).flatten (List.replicate n ds).flatten
 |0=>.nil
 |n+1=>r.append (r.replicate n)
end
inductive Tag where
 |frame
 |comp
 |aW(x:Nat)
 |dict(k:Nat)
 |nH(x:Nat)
 |kE(k f:Nat)
noncomputable def Tag.ctorIdx(x:Tag):Nat:=Tag.casesOn x 0 1 (fun ω=>2) (fun ω=>3) (fun ω=>4) (fun ω ω=>5)
noncomputable def Tag.bu:Tag->Bool
 |.dict _=>true
 |.kE _ _=>true
 |_=>false
inductive Kind where
 |ns(m:Str->Option Value)
 |cell(v:Option Value)
 |lst(vs:List Value)
 |sX(m:Str->Option Value)
noncomputable def Kind.ctorIdx(x:Kind):Nat:=Kind.casesOn x (fun ω=>0) (fun ω=>1) (fun ω=>2) (fun ω=>3)
structure Cell where
 tag:Tag
 kind:Kind
def Kind.At(h:Heap)(a:Addr):Kind->Prop
 |.ns m=>h.Ns a m
 |.cell v=>h.IsCell a v
 |.lst vs=>h.PlainList a vs.toArray
 |.sX m=>h.Ns1 a m
noncomputable def Kind.iI:Kind->Bool
 |.lst _=>true
 |_=>false
theorem Kind.At.slots{k:Kind}(x:k.At h a)(e:∀o,h.get? a=some o->∃sl,h'.get? a=some {o with slots:=sl})(hl:k.iI=false):k.At h' a:=by
 induction k with
 |ns m=>
  refine Bc fun au=>?_;obtain⟨o,es,ep,e1,e2,e3⟩:=x;obtain⟨sl,q⟩:=e o e1;exact au ⟨_,es,ep,q,e2,e3⟩
 |cell v=>
  obtain⟨o,e1,e2⟩:=x;obtain⟨sl,q⟩:=e o e1;exact⟨_,q,e2⟩
 |lst vs=>cases hl
 |sX m=>
  refine Bc fun au=>?_;obtain⟨o,es,ep,e1,e2,e3⟩:=x;obtain⟨sl,q⟩:=e o e1;exact au ⟨_,es,ep,q,e2,e3⟩
theorem Kind.At.at{k:Kind}(x:k.At h a)(e:∀o,h.get? a=some o->h'.get? a=some o):k.At h' a:=by
 induction k with
 |ns m=>exact Heap.Ns.at' x e
 |cell v=>obtain⟨o,e1,e2⟩:=x;exact⟨_,e o e1,e2⟩
 |lst vs=>exact Heap.PlainList.at x e
 |sX m=>obtain⟨o,es,ep,e1,e2⟩:=x;exact⟨o,es,ep,e o e1,e2⟩
theorem Kind.At.some{k:Kind}(x:k.At h a):∃o,h.get? a= .some o:=by
 induction k with
 |ns m=>obtain⟨o,_,_,e,_⟩:=x;exact⟨o,e⟩
 |cell v=>obtain⟨o,e,_⟩:=x;exact⟨o,e⟩
 |lst vs=>obtain⟨n,e⟩:=x;exact⟨_,e⟩
 |sX m=>obtain⟨o,_,_,e,_⟩:=x;exact⟨o,e⟩
theorem Kind.At.oY{k:Kind}(x:k.At h a):∃o,h.get? a= .some o/\ ∀vs,o.data≠ .fields vs:=by
 induction k with
 |ns m=>obtain⟨o,_,_,e,q,_⟩:=x;exact⟨o,e,fun vs z=>by rw[q]at z;cases z⟩
 |cell v=>obtain⟨o,e,q⟩:=x;exact⟨o,e,fun vs z=>by rw[q]at z;cases z⟩
 |lst vs=>obtain⟨n,e⟩:=x;exact⟨_,e,fun vs z=>nomatch z⟩
 |sX m=>obtain⟨o,_,_,e,q,_⟩:=x;exact⟨o,e,fun vs z=>by rw[q]at z;cases z⟩
structure Snap where
 V:Addr->Prop
 led:Addr->Option Cell
 W:List (Addr×Addr)
 h:Heap
noncomputable def aK(envs:List Env):List Addr:=envs.filterMap (·.frame)
structure Snap.Ok(base:Heap)(envs:List Env)(p:Snap):Prop where
 stays:base.StaysIn p.h
 low:∀a,p.V a->base.get? a=none
 all:∀a,p.V a->∃o,p.h.get? a=some o
 led:∀a c,p.led a=some c->p.V a/\c.kind.At p.h a
 oZ:∀a c,p.led a=some c->c.kind.iI=true->a∉aK envs
 de:∀a∈aK envs,p.V a
 f9:p.h.FunFrames {} envs
structure af(fs:List Addr)(p q:Snap):Prop where
 keep:∀b o,p.h.get? b=some o->p.led b=none->b∉fs->q.h.get? b=some o
 de:∀b o,p.h.get? b=some o->p.led b=none->∃sl,q.h.get? b=some {o with slots:=sl}
 ext:∀b o,p.h.get? b=some o->∃o',q.h.get? b=some o'
 qC:∀a,q.V a->p.V a\/p.h.get? a=none
 rO:∀a c,q.led a=some c->p.led a≠none\/p.h.get? a=none
 cls:∀a,p.V a->p.led a=none->q.V a
 pre:p.W<+:q.W
theorem af.refl(fs)(p):af fs p p:=
 ⟨fun ω ω e ω ω=>e,fun ω o e ω=>⟨o.slots,e⟩,fun ω o e=>⟨o,e⟩,fun ω v=>.inl v,fun a c e=>.inl (Rw e (fun z=>by injection z)),fun ω v ω=>v,xh _⟩
theorem af.trans(ok:p.Ok base envs)(x:af fs p q)(y:af fs q r):af fs p r:=by
 have nc:∀b o,p.h.get? b=some o->p.led b=none->q.led b=none:=fun b o e n=>by
  generalize z:q.led b=zV
  induction zV using Oc with
  |none=>rfl
  |some c=>
   rcases x.rO b c z with g|g
   ·exact(g n).elim
   ·exact Ns g e
 refine⟨fun b o e n f=>y.keep b o (x.keep b o e n f) (nc b o e n) f,fun b o e n=>?_,fun b o e=>(x.ext b o e).elim fun o' e'=>y.ext b o' e',fun a v=>?_,fun a c v=>?_,fun a v n=>?_,x.pre.trans y.pre⟩
 ·obtain⟨sl,e1⟩:=x.de b o e n;obtain⟨sl',e2⟩:=y.de b _ e1 (nc b o e n);exact⟨sl',e2⟩
 ·rcases y.qC a v with g|g
  ·exact x.qC a g
  ·generalize e:p.h.get? a=zV
   induction zV using Oc with
   |none=>exact .inr rfl
   |some o=>
    generalize l:p.led a=zV
    induction zV using Oc with
    |some c=>exact .inl (ok.led a c l).1
    |none=>
     obtain⟨sl,e1⟩:=x.de a o e l;exact Ns g e1
 ·rcases y.rO a c v with g|g
  ·generalize l:q.led a=zV
   induction zV using Oc with
   |none=>exact(g l).elim
   |some c'=>exact x.rO a c' l
  ·generalize e:p.h.get? a=zV
   induction zV using Oc with
   |none=>exact .inr rfl
   |some o=>
    generalize l:p.led a=zV
    induction zV using Oc with
    |some c=>exact .inl nofun
    |none=>
     obtain⟨sl,e1⟩:=x.de a o e l;exact Ns g e1
 ·obtain⟨o,e⟩:=ok.all a v;exact y.cls a (x.cls a v n) (nc a o e n)
section
theorem af.imp(m:af (aK envs) p q)(ok:p.Ok base envs):∀a o,¬p.V a->p.h.get? a=some o->¬q.V a/\q.h.get? a=some o:=fun a o n e=>by
 refine⟨fun v=>?_,m.keep a o e ?_ fun z=>n (ok.de a z)⟩
 ·rcases m.qC a v with g|g
  ·exact n g
  ·exact Ns g e
 ·generalize l:p.led a=zV
  induction zV using Oc with
  |none=>rfl
  |some c=>exact absurd (ok.led a c l).1 n
theorem af.rep(m:af (aK envs) p q)(ok:p.Ok base envs)(r:aU w p.V p.h v d):aU w q.V q.h v d:=r.imp (m.imp ok)
theorem af.jd(m:af (aK envs) p q)(ok:p.Ok base envs)(r:ak w p.V p.h vs ds):ak w q.V q.h vs ds:=r.imp (m.imp ok)
end
section
def Gives(w:World)(V:Addr->Prop)(s:Shared)(d:D)(Q:Value->Shared->Prop):Prop:=∀v s',Keeps s s'->aU w V s'.heap v d->Q v s'
def jv(V:Addr->Prop)(h:Heap):Prop:=∀a,V a->∃o,h.get? a=some o
theorem bF(s)(t):Keeps s {s with toks:=t}:=⟨s.heap,t,rfl,fun ω ω e=>e⟩
theorem cH(s)(o)(t):Keeps s {s with heap:=s.heap.push o,toks:=t}:=⟨_,t,rfl,fun ω ω e=>il _ e⟩
theorem cw(s):Keeps s s:=⟨s.heap,s.toks,rfl,fun ω ω e=>e⟩
theorem jv.new(al:jv V h):¬V h.objs.size:=fun v=>by
 haveI e:=(Cs (al _ v))
 exact(mD _) (fk e)
theorem ak.keeps(k:∀b o,h.get? b=some o->h'.get? b=some o)(r:ak w V h vs ds):ak w V h' vs ds:=r.imp fun ω o n e=>⟨n,k _ o e⟩
theorem aU.keeps(k:∀b o,h.get? b=some o->h'.get? b=some o)(r:aU w V h v d):aU w V h' v d:=r.imp fun ω o n e=>⟨n,k _ o e⟩
theorem aU.newList(al:jv V h)(r:ak w V h vs.toList ds):aU w V (h.push {cls:=.type "list",data:=.seq vs}) (.ref h.objs.size) (.list ds):=
 .list al.new ⟨_,fX _ rfl⟩ (r.keeps fun ω ω e=>il _ e)
theorem aU.vB(al:jv V h)(r:ak w V h vs.toList ds):aU w V (h.push {cls:=.type "tuple",data:=.seq vs}) (.ref h.objs.size) (.tuple ds):=
 .tuple al.new ⟨_,fX _ rfl⟩ (r.keeps fun ω ω e=>il _ e)
theorem Gives.int(g:Gives w V s (.int i) Q):Q (.int i t) {s with toks:=s.toks+1}:=g _ _ (bF _ _) (.int _ _)
theorem gb(h:n<=lim):n<=sizeLine:=aI h (by refine Rw kq ?_;decide)
theorem Gw(h:n<=lim):(n:Int)<2^63:=by have:n<=100000:=h;lia
theorem rP(h:small a=true):Builtin.Int.intBits a<=64:=by
 simp only[small,dg,iZ]at h;exact intBits_le_64 (vf (by decide) h.1) (vf h.2 (by decide))
set_option tactic.hygienic true in
theorem rQ(h:small b=true):Builtin.divisionGoesByPylong a b=false:=by
 haveI hb:=rP h
 unfold Builtin.Int.intBits at hb;rw[Builtin.divisionGoesByPylong];rw[Bool.and_eq_false_iff];refine .inl (dx fun q=>?_);dsimp only at q;split at q
 ·exact(pL _) q
 ·rename_i hz;rw[aw hz]at hb
  lia
theorem uh(l):∀(n:Nat) (acc:Array Value),(List.foldl (fun x1 x2=>x1++x2) acc (List.replicate n l.toArray)).toList=acc.toList++(List.replicate n l).flatten
 |0=>@fun acc=>by simp
 |n+1=>@fun acc=>by
  simp only[Nz,BA,uh l n,Nz,List.flatten_cons,Fj,j9]
theorem Dq(hl:s.heap.get? l=some {cls:=.type "list",dict:=none,data:=.seq items k,slots:=#[]})(hlo:-(2^63:Int)<=x)(hhi:x<2^63)(hsz:items.size*x.toNat<=2^24)(h:Q (.ref s.heap.objs.size) {s with heap:=s.heap.push {cls:=.type "list",data:=.seq (List.foldl (fun x1 x2=>x1++x2) #[] (List.replicate (if items.isEmpty=true then 0 else x.toNat) items))}}):
  wpAny (model prog w) A (binaryOp .Mult (.ref l) (.int x u)) Q E s:=by
 refine wpAny_binaryOp_repeat_ref (T:="list") (U:="int") (rfl) ⟨_,hl,rfl⟩ (fun s'=>typeIs_int s' x u) noFill_list_mul PySem.F.fills_int_mul Na repeat_list PySem.F.slot_int_index.lookup
  (F7 Na (typeIs_int s x u) PySem.F.entry_int_rmul (PySem.F.args_int_rmul_2 _ _) (int___rmul___int_list x u l items k) ⟨hl,rfl,⟨_,hl,rfl⟩,?_⟩)
 exact F7 PySem.F.slot_list_mul ⟨_,hl,rfl⟩ PySem.F.entry_list_mul (PySem.F.args_list_mul_2 _ _)
    (AutoListH.list___mul___list_int_3 l items k x u (by simp[Builtin.List.listFitsIndex];exact⟨hlo,hhi⟩) (by lia) (by simp[Builtin.List.listTooLong,sizeLine];exact hsz)) ⟨hl,h⟩
theorem iJ{a:Array Value}{l:List D}(h:a.size=l.length):a.isEmpty=l.isEmpty:=by
 simp only[Array.isEmpty,h];induction l using Lc<;>simp
theorem ak.size{vs:Array Value}(r:ak w V h vs.toList ds):vs.size=ds.length:=gT.symm.trans r.length
theorem nI(e:mE a b f=some d):∃i j,a= .int i/\b= .int j/\f i j=some d:=by
 induction a using PyData.casesOn with
 |int i=>induction b using PyData.casesOn with
  |int j=>exact⟨i,j,rfl,rfl,e⟩
  |_=>exact ax e
 |_=>exact ax e
theorem bq{α:Type}[Decidable c]{x:Option α}{d:α}(e:(if c then x else none)=some d):c/\x=some d:=by
 by_cases h:c
 ·rw[if_pos h]at e;exact⟨h,e⟩
 ·exact Ns (aw h) e
theorem nJ{α:Type}[Decidable c]{x:Option α}{d:α}(e:(if c then none else x)=some d):¬c/\x=some d:=by
 by_cases h:c
 ·exact Ns (if_pos h) e
 ·rw[aw h]at e;exact⟨h,e⟩
def Gx(a b d:D):Prop:=(∃i j,a= .int i/\b= .int j/\ .int (i+j)=d)\/(∃x y,a= .list x/\b= .list y/\x.length+y.length<=lim/\ .list (x++y)=d)\/(∃x y,a= .tuple x/\b= .tuple y/\(x.length+y.length<=lim/\x.isEmpty=false/\y.isEmpty=false)/\ .tuple (x++y)=d)
theorem Kj(e:Uy a b=some d):Gx a b d:=by
 induction a using PyData.casesOn with
 |int i=>induction b using PyData.casesOn with
  |int j=>exact .inl ⟨i,j,rfl,rfl,dS e⟩
  |_=>exact ax e
 |list x=>induction b using PyData.casesOn with
  |list y=>exact .inr (.inl ⟨x,y,rfl,rfl,(bq e).1,dS (bq e).2⟩)
  |_=>exact ax e
 |tuple x=>induction b using PyData.casesOn with
  |tuple y=>exact .inr (.inr ⟨x,y,rfl,rfl,(bq e).1,dS (bq e).2⟩)
  |_=>exact ax e
 |_=>exact ax e
def Gy(a b d:D):Prop:=(∃i j,a= .int i/\b= .int j/\small j=true/\ .int (i*j)=d)\/(∃x n,a= .list x/\b= .int n/\(small n&&decide (x.length*n.toNat<=lim))=true/\ .list (List.replicate n.toNat x).flatten=d)
theorem Kk(e:Uz a b=some d):Gy a b d:=by
 induction a using PyData.casesOn with
 |int i=>induction b using PyData.casesOn with
  |int j=>exact .inl ⟨i,j,rfl,rfl,(bq e).1,dS (bq e).2⟩
  |_=>exact ax e
 |list x=>induction b using PyData.casesOn with
  |int n=>exact .inr ⟨x,n,rfl,rfl,(bq e).1,dS (bq e).2⟩
  |_=>exact ax e
 |_=>exact ax e
theorem Qh(al:jv V s.heap)(ha:aU w V s.heap va a)(hb:aU w V s.heap vb b)(e:Gx a b d)(g:Gives w V s d Q):
  wpAny (model prog w) A (binaryOp (UE .add) va vb) Q E s:=by
 rcases e with⟨i,j,rfl,rfl,rfl⟩|⟨x,y,rfl,rfl,hl,rfl⟩|⟨x,y,rfl,rfl,hl,rfl⟩
 ·obtain⟨t,rfl⟩:=ha.int_inv;obtain⟨u,rfl⟩:=hb.int_inv;exact Uw g.int
 ·obtain⟨a,va,rfl,-,⟨n,pa⟩,ra⟩:=ha.cD;obtain⟨b,vb,rfl,-,⟨m,pb⟩,rb⟩:=hb.cD;refine PySem.P.add_list pa pb (g _ _ (cH _ _ _) (aU.newList al (Rw Fj (ra.append rb)))) (gb ?_);simp only[<-gT,ra.length,<-gT,rb.length];exact hl
 ·obtain⟨a,va,rfl,-,⟨n,pa⟩,ra⟩:=ha.dF;obtain⟨b,vb,rfl,-,⟨m,pb⟩,rb⟩:=hb.dF;refine PySem.P.add_tuple pa pb (Rw (iJ ra.size) (NV.mp hl.2.1)) (Rw (iJ rb.size) (NV.mp hl.2.2)) (g _ _ (cH _ _ _) (aU.vB al (Rw Fj (ra.append rb)))) (gb ?_);exact Rw ra.size (Rw rb.size hl.1)
theorem Qi(al:jv V s.heap)(ha:aU w V s.heap va a)(hb:aU w V s.heap vb b)(e:Gy a b d)(g:Gives w V s d Q):
  wpAny (model prog w) A (binaryOp (UE .mul) va vb) Q E s:=by
 rcases e with⟨i,j,rfl,rfl,hs,rfl⟩|⟨x,j,rfl,rfl,hs,rfl⟩
 ·obtain⟨t,rfl⟩:=ha.int_inv;obtain⟨u,rfl⟩:=hb.int_inv;exact Up g.int (IntMulOk.of_right (rP hs))
 ·obtain⟨a,⟨vs⟩,rfl,-,⟨n,pa⟩,ra⟩:=ha.cD;obtain⟨u,rfl⟩:=hb.int_inv;simp only[dg,iZ]at hs
  haveI hj:=hs.1
  simp only[small,dg,iZ]at hj;refine Dq pa (ma (by decide) hj.1) (vf hj.2 (by decide)) (by show vs.length*_<=_;rw[ra.length];exact aI hs.2 (Dn rfl)) (g _ _ (cH _ _ _) (aU.newList al ?_));simp only[uh,t6]
  induction vs using Lc with
  |nil=>
   cases ra;simp;exact .nil
  |cons v vs=>exact ra.replicate _
theorem Qj(al:jv V s.heap)(ha:aU w V s.heap va a)(hb:aU w V s.heap vb b)(e:fE op a b=some d)(g:Gives w V s d Q):
  wpAny (model prog w) A (binaryOp (UE op) va vb) Q E s:=by
 have int:∀{f:Int->Int->Option D},mE a b f=some d->∃i j t u,va= .int i t/\vb= .int j u/\f i j=some d:=fun e=>by
  refine Bc fun au=>?_;obtain⟨i,j,rfl,rfl,e⟩:=nI e;exact au ⟨i,j,_,_,ha.int_inv.choose_spec,hb.int_inv.choose_spec,e⟩
 induction op using BX.casesOn with
 |add=>exact Qh al ha hb (Kj e) g
 |mul=>exact Qi al ha hb (Kk e) g
 |sub=>
  obtain⟨i,j,t,u,rfl,rfl,e⟩:=int e;exact Un (dS e▸g).int
 |fdiv=>
  obtain⟨i,j,t,u,rfl,rfl,e⟩:=int e
  haveI e1:=nJ e
  exact Uu e1.1 (dS (bq e1.2).2▸g).int (.inl (rQ (bq e1.2).1))
 |mod=>
  obtain⟨i,j,t,u,rfl,rfl,e⟩:=int e
  haveI e1:=nJ e
  exact Uq e1.1 (dS e1.2▸g).int
 |shr=>
  obtain⟨i,j,t,u,rfl,rfl,e⟩:=int e;exact Uo (bq e).1.1 (dS (bq e).2▸g).int
 |band=>
  obtain⟨i,j,t,u,rfl,rfl,e⟩:=int e;exact Uv (dS e▸g).int
theorem xG(h:qz a (.str x)=some z):∃y,a= .str y/\(y==x)=z:=by
 induction a using PyData.casesOn with
 |str y=>exact⟨y,rfl,dS h⟩
 |_=>exact ax h
theorem aU.str_inv(r:aU w V h v (.str x)):∃t,v= .str x t:=by cases r;exact⟨_,rfl⟩
theorem Gz:∀{es:List DictEntry} {kvs:List (D×D)} {x:Str} {d:D} {h:Heap},ak w V h (es.map (·.key)) (kvs.map (·.1))->ak w V h (es.map (·.val)) (kvs.map (·.2))->
  fw (.str x) kvs=some (some d)->∃e,(es.find? fun e=>Value.isStrOf x e.key)=some e/\aU w V h e.val d:=by
 intro es
 induction es with
 |nil=>
  intro kvs x d h a b e;refine Bc fun au=>?_
  induction kvs using Lc with
  |nil=>cases e
  |cons p kvs=>cases a
 |cons en es ih=>
  intro kvs x d h a b e;refine Bc fun au=>?_
  induction kvs using Lc with
  |nil=>cases a
  |cons p kvs=>
   obtain⟨a0,a1⟩:=a.cons_inv;obtain⟨b0,b1⟩:=b.cons_inv
   haveI e:(match qz p.1 (.str x)with|some true=>some (some p.2)|some false=>fw (.str x) kvs|none=>none)=some (some d):=e
   generalize q:qz p.1 (.str x)=zV
   induction zV using Oc with
   |none=>simp only[q]at e;cases e
   |some z=>
    obtain⟨y,h1,h2⟩:=xG q
    haveI a0:aU w V h en.key p.1:=a0
    rw[h1]at a0
    haveI ht:=(Cs a0.str_inv)
    haveI hk:Value.isStrOf x en.key=z:=Rw ht h2
    rw[q]at e;refine au ?_;refine Rw List.find?_cons (Rw hk ?_)
    induction z with
    |true=>exact⟨en,rfl,by injection e with e;injection e with e;exact e▸b0⟩
    |false=>exact ih a1 b1 e
theorem Qk(ra:ak w V h (es.toList.map (·.key)) (kvs.map (·.1)))(k:xE w es)(e:fw (.str x) kvs=some (some d)):∀e∈es,∃k,Value.isStrOf k e.key=true/\e.hash=hashStr w k:=by
 rcases k with k|k
 ·intro en hn;refine absurd ?_ (fun z:False=>z);clear hn
  induction kvs using Lc with
  |nil=>exact nomatch e
  |cons p kvs=>
   obtain⟨es⟩:=es
   induction es using Lc with
   |nil=>cases ra
   |cons e0 es=>
    haveI a0:=ra.cons_inv.1
    obtain⟨i,Dr⟩:=k e0 (by simp);obtain⟨t,ht⟩:=Ft Dr.1
    haveI e:(match qz p.1 (.str x)with|some true=>some (some p.2)|some false=>fw (.str x) kvs|none=>none)=some (some d):=e
    generalize q:qz p.1 (.str x)=zV
    induction zV using Oc with
    |none=>rw[q]at e;exact nomatch e
    |some z=>
     obtain⟨y,O5⟩:=xG q
     haveI a0:aU w V h e0.key p.1:=a0
     simp only[O5.1,ht]at a0;exact nomatch a0
 ·exact k
end
section
theorem nK(h:cN d=true):d.canLay0=true/\d.depth<=64:=
 ⟨(fW.mp h).1,bR (fW.mp h).2⟩
theorem xH(h:cN (.list ys)=true):PyData.canLayAll0 ys=true/\PyData.depthAll ys<=63:=by
 obtain⟨h1,h2⟩:=nK h;simp only[PyData.canLay0]at h1;simp only[PyData.depth]at h2;exact⟨h1,by exact Fz h2⟩
theorem vC(e:o.map (!·)=some r):o=some (!r):=by
 induction o with
 |none=>cases e
 |some b=>cases e;rw[BN]
set_option tactic.hygienic true in
theorem eq_ok(hu:A.units+66<cLine)(ha:aU w V s.heap va a)(hb:aU w V s.heap vb b)(e:Gb a b=some r)(h:Q (.bool r) s):
  wpAny (model prog w) A (compareOp .Eq va vb) Q E s:=by
 unfold Gb at e;split at e
 ·rename_i q;rw[dg]at q;cases e;refine nj fun au=>?_;obtain⟨_,x⟩:=ha.reads;obtain⟨_,y⟩:=hb.reads;refine au ?_;exact eq_dataH x y q.1 q.2 (by lia) h
 ·cases e
set_option tactic.hygienic true in
theorem ui{prog:Program}{w:World}{A:Around}{E:Value->Shared->Prop}{s:Shared}{V:Addr->Prop}{Q:Value->Shared->Prop}{a b:D}{r:Bool}{va vb:Value}(hu:A.units+66<cLine)(ha:aU w V s.heap va a)(hb:aU w V s.heap vb b)(e:Gb a b=some r)(h:Q (.bool (!r)) s):
  wpAny (model prog w) A (compareOp .NotEq va vb) Q E s:=by
 unfold Gb at e;split at e
 ·rename_i q;rw[dg]at q;cases e
  haveI x:=(Cs ha.reads)
  haveI y:=(Cs hb.reads)
  exact ne_dataH x y q.1 q.2 (by lia) h
 ·cases e
theorem Ds(a b):(Value.bool a==Value.bool b)=(a==b):=by induction a<;>induction b<;>rfl
theorem xI(ha:aU w V h va a)(hb:aU w V h vb b)(e:Yi a b=some r):plainIs va vb=true/\(va==vb)=r:=by
 induction b using PyData.casesOn with
 |none=>
  cases hb;have e:=dS e;induction ha using aU.casesOn<;>exact⟨rfl,e⟩
 |bool b=>
  refine Rw hb.bool_inv ?_;have e:=dS e
  induction ha using aU.casesOn with
  |bool a=>exact⟨rfl,(Ds _ _).trans e⟩
  |_=>exact⟨rfl,e⟩
 |_=>exact ax e
theorem GA(e:UB a b=some r):∃x y,a= .str x/\b= .str y/\(!(Builtin.Str.occurrences y x 0 y.length 1).isEmpty)=r:=by
 induction a using PyData.casesOn with
 |str x=>induction b using PyData.casesOn with
  |str y=>exact⟨x,y,rfl,rfl,dS e⟩
  |_=>exact ax e
 |_=>exact ax e
theorem GB(h:qz a x=some z):∃i,x= .str i:=by
 induction a using PyData.casesOn with
 |str y=>induction x using PyData.casesOn with
  |str i=>exact⟨i,rfl⟩
  |_=>exact ax h
 |_=>exact ax h
theorem Dt(e:fw x kvs=some (some d)):∃i,x= .str i:=by
 induction kvs using Lc with
 |nil=>cases e
 |cons p kvs=>
  haveI e:(match qz p.1 x with|some true=>some (some p.2)|some false=>fw x kvs|none=>none)=some (some d):=e
  generalize q:qz p.1 x=zV
  induction zV using Oc with
  |none=>simp only[q]at e;cases e
  |some z=>exact GB q
theorem GD(hx:aU w V s.heap vx x)(hd:aU w V s.heap vd (.dict kvs))(e:fw x kvs=some (some d))(h:∀v,aU w V s.heap v d->Q v {s with toks:=s.toks+1}):wpAny (model prog w) A (getItem vd vx) Q E s:=by
 refine Bc fun au=>?_;obtain⟨i,rfl⟩:=Dt e;obtain⟨a,es,rfl,nv,ns,⟨o,n,e1,e2,e3⟩,z4⟩:=hd.nG
 haveI k:=z4.1
 haveI ra:=z4.2.1
 haveI rb:=z4.2.2.1
 obtain⟨t,rfl⟩:=hx.str_inv;obtain⟨en,z6⟩:=Gz ra rb e;apply au;exact wpAny_getItem_of (knd:=strKind prog w) (k:=i) (rl i) ⟨o,es,n,e1,e2,e3,Qk ra k e,fun ω=>rfl⟩ (v:=en.val) (by unfold findBy;refine Rl (NH) ?_;exact bz (Option.map DictEntry.val) z6.1) (h _ z6.2)
theorem GF(hu:A.units+66<cLine)(ha:aU w V s.heap va a)(hb:aU w V s.heap vb b)(e:Yj a b=some r)(h0:Q (.bool r) s):
  wpAny (model prog w) A (compareOp .NotIn va vb) Q E s:=by
 delta Yj at e
 induction b using PyData.casesOn with
 |list ys=>
  obtain⟨q,e'⟩:=bq (vC e)
  haveI q:=fW.mp q
  obtain⟨_,x⟩:=ha.reads;obtain⟨_,y⟩:=hb.reads
  haveI z:=xH q.1
  exact SeqAt.notIn_list_reads y x z.1 (nK q.2).1 (fj (aI (iY (aI (FK ..) z.2) _) (iY (Dn rfl:1+63<=66) A.units)) hu) (Rw (dS e' ..) (Rw (BN ..) h0))
 |_=>exact Ns rfl e
theorem vD(hu:A.units+66<cLine)(ha:aU w V s.heap va a)(hb:aU w V s.heap vb b)(e:bp op a b=some r)(h:∀s',Keeps s s'->Q (.bool r) s'):wpAny (model prog w) A (compareOp op va vb) Q E s:=by
 have h0:=h s (cw s)
 have int:∀{f:Int->Int->Bool},(mE a b fun i j=>some (f i j))=some r->∃i j t u,va= .int i t/\vb= .int j u/\Q (.bool (f i j)) s:=fun e=>by
  refine Bc fun au=>?_;obtain⟨i,j,rfl,rfl,e⟩:=nI e;exact au ⟨i,j,_,_,ha.int_inv.choose_spec,hb.int_inv.choose_spec,dS e▸h0⟩
 induction op with
 |Eq=>exact eq_ok hu ha hb e h0
 |NotEq=>exact ui hu ha hb (vC e) (Rw (BN ..) h0)
 |Lt=>obtain⟨i,j,t,u,rfl,rfl,h0⟩:=int e;exact M7 h0
 |LtE=>obtain⟨i,j,t,u,rfl,rfl,h0⟩:=int e;exact Ur h0
 |Gt=>obtain⟨i,j,t,u,rfl,rfl,h0⟩:=int e;exact Us h0
 |GtE=>obtain⟨i,j,t,u,rfl,rfl,h0⟩:=int e;exact Ut h0
 |IsNot=>
  haveI q:=xI ha hb (vC e)
  exact Ot q.1 (Rw q.2 (Rw (BN ..) h0))
 |NotIn=>exact GF hu ha hb e h0
 |Is=>
  have q:=xI ha hb e;exact wpAny_is_plain q.1 (Rw q.2 h0)
 |In=>
  obtain⟨x,y,rfl,rfl,hr⟩:=GA e;obtain⟨t,rfl⟩:=ha.str_inv;obtain⟨u,rfl⟩:=hb.str_inv;exact PySem.P.in_str (hr▸h0)
theorem Dv(hv:aU w V s.heap v d)(e:gY d=some b)(h:∀s',Keeps s s'->Q b s'):wpAny (model prog w) A (truthy v) Q E s:=by
 have h0:=h s (cw s);have h2:=h _ (bF s (s.toks+1+1));clear h
 induction d using PyData.casesOn with
 |none=>cases hv;cases e;exact truthy_none h0
 |bool b=>cases e;exact Rw hv.bool_inv (xi h0)
 |int i=>obtain⟨t,rfl⟩:=hv.int_inv;cases e;exact Um h0
 |str=>cases e
 |dict=>cases e
 |list ds=>
  refine Bc fun au=>?_;obtain⟨a,vs,rfl,-,p,r⟩:=hv.cD;obtain⟨hl,e⟩:=bq e;apply au;cases e;have q:=r.length;rw[gT]at q;refine wpAny_truthy_list p.isList (Rw q (Gw hl)) ?_;exact Rw (iJ q) h2
 |tuple ds=>
  refine Bc fun au=>?_;obtain⟨a,vs,rfl,-,p,r⟩:=hv.dF;obtain⟨hl,e⟩:=bq e;apply au;cases e;have q:=r.length;rw[gT]at q;refine truthy_tuple p.isTup (Rw q (Gw hl)) ?_;exact Rw (iJ q) h2
end
structure Gl where
 prog:Program
 w:World
 K:Frag
 base:Heap
 g0:Array GenState
 os0:OsState
 P:dH
 nm:Nat->Str
 cA:Nat->Option Addr
 xA:Nat->Option Value
structure Cx where
 A:Around
 env:Env
 comp:Bool
 envs:List Env
 m:Str->Option Value
noncomputable def Cx.at(c:Cx)(m:Str->Option Value):Cx:={c with m:=m}
noncomputable def Cx.tag(c:Cx):Tag:=if c.comp then .comp else .frame
noncomputable def Cx.names(c:Cx)(st:St):List (Nat×LV):=if c.comp then st.cmp else st.loc
def bw(g:Gl)(p:Snap)(tag:Tag)(v:Value):LV->Prop
 |.dat d=>aU g.w p.V p.h v d
 |.ref k=>∃xd,p.W[k]?=some xd/\v= .ref xd.1
 |.own ds=>∃a vs,v= .ref a/\p.led a=some ⟨tag,.lst vs⟩/\ak g.w p.V p.h vs ds
def iK(g:Gl)(p:Snap)(v:Value):RV->Prop
 |.dat d=>aU g.w p.V p.h v d
 |.ref k=>∃xd,p.W[k]?=some xd/\v= .ref xd.1
inductive gc(g:Gl)(p:Snap)(k:Nat)(o:bt):Prop
 |mk(x d C:Addr)(m:Str->Option Value)(e1:p.W[k]?=some (x,d))(e2:g.cA o.cls=some C)(e3:p.h.get? x=some (instObj C d))(e4:¬p.V x)(e5:p.led d=some ⟨.dict k,.sX m⟩)
  (e6:∀y,m y≠none->∃f,y=g.nm f/\g.P.ju o.cls f=true) (e7:∀f lv,look f o.gW=some lv->g.P.ju o.cls f=true/\ ∃v,m (g.nm f)=some v/\bw g p (.kE k f) v lv):gc g p k o
def mx(g:Gl)(c:Cx)(p:Snap)(x:Nat)(lv:LV):Prop:=∀a,c.env.cells.lookup (g.nm x)=some a->∃v,p.V a/\p.h.IsCell a (some v)/\bw g p .frame v lv/\
  (c.comp=true->p.led a=none)/\(c.comp=false->p.led a=some ⟨.aW x,.cell (some v)⟩)
structure Inv(g:Gl)(c:Cx)(st:St)(p:Snap)(s:Shared):Prop where
 heap:s.heap=p.h
 gens:s.gens=g.g0
 os:s.os=g.os0
 ok:p.Ok g.base c.envs
 ns':p.led c.env.locals=some ⟨c.tag,.ns c.m⟩/\ ∀x lv,look x (c.names st)=some lv->∃v,c.m (g.nm x)=some v/\bw g p (.nH x) v lv
 emp:(if c.comp then st.loc else st.cmp)= []
 aW:∀x lv,look x st.aW=some lv->mx g c p x lv
 jP:c.comp=false->∀x a,c.env.cells.lookup (g.nm x)=some a->∃v,p.led a=some ⟨.aW x,.cell v⟩
 len:st.objs.length=p.W.length
 objs:∀k o,st.objs[k]?=some o->o.live=true->gc g p k o
theorem Inv.ns{st:St}(iv:Inv g c st p s):∃m,p.led c.env.locals=some ⟨c.tag,.ns m⟩/\ ∀x lv,look x (c.names st)=some lv->∃v,m (g.nm x)=some v/\bw g p (.nH x) v lv:=⟨c.m,iv.ns'⟩
theorem Inv.Zp{st:St}(iv:Inv g c st p s)(h:p.led c.env.locals=some ⟨c.tag,.ns m⟩):c.m=m:=by
 haveI:=bz (Option.map Cell.kind) (iv.ns'.1.symm.trans h)
 clear iv h;cases this;rfl
section
theorem lD{α:Type}{l l':List α}(h:l<+:l'){k:Nat}{x:α}(e:l[k]?=some x):l'[k]?=some x:=by
 obtain⟨r,rfl⟩:=h
 haveI hk:=(wZ.mp e).1
 exact(E5 hk).trans e
theorem af.rv{c:Cx}(m:af (aK c.envs) p q)(ok:p.Ok g.base c.envs)(x:iK g p v r):iK g q v r:=by
 induction r with
 |dat d=>exact m.rep ok x
 |ref k=>obtain⟨xd,e,z⟩:=x;exact⟨xd,lD m.pre e,z⟩
theorem af.lv{c:Cx}(m:af (aK c.envs) p q)(ok:p.Ok g.base c.envs)(hl:∀a vs,p.led a=some ⟨tag,.lst vs⟩->q.led a=some ⟨tag,.lst vs⟩)(x:bw g p tag v r):bw g q tag v r:=by
 induction r with
 |dat d=>exact m.rep ok x
 |ref k=>obtain⟨xd,e,z⟩:=x;exact⟨xd,lD m.pre e,z⟩
 |own ds=>obtain⟨a,vs,e1,e2,e3⟩:=x;exact⟨a,vs,e1,hl a vs e2,m.jd ok e3⟩
noncomputable def Snap.grow(p:Snap)(h:Heap):Snap:={p with h:=h}
theorem fG(k:∀b o,p.h.get? b=some o->h.get? b=some o):af fs p (p.grow h):=
 ⟨fun b o e ω ω=>k b o e,fun b o e ω=>⟨o.slots,k b o e⟩,fun b o e=>⟨o,k b o e⟩,fun ω v=>.inl v,fun a c e=>.inl (Rw (show p.led a=some c from e) (fun z=>by injection z)),fun ω v ω=>v,xh _⟩
theorem Kl{p:Snap}(ok:p.Ok base envs)(k:∀b o,p.h.get? b=some o->h.get? b=some o):(p.grow h).Ok base envs where
 stays:=fun b o e=>k b o (ok.stays b o e)
 low:=ok.low
 all:=fun a v=>(ok.all a v).elim fun o e=>⟨o,k a o e⟩
 led:=fun a cl e=>⟨(ok.led a cl e).1,(ok.led a cl e).2.at fun o z=>k a o z⟩
 oZ:=ok.oZ
 de:=ok.de
 f9:=ok.f9.of_keeps fun b o e ω=>⟨o,k b o e,rfl⟩
theorem Inv.grow{st:St}(i:Inv g c st p s)(x:Keeps s s'):Inv g c st (p.grow s'.heap) s'/\af (aK c.envs) p (p.grow s'.heap):=by
 obtain⟨h',tk,rfl,k⟩:=x;replace k:=i.heap▸k;have lv:∀{tag:Tag} {v:Value} {r:LV},bw g p tag v r->bw g (p.grow h') tag v r:=fun z=>(fG k).lv i.ok (fun ω ω e=>e) z;refine⟨⟨rfl,i.gens,i.os,Kl i.ok k,?_,i.emp,?_,i.jP,i.len,?_⟩,(fG k)⟩
 ·haveI JZ:=i.ns'
  haveI e1:=JZ.1
  haveI e2:=JZ.2
  exact⟨e1,fun x v e=>(e2 x v e).elim fun u zL=>⟨u,zL.1,lv zL.2⟩⟩
 ·intro x v e a ha;refine Bc fun au=>?_
  letI u:=Ce (i.aW x v e a ha)
  haveI Xs:=(Cs (i.aW x v e a ha))
  haveI e2:=Xs.1
  haveI e3:=Xs.2.1
  haveI e4:=Xs.2.2.1
  haveI e5:=Xs.2.2.2
  exact au ⟨u,e2,e3.keeps k,lv e4,e5⟩
 ·intro n o e1 e2;obtain⟨x,d,C,m,f1,f2,f3,f4,f5,Ql,f6⟩:=i.objs n o e1 e2;exact⟨x,d,C,m,f1,f2,k _ _ f3,f4,f5,Ql,fun f v e=>(f6 f v e).elim fun a zL=>zL.elim fun u zL=>⟨a,u,zL.1,lv zL.2⟩⟩
theorem Inv.alive{st:St}(i:Inv g c st p s):jv p.V s.heap:=Rw i.heap i.ok.all
def GG(b:Bool)(vs:Array Value):Prop:=5<vs.size/\(b=false->vs[2]?=some .none)
inductive TrB(h₀ h:Heap)(a:Addr)(vs:Array Value):Prop
 |mk(T:Addr)(oT:Obj)(ts:Array Value)(e1:vs[1]?=some (.ref T))(e2:T≠a)(e3:h₀.get? T=none)(e4:h.get? T=some oT)(e5:oT.data= .fields ts)(e6:3<ts.size):TrB h₀ h a vs
def UJ(h₀ h:Heap)(a:Addr)(vs:Array Value):Prop:=vs[1]?=some .none\/TrB h₀ h a vs
inductive ExcAt(g:Gl)(h₀ h:Heap)(e:Value)(x:Nat):Prop
 |mk(a:Addr)(oe:Obj)(vs:Array Value)(cl:Value)(e1:e= .ref a)(e2:h₀.get? a=none)(e3:h.get? a=some oe)(e4:g.xA x=some cl)(e5:oe.cls=cl)(e6:oe.data= .fields vs)(e7:GG (g.P.deep x) vs)(e8:UJ h₀ h a vs):ExcAt g h₀ h e x
inductive mJ{α β:Type}(g:Gl)(c:Cx)(p:Snap)(R:Snap->β->α->Prop)(res:Res α)(v:β)(s':Shared):Prop
 |mk(a:α)(aE:St)(q:Snap)(e:res= .ok a aE)(m:af (aK c.envs) p q)(i:Inv g c aE q s')(r:R q v a):mJ g c p R res v s'
inductive je{α:Type}(g:Gl)(c:Cx)(p:Snap)(res:Res α)(e:Value)(s':Shared):Prop
 |mk(x:Nat)(aE:St)(q:Snap)(er:res= .exc x aE)(m:af (aK c.envs) p q)(i:Inv g c aE q s')(ex:ExcAt g p.h q.h e x):je g c p res e s'
theorem af.back{c:Cx}(m:af (aK c.envs) p q)(e:q.h.get? a=none):p.h.get? a=none:=by
 generalize z:p.h.get? a=zV
 induction zV using Oc with
 |none=>rfl
 |some o=>obtain⟨o',z'⟩:=m.ext a o z;exact Ns e z'
theorem ExcAt.back{c:Cx}(m:af (aK c.envs) p q)(z:ExcAt g q.h h e x):ExcAt g p.h h e x:=by
 obtain⟨a,oe,vs,cl,e1,e2,e3,e4,e5,e6,e7,e8⟩:=z;refine⟨a,oe,vs,cl,e1,m.back e2,e3,e4,e5,e6,e7,?_⟩;rcases e8 with e8|⟨T,oT,ts,f1,f2,f3,f4,f5,f6⟩
 ·exact .inl e8
 ·exact .inr ⟨T,oT,ts,f1,f2,m.back f3,f4,f5,f6⟩
theorem je.lift{res:Res α}{whole:Res β}(ok:p.Ok g.base c.envs)(m:af (aK c.envs) p q)(hx:∀x aE,res= .exc x aE->whole= .exc x aE)(z:je g c q res e s):je g c p whole e s:=by
 obtain⟨x,aE,r,e1,e2,e3,e4⟩:=z;exact⟨x,aE,r,hx x aE e1,m.trans ok e2,e3,e4.back m⟩
theorem mJ.lift(ok:p.Ok g.base c.envs)(m:af (aK c.envs) p q)(z:mJ g c q R res v s):mJ g c p R res v s:=by
 obtain⟨a,aE,r,e1,e2,e3,e4⟩:=z;exact⟨a,aE,r,e1,m.trans ok e2,e3,e4⟩
theorem step{R:Snap->γ->α->Prop}{res:Res α}{whole:Res β}{t:Sem γ}{Q:γ->Shared->Prop}(hw:wpAny M A t (mJ g c q R res) (je g c q res) s)(ok:p.Ok g.base c.envs)(m:af (aK c.envs) p q)(hx:∀x aE,res= .exc x aE->whole= .exc x aE)(k:∀a st1 r s1 v,res= .ok a st1->af (aK c.envs) p r->af (aK c.envs) q r->Inv g c st1 r s1->R r v a->Q v s1):wpAny M A t Q (je g c p whole) s:=
 bA hw (fun v s1 z=>by
  obtain⟨a,st1,r,e1,e2,e3,e4⟩:=z
  exact k a st1 r s1 v e1 (m.trans ok e2) e2 e3 e4) fun e s1 z=>je.lift ok m hx z
end
theorem fH{nm:Nat->Str}(inj:∀x y,nm x=nm y->x=y)(x):∀ks:List (Nat×NameKind),(ks.map fun p=>(nm p.1,p.2)).lookup (nm x)=look x ks
 | []=>rfl
 |(y,k)::r=>by
  simp only[c7,vh,dh,cu];by_cases h:x=y
  ·subst h;simp
  ·haveI:(nm x==nm y)=false:=by
    cases z:nm x==nm y with
    |false=>rfl
    |true=>exact absurd (inj x y (fY.mp z)) h
   exact Rw this (Rw (aw h) (fH inj x r))
noncomputable def O6:BF->Value
 |.len=>.builtin "len" |.list=>.type "list" |.sum=>.builtin "sum" |.min=>.builtin "min" |.max=>.builtin "max" |.sorted=>.builtin "sorted" |.dict=>.type "dict" |.range=>.type "range" |.zip=>.type "zip"
inductive FnAt(g:Gl)(fd:FD)(a:Addr):Prop
 |mk(o:Obj)(f0:FuncData)(e1:g.base.get? a=some o)(e2:o.data= .func f0)(e3:f0.body= .stmts (nB g.nm fd.body))(e4:f0.scope=bh g.nm fd.kinds fd.fast)(e5:f0.globals=mainGlobals)(e6:f0.builtins=builtinsNs)(e7:f0.closure= [])
  (e8:g.base.CodeRec f0.code f0.qualname) (e9:∀vals:List Value,vals.length=fd.params.length->bindArgs f0 ⟨vals,[]⟩=pure ((fd.params.map fun q=>g.nm q.1).zip vals)):FnAt g fd a
structure Gl.Ok(g:Gl)(fA:Nat->Option Addr):Prop where
 inj:∀x y,g.nm x=g.nm y->x=y
 o4:∀x,(g.nm x==("__debug__":Str))=false
 cld:∀x,(g.nm x==("__classdict__":Str))=false
 O7:g.K.In g.base
 nolimit:g.base.NoLimit
 oM:∀x d,g.P.oM x=some d->∃v,Looks (model g.prog g.w) g.base (nsGet mainGlobals (g.nm x)) (some v)/\aU g.w (fun ω=>False) g.base v d
 fn:∀f fd,g.P.fn f=some fd->∃a,fA f=some a/\FnAt g fd a
 gfn:∀f a,f<1000->fA f=some a->Looks (model g.prog g.w) g.base (nsGet mainGlobals (g.nm f)) (some (.ref a))
 bf:∀b,Looks (model g.prog g.w) g.base (nsGet mainGlobals (g.nm (oP b))) none/\Looks (model g.prog g.w) g.base (nsGet builtinsNs (g.nm (oP b))) (some (O6 b))
 ty:Looks (model g.prog g.w) g.base (nsGet mainGlobals (g.nm 9)) none/\Looks (model g.prog g.w) g.base (nsGet builtinsNs (g.nm 9)) (some (.type "type"))
 bo:Looks (model g.prog g.w) g.base (nsGet mainGlobals (g.nm 10)) none/\Looks (model g.prog g.w) g.base (nsGet builtinsNs (g.nm 10)) (some (.type "bool"))
 cls:∀cl C,g.cA cl=some C->Looks (model g.prog g.w) g.base (nsGet mainGlobals (g.nm cl)) (some (.ref C))/\findIn g.K (.ref C) "__getattribute__" =some (some (.builtin "object.__getattribute__"))/\findIn g.K (.ref C) "__getattr__" =some none/\
  findIn g.K (.ref C) "__setattr__" =some (some (.builtin "object.__setattr__"))/\plainOver g.K C=true/\hasDictIn g.K C=true/\makesIn g.K C=true
 init:∀cl f,g.P.init cl=some f->∃C a,g.cA cl=some C/\fA f=some a/\findIn g.K (.ref C) "__init__" =some (some (.ref a))/\typeIn g.K (.ref a)=some (.type "function")
 gv:∀cl m f C,g.P.gv cl m=some f->g.cA cl=some C->g.P.ju cl m=false/\ ∃a,fA f=some a/\findIn g.K (.ref C) (g.nm m)=some (some (.ref a))/\typeIn g.K (.ref a)=some (.type "function")
 gW:∀cl,∃L:List Str,L.length<=1000/\ ∀f,g.P.ju cl f=true->g.nm f∈L
 fld:∀cl f C,g.P.ju cl f=true->g.cA cl=some C->findIn g.K (.ref C) (g.nm f)=some none
structure Cx.Ok(g:Gl)(ks:List (Nat×NameKind))(n:Nat)(c:Cx):Prop where
 frames:c.A.frames=some c.envs
 handled:c.A.handled=none
 depth:c.A.depth+4*n+8<recursionLimit
 units:c.A.units+20*n+120<cLine
 globals:c.env.globals=mainGlobals
 builtins:c.env.builtins=builtinsNs
 kind:c.env.scope.kind= .function
 names:c.env.scope.names=ks.map fun p=>(g.nm p.1,p.2)
 cells:∀x,look x ks=some .cell->∃a,c.env.cells.lookup (g.nm x)=some a
 frame:∃e0 r,c.envs=e0::r/\e0.frame=c.env.frame/\(c.comp=false->e0=c.env/\c.env.frame=some c.env.locals)
theorem Cx.Ok.at{c:Cx}(co:c.Ok g ks n)(m:Str->Option Value):(c.at m).Ok g ks n:=⟨co.1,co.2,co.3,co.4,co.5,co.6,co.7,co.8,co.9,co.10⟩
section
abbrev Gl.M(g:Gl):Model:=model g.prog g.w
theorem Cx.Ok.kindOf{c:Cx}(co:c.Ok g ks n)(inj:∀x y,g.nm x=g.nm y->x=y)(x):c.env.kindOf (g.nm x)=look x ks:=by
 unfold Env.kindOf;refine Rw co.names ?_;exact fH inj x ks
theorem Cx.Ok.block{c:Cx}(co:c.Ok g ks n):c.env.blockKind= .function:=by
 unfold Env.blockKind;refine Rw co.kind ?_;rfl
theorem gd{c:Cx}(co:c.Ok g ks n)(hk:c.env.kindOf x=some .globalImplicit)(st:g.base.StaysIn s.heap)(hl:Looks g.M g.base (nsGet mainGlobals x) (some v))(h:Q v s):wpAny g.M A (loadName c.env x) Q E s:=by
 unfold loadName;refine Rw co.kind ?_;rw[show(ScopeKind.isAnnotationScope .function)=false from rfl,pO,pO,aw (by decide),co.block,hk];dsimp only;unfold loadGlobal;refine Rw co.globals ?_;exact aF (hl A _ _ s st (bY h))
theorem eP{c:Cx}(co:c.Ok g ks n)(hk:c.env.kindOf x=some .globalImplicit)(st:g.base.StaysIn s.heap)(hl:Looks g.M g.base (nsGet mainGlobals x) none)(hb:Looks g.M g.base (nsGet builtinsNs x) (some v))(h:Q v s):wpAny g.M A (loadName c.env x) Q E s:=by
 unfold loadName;refine Rw co.kind ?_;rw[show(ScopeKind.isAnnotationScope .function)=false from rfl,pO,pO,aw (by decide),co.block,hk];dsimp only;unfold loadGlobal;rw[co.globals,co.builtins];exact aF (hl A _ _ s st (aF (hb A _ _ s st (bY h))))
end
section
structure TS{prog:Program}{w:World}{K:Type}[DecidableEq K](knd:KeyKind prog w K)(mk:K->D):Prop where
 rep:∀{k v},knd.is k v=true->∀V h,aU w V h v (mk k)
 inv:∀{k v d V h},knd.is k v=true->aU w V h v d->d=mk k
theorem B5:TS (intKind prog w) .int:=
 ⟨fun e ω ω=>by obtain⟨t,rfl⟩:=Ft e;exact .int _ _,fun e r=>by obtain⟨t,rfl⟩:=Ft e;cases r;rfl⟩
theorem B6:TS (strKind prog w) .str:=
 ⟨fun e ω ω=>by obtain⟨t,rfl⟩:=Np e;exact .str _ _,fun e r=>by obtain⟨t,rfl⟩:=Np e;cases r;rfl⟩
section
variable{K:Type}[DecidableEq K]
theorem GH{prog:Program}{w:World}{V:Addr->Prop}{h:Heap}{knd:KeyKind prog w K}{mk:K->D}(H:TS knd mk):∀(es:List DictEntry) (ks:List D),(∀e∈es,∃k,knd.is k e.key=true/\e.hash=knd.hash k)->ak w V h (es.map (·.key)) ks->∃ns:List K,ks=ns.map mk/\Pairs knd es (ns.zip (es.map (·.val))):=by
 intro zV
 induction zV with
 |nil=>
  exact @fun ks ω r=>by cases r;exact⟨[],rfl,.nil⟩
 |cons e es zI=>
  exact @fun ks hk r=>by
   refine Bc fun au=>?_;obtain⟨k,z4⟩:=hk e (.head _)
   cases r with
   |cons r rs=>
    obtain⟨ns,rfl,hp⟩:=zI _ (fun x hx=>hk x (.tail _ hx)) rs;refine au ?_;exact Rw (H.inv z4.1 r) ⟨k::ns,rfl,.cons z4.1 rfl hp⟩
end
def vE(prog:Program)(w:World)(K:Type)[DecidableEq K](knd:KeyKind prog w K)(ps:List (K×Value))(kvs:List (D×D))(V:Addr->Prop)(h:Heap):Prop:=
 ps.length=kvs.length/\ ∀(j:Nat) (k:K) (x key:Value) (kv:D×D),ps[j]?=some (k,x)->knd.is k key=true->kvs[j]?=some kv->(∀V' h',aU w V' h' key kv.1)/\aU w V h x kv.2
def GI(prog:Program)(w:World)(V:Addr->Prop)(h:Heap)(a:Addr)(kvs:List (D×D)):Prop:=
 ∃(K:Type) (i:DecidableEq K) (knd:KeyKind prog w K) (ps:List (K×Value)),h.DictOf knd a ps/\vE prog w K knd ps kvs V h
theorem nM{α β:Type}{f:α->β}:∀{l:List α},(l.map f).Nodup->l.Nodup:=by
 intro zV
 induction zV with
 |nil=>
  exact @fun ω=>pN
 |cons a l zI=>
  exact @fun h=>by
   rw[c7,nu]at h;rw[nu];exact⟨fun z=>h.1 (tQ z),zI h.2⟩
theorem Km{α β:Type}:∀{l:List α} {r:List β},l.length=r.length->(l.zip r).map (·.1)=l:=by
 intro zV
 induction zV with
 |nil=>
  intro zV;rcases zV with _|⟨b,r⟩
  ·exact @fun ω=>rfl
  ·exact @fun ω=>rfl
 |cons a l zI=>
  intro zV;rcases zV with _|⟨b,r⟩
  ·exact @fun h=>by cases h
  ·exact @fun h=>by simp only[xe,c7,zI (BE h)]
theorem xJ{K:Type}[i:DecidableEq K]{knd:KeyKind prog w K}{mk:K->D}(H:TS knd mk)(e1:h.get? a=some o)(e2:o.ExactDict)(e3:o.data= .dict es n)(kk:∀e∈es,∃k,knd.is k e.key=true/\e.hash=knd.hash k)(ra:ak w V h (es.toList.map (·.key)) (kvs.map (·.1)))(rb:ak w V h (es.toList.map (·.val)) (kvs.map (·.2)))(nd:(kvs.map (·.1)).Nodup):GI prog w V h a kvs:=by
 obtain⟨xs,z2⟩:=GH H es.toList _ (fun e he=>kk e (tP.mp he)) ra;have l1:=by have:=bz List.length z2.1;simpa using this.symm
 haveI hl:xs.length=(es.toList.map (·.val)).length:=by simp only[rb.length,cn,l1]
 refine⟨K,i,knd,xs.zip (es.toList.map (·.val)),⟨o,es,n,e1,e2,e3,kk,z2.2,?_⟩,Rw (List.length_zip ..) (Rl hl (Rw (Nat.min_self ..) (Rw l1 rfl))),fun j k x key kv f1 f2 f3=>?_⟩
 ·rw[Km hl];exact nM (z2.1▸nd)
 ·rw[List.getElem?_zip_eq_some]at f1;refine⟨fun V' h'=>?_,?_⟩
  ·have:(kvs.map (·.1))[j]?=some kv.1:=Rw jK (Rw f3 rfl);exact dS (f1.1▸jK▸z2.1▸this)▸H.rep f2 V' h'
  ·obtain⟨u,e4,r⟩:=rb.get (i:=j) (d:=kv.2) (Rw jK (Rw f3 rfl));rw[f1.2]at e4
   haveI e5:x=u:=dS e4
   exact Rw e5 r
theorem GJ(r:aU w V h (.ref a) (.dict kvs)):¬V a/\(a==sysModules)=false/\GI prog w V h a kvs:=by
 refine Bc fun au=>?_;obtain⟨a',es,e,nv,ns,⟨o,n,e1,e2,e3⟩,kk,z2⟩:=r.nG;cases e;refine au ?_;rcases kk with kk|kk
 ·exact⟨nv,ns,xJ B5 e1 e2 e3 kk z2.1 z2.2.1 z2.2.2⟩
 ·exact⟨nv,ns,xJ B6 e1 e2 e3 kk z2.1 z2.2.1 z2.2.2⟩
end
def Later(src:List Addr)(V:Addr->Prop)(h:Heap)(V':Addr->Prop)(h':Heap):Prop:=
 jv V' h'/\ ∀a o,(¬V a\/a∈src)->h.get? a=some o->(¬V a->¬V' a)/\h'.get? a=some o
noncomputable def rR(g:Gl)(A:Around)(src wr:List Addr)(I:Addr):List D->(Addr->Prop)->Heap->Prop
 | [],V,h=>∀(s:Shared) (V':Addr->Prop),Later src V h V' s.heap->∀(Q:Option Value->Shared->Prop) (E:Value->Shared->Prop),
   (∀h' tk,(∀b o,b∉wr->s.heap.get? b=some o->h'.get? b=some o)->Q none {s with heap:=h',toks:=tk})->wpAny g.M A (pyNext (.ref I)) Q E s
 |d::ds,V,h=>∀(s:Shared) (V':Addr->Prop),Later src V h V' s.heap->∀(GK:Expr) (Q:Value->Shared->Prop) (E:Value->Shared->Prop),
   (∀v h' tk,aU g.w V' h' v d->(∀b o,b∉wr->s.heap.get? b=some o->h'.get? b=some o)->(∀b∈wr,∃o vs,h'.get? b=some o/\o.data= .fields vs)->rR g A src wr I ds V' h'->Q v {s with heap:=h',toks:=tk})->
   wpAny g.M A (pyNext (.ref I)) (fun r s1=>∃v,r=some v/\wpAny g.M A (letOwnedTupleGo GK (.ref I) v) (fun ω s2=>Q v s2) E s1) E s
noncomputable def special:List String:=["enumerate","zip","dict_itemiterator","dict_reverseitemiterator","odict_iterator","itertools.zip_longest","itertools.pairwise"]
section
theorem rS{g:Gl}(ho:s.heap.get? I=some o)(hc:o.cls= .type T)(hT:special.contains T=false)(h:Q () s):
  wpAny g.M A (letOwnedTupleGo GK (.ref I) v) Q E s:=by
 have key:∀(es:List Expr) (k:Nat) (p:Pos),wpAny g.M A (letOwnedTupleGo (.Tuple es k p) (.ref I) v) Q E s:=fun es k p=>by
  induction v<;>first|exact bY h|skip
  refine aF (wpAny_load ho ?_);refine Rw hc ?_;cases o.data<;>first|exact bY h|skip
  dsimp only;refine Rw (show(["enumerate","zip","dict_itemiterator","dict_reverseitemiterator","odict_iterator","itertools.zip_longest","itertools.pairwise"]:List String)=special from rfl) ?_;refine Rw hT ?_;rw[pO,aw (by decide)];exact bY h
 induction GK using Expr.casesOn<;>first|exact key _ _ _|exact key [] 0 ⟨0,0,0,0⟩|exact bY h
theorem vF{St:Nat->Heap->Prop}(W:Walks g.prog g.w A I fp [I] n P St)(hT:special.contains T=false)(tD:∀i h,St i h->∃o vs,h.get? I=some o/\o.cls= .type T/\o.data= .fields vs)(ds:List D)(hn:ds.length=n)(xK:Addr->Prop)(h₀)(hP:∀(i:Nat) (d:D) (v:Value) (V':Addr->Prop) (h':Heap),Later src xK h₀ V' h'->P i v->ds[i]?=some d->aU g.w V' h' v d)(hf:∀b∈fp,b=I\/ ∃o,h₀.get? b=some o/\(¬xK b\/b∈src))(hne:∀a o,(¬xK a\/a∈src)->h₀.get? a=some o->a≠I):
  ∀(r:List D) (i:Nat) (V:Addr->Prop) (h:Heap),r=ds.drop i->i<=n->Later src xK h₀ V h->¬V I->St i h->rR g A src [I] I r V h:=by
 have back:∀(i:Nat) (V V':Addr->Prop) (h h':Heap),Later src xK h₀ V h->Later src V h V' h'->¬V I->St i h->St i h':=fun i V V' h h' L0 L hI st=>
  W.frame i h h' st fun b hb o e=>by
   rcases hf b hb with rfl|⟨o0,q,q'⟩
   ·exact(L.2 _ o (.inl hI) e).2
   ·exact(L.2 _ o (by rcases q' with z|z;exact .inl ((L0.2 b o0 (.inl z) q).1 z);exact .inr z) e).2
 have tr:∀(V V':Addr->Prop) (h h':Heap),Later src xK h₀ V h->Later src V h V' h'->Later src xK h₀ V' h':=fun V V' h h' x y=>
  ⟨y.1,fun a o q e=>by
   have z:=x.2 a o q e;have z2:=y.2 a o (by rcases q with q|q;exact .inl (z.1 q);exact .inr q) z.2
   exact⟨fun nv=>z2.1 (z.1 nv),z2.2⟩⟩
 intro r
 induction r with
 |nil=>
  intro i V h er hi L hI st s V' L' Q E hQ
  have Qm:i=n:=by
   haveI:(ds.drop i).length=0:=bz _ er.symm
   exact xk hi (hn▸Bn (tg▸this))
  obtain rfl:=Qm.symm;exact W.done s Q E (back _ _ _ _ _ L L' hI st) fun h' tk hk=>hQ h' tk hk
 |cons d r ih=>
  intro i V h er hi L hI st s V' L' GK Q E hQ
  have oI:i<n:=by
   haveI:(ds.drop i).length=r.length+1:=bz _ er.symm
   exact hn▸Bq.mp ((tg▸this)▸gU _)
  have hd:=by
   haveI:(ds.drop i)[0]?=some d:=Rl er rfl
   rwa [NM,Oz]at this
  haveI hr:r=ds.drop (i+1):=by
   haveI:(ds.drop i).tail=r:=Rl er rfl
   exact this.symm.trans Oa
  have hI':¬V' I:=by
   obtain⟨o,_,e,_⟩:=tD i h st;exact(L'.2 I o (.inl hI) e).1 hI
  refine W.item i s _ E oI (back _ _ _ _ _ L L' hI st) fun v h' tk pv aE hk=>⟨v,rfl,?_⟩;refine Bc fun au=>?_;obtain⟨o,vs,Xu⟩:=tD (i+1) h' aE;refine au ?_
  haveI Lh:Later src xK h₀ V' h':=⟨fun a va=>(L'.1 a va).elim fun o e=>⟨o,hk a o (fun z=>by rw[dp]at z;exact hI' (z▸va)) e⟩,fun a o q e=>⟨((tr V V' h s.heap L L').2 a o q e).1,hk a o (fun z=>by rw[dp]at z;exact hne a o q e z) ((tr V V' h s.heap L L').2 a o q e).2⟩⟩
  refine rS (s:={s with heap:=h',toks:=tk}) Xu.1 Xu.2.1 hT (hQ v h' tk (hP i d v V' h' Lh pv hd) hk (fun b hb=>by rw[dp]at hb;exact Rw hb ⟨o,vs,Xu.1,Xu.2.2⟩) ?_);exact ih (i+1) V' h' hr oI Lh hI' aE
end
inductive hK(g:Gl)(c:Cx)(p q:Snap)(it:Value)(ds:List D)(hide:Bool):Prop
 |mk(I:Addr)(wr src:List Addr)(e1:it= .ref I)(e2:I∈wr)(e3:∀b∈wr,p.h.get? b=none/\ ¬q.V b/\ ∃o vs,q.h.get? b=some o/\o.data= .fields vs)(e4:∀a∈src,hide=true/\ ∃k f vs,q.led a=some ⟨.kE k f,.lst vs⟩)
  (e5:rR g c.A src wr I ds q.V q.h) (e6:∀s V',Later src q.V q.h V' s.heap->∀(Q:Value->Shared->Prop) E,Q (.ref I) s->wpAny g.M c.A (pyIter (.ref I)) Q E s):hK g c p q it ds hide
inductive zU(g:Gl)(c:Cx)(p:Snap)(res:Res (List D×Bool))(it:Value)(s2:Shared):Prop
 |mk(ds:List D)(hide:Bool)(aE:St)(q:Snap)(h1:Heap)(s1:Shared)(e1:res= .ok (ds,hide) aE)(e2:af (aK c.envs) p {q with h:=h1})(e3:Inv g c aE {q with h:=h1} s1)(e4:∀b o,h1.get? b=some o->q.h.get? b=some o)(e5:Inv g c aE q s2)
  (e6:hK g c {q with h:=h1} q it ds hide):zU g c p res it s2
section
theorem hK.back(m:af (aK c.envs) p q)(x:hK g c q r it ds hide):hK g c p r it ds hide:=by
 obtain⟨I,wr,src,a,b,d,e,f,k⟩:=x;exact⟨I,wr,src,a,b,fun z hz=>⟨m.back (d z hz).1,(d z hz).2⟩,e,f,k⟩
theorem zW(al:jv V h)(o):Later src V h V (h.push o):=
 ⟨fun a v=>(al a v).elim fun o' e=>⟨o',il _ e⟩,fun ω ω ω e=>⟨fun x=>x,il _ e⟩⟩
theorem fT{st:St}(i:Inv g c st q s){St:Nat->Heap->Prop}(W:Walks g.prog g.w c.A s.heap.objs.size fp [s.heap.objs.size] n P St)(hT:special.contains T=false)(tD:∀i h,St i h->∃o vs,h.get? s.heap.objs.size=some o/\o.cls= .type T/\o.data= .fields vs)(hn:ds.length=n)(hP:∀(i:Nat) (d:D) (v:Value) (V':Addr->Prop) (h':Heap),Later src q.V q.h V' h'->P i v->ds[i]?=some d->aU g.w V' h' v d)(hf:∀b∈fp,b=s.heap.objs.size\/ ∃o,q.h.get? b=some o/\(¬q.V b\/b∈src))(hs:∀a∈src,hide=true/\ ∃k f vs,q.led a=some ⟨.kE k f,.lst vs⟩)(mK:St 0 (s.heap.push {cls:=.type T,data:=.fields vs})):hK g c q (q.grow (s.heap.push {cls:=.type T,data:=.fields vs})) (.ref s.heap.objs.size) ds hide:=by
 have hq:q.h.get? s.heap.objs.size=none:=by
  generalize e:q.h.get? s.heap.objs.size=zV
  induction zV using Oc with
  |none=>rfl
  |some o=>exact absurd (fk (i.heap.symm▸e)) (mD _)
 have nV:=i.alive.new;refine⟨s.heap.objs.size,[s.heap.objs.size],src,rfl,.head _,fun b hb=>?_,fun a ha=>hs a ha,?_,fun s' V' L Q E hQ=>?_⟩
 ·rw[dp]at hb;exact Rw hb ⟨hq,nV,_,vs,fX _ rfl,rfl⟩
 ·haveI L0:Later src q.V q.h q.V (s.heap.push {cls:=.type T,data:=.fields vs}):=Rw i.heap (zW i.ok.all _)
  exact vF W hT tD ds hn q.V q.h hP hf (fun a o ω e z=>Ns hq (z▸e)) ds 0 q.V _ rfl (ft _) L0 nV mK
 ·refine W.self 0 s' Q E (W.frame 0 _ _ mK fun b hb o e=>?_) hQ;rcases hf b hb with rfl|⟨o',e',q'⟩
  ·exact(L.2 _ o (.inl nV) e).2
  ·exact(L.2 b o q' e).2
theorem lE{st:St}(i:Inv g c st q s)(o):Inv g c st (q.grow (s.heap.push o)) {s with heap:=s.heap.push o}/\af (aK c.envs) q (q.grow (s.heap.push o)):=i.grow (cH s o s.toks)
theorem fI{st:St}(i:Inv g c st q s)(o):∀b o',q.h.get? b=some o'->(s.heap.push o).get? b=some o':=fun b o' e=>il _ (Rw i.heap e)
theorem uj{st:St}(hh:c.A.handled=none)(i:Inv g c st q s)(src:List Addr)(nl:¬q.V l\/l∈src)(hs:∀a∈src,hide=true/\ ∃k f vs,q.led a=some ⟨.kE k f,.lst vs⟩)(hl:q.h.PlainList l vs)(hr:ak g.w q.V q.h vs.toList ds)(e:res= .ok (ds,hide) st):wpAny g.M c.A (pyIter (.ref l)) (zU g c q res) E s:=by
 have hl':s.heap.IsList l vs:=Rw i.heap hl.isList;obtain⟨k,ho⟩:=hl;apply Bz hl'
 haveI i2:=(lE i {cls:=.type "list_iterator",data:=.fields #[.ref l,.int 0 0]}).1
 refine⟨ds,hide,st,q.grow (s.heap.push {cls:=.type "list_iterator",data:=.fields #[.ref l,.int 0 0]}),q.h,s,e,af.refl _ _,i,(fI i _),i2,fT i (Walks.list hh s.heap.objs.size l (fun z=>absurd (fk (z▸i.heap.symm▸ho)) (mD _)) vs) (T:="list_iterator") (rfl) (fun j h x=>?_) (hr.length.symm.trans gT) (fun j d v V' h' L pv hd=>?_) (fun b hb=>?_) hs
  ⟨⟨_,fX _ rfl,rfl,rfl⟩,hl'.push _⟩⟩
 ·obtain⟨⟨o,e1,e2,e3⟩,_⟩:=x;exact⟨o,_,e1,e2,e3⟩
 ·obtain⟨u,e1,r⟩:=hr.get hd;rw[tf,pv]at e1;cases e1;exact r.imp fun a o n e=>⟨(L.2 a o (.inl n) e).1 n,(L.2 a o (.inl n) e).2⟩
 ·simp only[cL,eF,jr]at hb;refine O2 hb ?_ ?_
  ·exact .inl rfl
  ·exact .inr ⟨_,ho,nl⟩
theorem iter_tuple{st:St}(hh:c.A.handled=none)(i:Inv g c st q s)(nl:¬q.V l)(hl:Dp q.h l vs)(hr:ak g.w q.V q.h vs.toList ds)(e:res= .ok (ds,false) st):
  wpAny g.M c.A (pyIter (.ref l)) (zU g c q res) E s:=by
 obtain⟨k,ho⟩:=hl
 haveI hl':s.heap.IsTuple l vs:=Rw i.heap ⟨_,ho,rfl,k,rfl⟩
 apply wpAny_pyIter_tuple hl'
 refine⟨ds,false,st,q.grow (s.heap.push {cls:=.type "tuple_iterator",data:=.fields #[.ref l,.int 0 0]}),q.h,s,e,af.refl _ _,i,(fI i _),(lE i {cls:=.type "tuple_iterator",data:=.fields #[.ref l,.int 0 0]}).1,fT i (src:=[]) (Walks.tuple hh s.heap.objs.size l (fun z=>absurd (fk (z▸i.heap.symm▸ho)) (mD _)) vs) (T:="tuple_iterator") (rfl) (fun j h x=>?_) (hr.length.symm.trans gT) (fun j d v V' h' L pv hd=>?_) (fun b hb=>?_) (fun ω h=>nomatch h)
  ⟨⟨_,fX _ rfl,rfl,rfl⟩,?_⟩⟩
 ·obtain⟨⟨o,e1,e2,e3⟩,_⟩:=x;exact⟨o,_,e1,e2,e3⟩
 ·obtain⟨u,e1,r⟩:=hr.get hd;rw[tf,pv]at e1;cases e1;exact r.imp fun a o n e=>⟨(L.2 a o (.inl n) e).1 n,(L.2 a o (.inl n) e).2⟩
 ·simp only[cL,eF,jr]at hb;refine O2 hb ?_ ?_
  ·exact .inl rfl
  ·exact .inr ⟨_,ho,.inl nl⟩
 ·obtain⟨o,B7⟩:=hl';exact⟨o,il _ B7.1,B7.2⟩
theorem Dw(hh:A.handled=none)(I)(x)(t):Walks prog w A I [I] [I] x.cps.size (SignAt x) (fun i h=>h.IsStrIter I (strIterType x) x t i):=by
 unfold strIterType;cases x.cps.all (· <128)
 ·exact Walks.strWide hh I x t
 ·exact Walks.strAscii hh I x t
theorem xM(x):special.contains (strIterType x)=false:=by
 unfold strIterType;cases x.cps.all (· <128)
 ·exact rfl
 ·exact rfl
theorem GL{st:St}(hh:c.A.handled=none)(i:Inv g c st q s)(e:res= .ok (x.cps.toList.map fun c=>PyData.str ⟨#[c]⟩,false) st):wpAny g.M c.A (pyIter (.str x t)) (zU g c q res) E s:=by
 apply Oq
 refine⟨_,false,st,q.grow (s.heap.push {cls:=.type (strIterType x),data:=.fields #[.str x t,.int 0 0]}),q.h,s,e,af.refl _ _,i,(fI i _),(lE i {cls:=.type (strIterType x),data:=.fields #[.str x t,.int 0 0]}).1,fT i (src:=[]) (Dw hh s.heap.objs.size x t) (xM x) (fun j h z=>?_) ((cn ..).trans (gT ..)) (fun j d v V' h' L pv hd=>?_) (fun b hb=>?_) (fun ω h=>nomatch h)
  ⟨_,fX _ rfl,rfl,rfl⟩⟩
 ·letI o:=Ce z
  haveI zX:=(Cs z)
  haveI e1:=zX.1
  haveI e2:=zX.2.1
  haveI e3:=zX.2.2
  exact⟨o,_,e1,e2,e3⟩
 ·obtain⟨k,u,e1,rfl⟩:=pv;rw[jK,tf,e1]at hd;exact dS hd▸aU.str _ _
 ·exact .inl (dp.mp hb)
theorem o5{st:St}(hh:c.A.handled=none)(i:Inv g c st q s)(hv:aU g.w q.V q.h v d)(hd:ue d=some ds)(e:res= .ok (ds,false) st):
  wpAny g.M c.A (pyIter v) (zU g c q res) E s:=by
 induction d using PyData.casesOn with
 |list xs=>cases hd;obtain⟨a,vs,rfl,nv,pl,r⟩:=hv.cD;exact uj hh i [] (.inl nv) (fun ω h=>nomatch h) pl r e
 |tuple xs=>cases hd;obtain⟨a,vs,rfl,nv,pt,r⟩:=hv.dF;exact iter_tuple hh i nv pt r e
 |str x=>cases hd;obtain⟨t,rfl⟩:=hv.str_inv;exact GL hh i e
 |_=>cases hd
end
def GN(g:Gl)(q:Snap)(v:Value)(d:D):Prop:=aU g.w q.V q.h v d
def GO(g:Gl)(q:Snap)(v:Value)(d:D):Prop:=aU g.w q.V q.h v d\/ ∃a tag vs ds,v= .ref a/\d= .list ds/\q.led a=some ⟨tag,.lst vs⟩/\ak g.w q.V q.h vs ds
def UK(g:Gl)(q:Snap)(vs:List Value)(ds:List D):Prop:=ak g.w q.V q.h vs ds
def Qn(_:Snap)(b b':Bool):Prop:=b=b'
theorem ah{x:Res α}{f:α->St->Res β}(h:x.bind f≠ .bad):x≠ .bad:=by
 rintro rfl;exact h rfl
theorem aa{x:Res α}{f:α->St->Res β}{a:α}{st:St}(h:x= .ok a st):x.bind f=f a st:=Rw h rfl
theorem ar{x:Res α}{f:α->St->Res β}{st:St}(h:x= .exc y st):x.bind f= .exc y st:=Rw h rfl
theorem b7{o:Option α}{st:St}(h:opt o st≠ .bad):∃a,o=some a:=by
 induction o with
 |none=>exact(h rfl).elim
 |some a=>exact⟨a,rfl⟩
section
def SVal(g:Gl)(c:Cx)(e:Expr)(f:St->Res RV):Prop:=
 ∀st p s,Inv g c st p s->f st≠ .bad->wpAny g.M c.A (eval e c.env) (mJ g c p (iK g) (f st)) (je g c p (f st)) s
def gG(g:Gl)(c:Cx)(e:Expr)(f:St->Res D):Prop:=
 ∀st p s,Inv g c st p s->f st≠ .bad->wpAny g.M c.A (eval e c.env) (mJ g c p (GN g) (f st)) (je g c p (f st)) s
def Dx(g:Gl)(c:Cx)(e:Expr)(f:St->Res Bool):Prop:=
 ∀st p s,Inv g c st p s->f st≠ .bad->wpAny g.M c.A (isTrue e c.env (eval e c.env)) (mJ g c p Qn (f st)) (je g c p (f st)) s
def SPk(g:Gl)(c:Cx)(e:Expr)(f:St->Res D):Prop:=
 ∀st p s,Inv g c st p s->f st≠ .bad->wpAny g.M c.A (eval e c.env) (mJ g c p (GO g) (f st)) (je g c p (f st)) s
def Xv(g:Gl)(c:Cx)(e:Expr)(f:St->Res (List D×Bool)):Prop:=
 ∀st p s,Inv g c st p s->f st≠ .bad->wpAny g.M c.A (eval e c.env) (fun x s1=>wpAny g.M c.A (pyIter x) (zU g c p (f st)) (je g c p (f st)) s1) (je g c p (f st)) s
structure aA(g:Gl)(c:Cx)(e:Expr)(v:Ev):Prop where
 val:SVal g c e v.val
 gw:Dx g c e v.gw
 pk:SPk g c e v.pk
 it:Xv g c e v.it
theorem SVal.dat{v:Ev}(h:SVal g c e v.val):gG g c e v.dat:=by
 intro st p s i hb;refine step (h st p s i (ah hb)) i.ok (af.refl _ _) (fun x aE e=>ar e) fun a st1 r s1 v e mv ω i1 rr=>?_
 induction a with
 |dat d=>exact⟨d,st1,r,aa e,mv,i1,rr⟩
 |ref k=>exact(hb (aa e)).elim
theorem gG.val(h:gG g c e f):SVal g c e fun st=>(f st).bind fun d st=>.ok (.dat d) st:=by
 intro st p s i hb;exact step (h st p s i (ah hb)) i.ok (af.refl _ _) (fun x aE e=>ar e) fun a st1 r s1 v e mv ω i1 rr=>⟨.dat a,st1,r,aa e,mv,i1,rr⟩
theorem zU.lift(ok:p.Ok g.base c.envs)(m:af (aK c.envs) p q)(e:res=GP)(z:zU g c q res it s):zU g c p GP it s:=by
 obtain⟨ds,hide,aE,r,h1,s1,e1,e2,e3,e4,e5,e6⟩:=z;exact⟨ds,hide,aE,r,h1,s1,e▸e1,m.trans ok e2,e3,e4,e5,e6⟩
theorem aA.bc{g:Gl}{c:Cx}{e:Expr}{f:St->Res RV}(hh:c.A.handled=none)(h:SVal g c e f)(ht:∀whole,isTrue e c.env whole=(do let v<-whole;standAt e.pos;holding [v] (truthy v))):aA g c e (bc f)where
 val:=h
 gw:=by
  intro st p s i hb;refine wpAny_isTrue_value (step (h st p s i (ah hb)) i.ok (af.refl _ _) (fun x aE e=>ar e) fun a st1 r s1 v e mv ω i1 rr=>?_) (ht _)
  cases a with
  |ref k=>exact absurd (aa e) hb
  |dat d=>
   have iM:opt (gY d) st1≠ .bad:=fun z=>hb ((aa e).trans z);obtain⟨b,eb⟩:=b7 iM;have rr':aU g.w r.V s1.heap v d:=by rw[i1.heap];exact rr
   refine Dv rr' eb fun s2 k2=>?_;obtain⟨i2,m2⟩:=i1.grow k2;exact⟨b,st1,_,(aa e).trans (by dsimp only;rw[eb];rfl),mv.trans i.ok m2,i2,rfl⟩
 pk:=by
  intro st p s i hb;refine step (h st p s i (ah hb)) i.ok (af.refl _ _) (fun x aE e=>ar e) fun a st1 r s1 v e mv ω i1 rr=>?_
  cases a with
  |dat d=>exact⟨d,st1,r,aa e,mv,i1,.inl rr⟩
  |ref k=>exact absurd (aa e) hb
 it:=by
  intro st p s i hb;refine step (h st p s i (ah hb)) i.ok (af.refl _ _) (fun x aE e=>ar e) fun a st1 r s1 v e mv ω i1 rr=>?_
  cases a with
  |ref k=>exact absurd (aa e) hb
  |dat d=>
   have iM:opt ((ue d).map (·,false)) st1≠ .bad:=fun z=>hb ((aa e).trans z);refine nj fun au=>?_;obtain⟨b,eb⟩:=b7 iM;obtain⟨ds,e1,rfl⟩:=iu.mp eb;refine au ?_;refine bA (o5 (E:=fun ω ω=>False) hh i1 rr e1 rfl) (fun it s2 z=>zU.lift i.ok mv ?_ z) fun ω ω z=>z.elim;exact((aa e).trans (by dsimp only;rw[eb];rfl)).symm
theorem aA.bV{g:Gl}{c:Cx}{e:Expr}{f:St->Res D}(hh:c.A.handled=none)(h:gG g c e f)(ht:∀whole,isTrue e c.env whole=(do let v<-whole;standAt e.pos;holding [v] (truthy v))):aA g c e (bV f):=aA.bc hh h.val ht
section
variable{g:Gl}{c:Cx}{p:Snap}{q:Snap}{s:Shared}{s':Shared}
theorem eQ{α β:Type}{R:Snap->β->α->Prop}{res:Res α}{v:β}{a:α}{st1:St}(e:res= .ok a st1)(ok:p.Ok g.base c.envs)(m:af (aK c.envs) p q)(i:Inv g c st1 q s)(k:Keeps s s')(h:R (q.grow s'.heap) v a):mJ g c p R res v s':=
 let⟨i2,m2⟩:=i.grow k
 ⟨a,st1,_,e,m.trans ok m2,i2,h⟩
end
theorem Kn:SVal g c (.Constant (.int i) k pos) fun st=>.ok (.dat (.int i)) st:=fun st p s iv ω=>
 Bv (eQ rfl iv.ok (af.refl _ _) iv (bF _ _) (aU.int _ _))
theorem Ko:SVal g c (.Constant (.str x) k pos) fun st=>.ok (.dat (.str x)) st:=fun st p s iv ω=>
 FJ (eQ rfl iv.ok (af.refl _ _) iv (bF _ _) (aU.str _ _))
theorem GQ:SVal g c (.Constant (.bool b) k pos) fun st=>.ok (.dat (.bool b)) st:=fun st p s iv ω=>
 N9 (eQ rfl iv.ok (af.refl _ _) iv (cw _) (aU.bool _))
theorem GS:SVal g c (.Constant .none k pos) fun st=>.ok (.dat .none) st:=fun st p s iv ω=>
 N8 (eQ rfl iv.ok (af.refl _ _) iv (cw _) aU.none)
theorem Zq{β:Type}{f:List D->Res β}{d:D}(h:(match d with|.list xs=>f xs|_=>.bad)≠ .bad):∃xs,d= .list xs:=by
 induction d using PyData.casesOn with
 |list xs=>exact⟨xs,rfl⟩
 |_=>exact(h rfl).elim
theorem isI{β:Type}{f:Int->Res β}{d:D}(h:(match d with|.int xs=>f xs|_=>.bad)≠ .bad):∃xs,d= .int xs:=by
 induction d using PyData.casesOn with
 |int xs=>exact⟨xs,rfl⟩
 |_=>exact(h rfl).elim
theorem Kp(h:aA g c e v):gG g c (.UnaryOp .USub e pos) fun st=>(v.dat st).bind fun d st=>match d with|.int i=>.ok (.int (-i)) st|_=>.bad:=by
 intro st p s iv hb;refine OP (step (h.val.dat st p s iv (ah hb)) iv.ok (af.refl _ _) (fun x aE e=>ar e) fun a st1 r s1 v e mv ω i1 rr=>?_);obtain⟨k,rfl⟩:=isI (fun z=>hb ((aa e).trans z));obtain⟨t,rfl⟩:=rr.int_inv;exact M6 (eQ (aa e) iv.ok mv i1 (bF _ _) (aU.int _ _))
theorem Kq(hl:aA g c l vl)(hr:aA g c r vr):
  gG g c (.BinOp l (UE op) r pos) fun st=>(vl.dat st).bind fun a st=>(vr.dat st).bind fun b st=>opt (fE op a b) st:=by
 intro st p s iv hb;refine wpAny_BinOp (step (hl.val.dat st p s iv (ah hb)) iv.ok (af.refl _ _) (fun x aE e=>ar e) fun a st1 q1 s1 va e1 m1 ω i1 r1=>?_);have hb1:=fun z=>hb ((aa e1).trans z);refine step (hr.val.dat st1 q1 s1 i1 (ah hb1)) iv.ok m1 (fun x aE e=>(aa e1).trans (ar e)) fun b st2 q2 s2 vb e2 m2 qQ i2 r2=>?_;obtain⟨d,ed⟩:=b7 (fun z=>hb1 ((aa e2).trans z));refine Qj (V:=q2.V) i2.alive (Rw i2.heap (qQ.rep i1.ok r1)) (Rw i2.heap r2) ed fun v s3 k3 r3=>eQ ((aa e1).trans ((aa e2).trans (Rw ed rfl))) iv.ok m2 i2 k3 r3
theorem xN(hu:c.A.units+66<cLine)(hm:behindInMarks op r=false)(hl:aA g c l vl)(hr:aA g c r vr):
  SVal g c (.Compare l [op] [r] pos) fun st=>((vl.dat st).bind fun a st=>(vr.dat st).bind fun b st=>opt (bp op a b) st).bind fun b st=>.ok (.dat (.bool b)) st:=by
 intro st p s iv hb;refine wpAny_Compare1 (step (hl.val.dat st p s iv (ah (ah hb))) iv.ok (af.refl _ _) (fun x aE e=>ar (ar e)) fun a st1 q1 s1 va e1 m1 ω i1 r1=>?_) hm;have hb1:=fun z=>(ah hb) ((aa e1).trans z);refine step (hr.val.dat st1 q1 s1 i1 (ah hb1)) iv.ok m1 (fun x aE e=>ar ((aa e1).trans (ar e))) fun b st2 q2 s2 vb e2 m2 qQ i2 r2=>?_;obtain⟨d,ed⟩:=b7 (fun z=>hb1 ((aa e2).trans z));refine vD (V:=q2.V) hu (Rw i2.heap (qQ.rep i1.ok r1)) (Rw i2.heap r2) ed fun s3 k3=>eQ (aa ((aa e1).trans ((aa e2).trans (Rw ed rfl)))) iv.ok m2 i2 k3 (aU.bool _)
theorem xO(hu:c.A.units+66<cLine)(hm:behindInMarks op r=false)(hl:aA g c l vl)(hr:aA g c r vr):
  Dx g c (.Compare l [op] [r] pos) fun st=>(vl.dat st).bind fun a st=>(vr.dat st).bind fun b st=>opt (bp op a b) st:=by
 intro st p s iv hb;refine NW (step (hl.val.dat st p s iv (ah hb)) iv.ok (af.refl _ _) (fun x aE e=>ar e) fun a st1 q1 s1 va e1 m1 ω i1 r1=>?_) hm;have hb1:=fun z=>hb ((aa e1).trans z);refine step (hr.val.dat st1 q1 s1 i1 (ah hb1)) iv.ok m1 (fun x aE e=>(aa e1).trans (ar e)) fun b st2 q2 s2 vb e2 m2 qQ i2 r2=>?_;obtain⟨d,ed⟩:=b7 (fun z=>hb1 ((aa e2).trans z));refine vD (V:=q2.V) hu (Rw i2.heap (qQ.rep i1.ok r1)) (Rw i2.heap r2) ed fun s3 k3=>xi (eQ ((aa e1).trans ((aa e2).trans (Rw ed rfl))) iv.ok m2 i2 k3 rfl)
theorem vG(hu:c.A.units+66<cLine)(hm:lastMarks [o1,o2] [b,d]=false)(ha:aA g c a va)(hb':aA g c b vb)(hc:aA g c d vc):
  Dx g c (.Compare a [o1,o2] [b,d] pos) fun st=>(va.dat st).bind fun x st=>(vb.dat st).bind fun y st=>(opt (bp o1 x y) st).bind fun t st=>if t then(vc.dat st).bind fun z st=>opt (bp o2 y z) st else .ok false st:=by
 intro st p s iv hb0;refine isTrue_chain (step (ha.val.dat st p s iv (ah hb0)) iv.ok (af.refl _ _) (fun x aE e=>ar e) fun x st1 q1 s1 vx e1 m1 ω i1 r1=>test_link ?_) hm;have hb1:=fun z=>hb0 ((aa e1).trans z);refine step (hb'.val.dat st1 q1 s1 i1 (ah hb1)) iv.ok m1 (fun x aE e=>(aa e1).trans (ar e)) fun y st2 q2 s2 vy e2 m2 qQ i2 r2=>?_;have iM:=fun z=>hb1 ((aa e2).trans z);obtain⟨t,et⟩:=b7 (ah iM);have e3:opt (bp o1 x y) st2= .ok t st2:=Rw et rfl;refine vD (V:=q2.V) hu (Rw i2.heap (qQ.rep i1.ok r1)) (Rw i2.heap r2) et fun s3 k3=>xi ?_
 induction t with
 |false=>exact eQ ((aa e1).trans ((aa e2).trans ((aa e3).trans rfl))) iv.ok m2 i2 k3 rfl
 |true=>
  haveI r3:=(i2.grow k3).2.rep i2.ok r2
  refine test_last (step (hc.val.dat st2 _ s3 (i2.grow k3).1 (ah (fun z=>iM ((aa e3).trans z)))) iv.ok (m2.trans iv.ok (i2.grow k3).2) (fun x aE e=>(aa e1).trans ((aa e2).trans ((aa e3).trans (ar e)))) fun z zY q4 s4 vz e4 m4 UL i4 r4=>?_)
  haveI hb4:=fun z=>(fun z=>iM ((aa e3).trans z)) ((aa e4).trans z)
  obtain⟨u,eu⟩:=b7 hb4;exact vD (V:=q4.V) hu (Rw i4.heap (UL.rep (i2.grow k3).1.ok r3)) (Rw i4.heap r4) eu fun s5 k5=>xi (eQ ((aa e1).trans ((aa e2).trans ((aa e3).trans ((aa e4).trans (Rw eu rfl))))) iv.ok m4 i4 k5 rfl)
theorem mJ.eS(ok:p.Ok g.base c.envs)(m:af (aK c.envs) p q)(e:whole=res)(z:mJ g c q R res v s):mJ g c p R whole v s:=e▸z.lift ok m
theorem je.eS(ok:p.Ok g.base c.envs)(m:af (aK c.envs) p q)(e:whole=res)(z:je g c q res v s):je g c p whole v s:=e▸z.lift ok m fun ω ω e=>e
theorem GU{x y:Res α}(h:(if b then x else y)≠ .bad):(b=true->x≠ .bad)/\(b=false->y≠ .bad):=by
 cases(b)
 ·exact⟨(fun z=>by injection z),(fun ω=>h)⟩
 ·exact⟨(fun ω=>h),(fun z=>by injection z)⟩
theorem xP(ht:aA g c t vt)(ha:aA g c a va)(hb':aA g c b vb):
  SVal g c (.IfExp t a b pos) fun st=>(vt.gw st).bind fun x st=>if x then va.val st else vb.val st:=by
 intro st p s iv hb;refine wpAny_IfExp (step (ht.gw st p s iv (ah hb)) iv.ok (af.refl _ _) (fun x aE e=>ar e) fun x st1 q1 s1 vx e1 m1 ω i1 r1=>?_);obtain rfl:=(r1).symm
 induction x with
 |true=>exact bA (ha.val st1 q1 s1 i1 ((GU fun z=>hb ((aa e1).trans z)).1 rfl)) (fun v s2 z=>z.eS iv.ok m1 (aa e1)) fun v s2 z=>z.eS iv.ok m1 (aa e1)
 |false=>exact bA (hb'.val st1 q1 s1 i1 ((GU fun z=>hb ((aa e1).trans z)).2 rfl)) (fun v s2 z=>z.eS iv.ok m1 (aa e1)) fun v s2 z=>z.eS iv.ok m1 (aa e1)
theorem Kr(h:aA g c e v):Dx g c (.UnaryOp .Not e pos) fun st=>(v.gw st).bind fun b st=>.ok (!b) st:=by
 intro st p s iv hb;refine wpAny_isTrue_Not (step (h.gw st p s iv (ah hb)) iv.ok (af.refl _ _) (fun x aE e=>ar e) fun x st1 q1 s1 vx e1 m1 ω i1 r1=>?_);exact Rw r1 ⟨_,st1,q1,aa e1,m1,i1,rfl⟩
theorem Ca:SVal g c e pV:=fun ω ω ω ω h=>absurd rfl h
theorem bL(nm:Nat->Str)(m)(ms)(env):starEach (aB nm m::ms) env=(false,eval (aB nm m) env)::starEach ms env:=by induction m using ME.casesOn<;>rfl
end
section
noncomputable def cB(g:Gl)(q:Snap):List Value->List RV->Prop
 | [],[]=>True
 |v::vs,r::rs=>iK g q v r/\cB g q vs rs
 |_,_=>False
theorem af.Ks{c:Cx}(m:af (aK c.envs) p q)(ok:p.Ok g.base c.envs):∀{vs:List Value} {rs:List RV},cB g p vs rs->cB g q vs rs
 | [],[],_=>trivial
 |_::_,_::_,⟨a,b⟩=>⟨m.rv ok a,m.Ks ok b⟩
 | [],_::_,x=>x.elim
 |_::_,[],x=>x.elim
theorem cB.length:∀{vs:List Value} {rs:List RV},cB g q vs rs->vs.length=rs.length
 | [],[],_=>rfl
 |_::_,_::_,⟨_,b⟩=>Rw List.length_cons (Rw List.length_cons (Rw b.length rfl))
 | [],_::_,x=>x.elim
 |_::_,[],x=>x.elim
theorem UM{call:Call}:bS P call (m::ms)=ev P call m::bS P call ms:=rfl
theorem Qo{st:St}:gx (e::es) st=(e.dat st).bind fun r st=>(gx es st).bind fun rs st=>.ok (r::rs) st:=rfl
theorem qR{call:Call}:∀(ms:List ME),(∀m∈ms,aA g c (aB g.nm m) (ev P call m))->∀st p s,Inv g c st p s->gx (bS P call ms) st≠ .bad->
  wpAny g.M c.A (spliced (backTo pos (starEach (ba g.nm ms) c.env))) (mJ g c p (UK g) (gx (bS P call ms) st)) (je g c p (gx (bS P call ms) st)) s:=by
 intro zV
 induction zV with
 |nil=>
  exact @fun ω st p s iv ω=>t8 ⟨[],st,p,rfl,af.refl _ _,iv,ak.nil⟩
 |cons m ms zI=>
  exact @fun h st p s iv hb=>by
   refine pK (step ((h m (.head _)).val.dat st p s iv (ah hb)) iv.ok (af.refl _ _) (fun x aE e=>ar e) fun a st1 q1 s1 va e1 m1 ω i1 r1=>?_) (bL _ _ _ _);exact step (zI (fun m hm=>h m (.tail _ hm)) st1 q1 s1 i1 (ah (fun z=>hb ((aa e1).trans z)))) iv.ok m1 (fun x aE e=>(aa e1).trans (ar e)) fun b st2 q2 s2 vb e2 m2 qQ i2 r2=>⟨_,st2,q2,(aa e1).trans (aa e2),m2,i2,ak.cons (qQ.rep i1.ok r1) r2⟩
theorem qS{call:Call}:∀(ms:List ME),(∀m∈ms,aA g c (aB g.nm m) (ev P call m))->∀st p s,Inv g c st p s->g4 (bS P call ms) st≠ .bad->
  wpAny g.M c.A (spliced (backTo pos (starEach (ba g.nm ms) c.env))) (mJ g c p (cB g) (g4 (bS P call ms) st)) (je g c p (g4 (bS P call ms) st)) s:=by
 intro zV
 induction zV with
 |nil=>
  exact @fun ω st p s iv ω=>t8 ⟨[],st,p,rfl,af.refl _ _,iv,trivial⟩
 |cons m ms zI=>
  exact @fun h st p s iv hb=>by
   refine pK (step ((h m (.head _)).val st p s iv (ah hb)) iv.ok (af.refl _ _) (fun x aE e=>ar e) fun a st1 q1 s1 va e1 m1 ω i1 r1=>?_) (bL _ _ _ _);exact step (zI (fun m hm=>h m (.tail _ hm)) st1 q1 s1 i1 (ah (fun z=>hb ((aa e1).trans z)))) iv.ok m1 (fun x aE e=>(aa e1).trans (ar e)) fun b st2 q2 s2 vb e2 m2 qQ i2 r2=>⟨_,st2,q2,(aa e1).trans (aa e2),m2,i2,qQ.rv i1.ok r1,r2⟩
theorem GV{call:Call}(op):∀(ms:List ME),(∀m∈ms,aA g c (aB g.nm m) (ev P call m))->∀st p s,Inv g c st p s->mF op (bS P call ms) st≠ .bad->
  wpAny g.M c.A (allTrue op (ba g.nm ms) c.env) (mJ g c p Qn (mF op (bS P call ms) st)) (je g c p (mF op (bS P call ms) st)) s:=by
 intro zV
 induction zV with
 |nil=>
  exact @fun ω st p s iv ω=>by
   induction op
   ·exact wpAny_allTrue_And_nil ⟨_,st,p,rfl,af.refl _ _,iv,rfl⟩
   ·exact wpAny_allTrue_Or_nil ⟨_,st,p,rfl,af.refl _ _,iv,rfl⟩
 |cons m ms zI=>
  exact @fun h st p s iv hb=>by
   induction op with
   |And=>
    refine wpAny_allTrue_And_cons (step ((h m (.head _)).gw st p s iv (ah hb)) iv.ok (af.refl _ _) (fun x aE e=>ar e) fun a st1 q1 s1 va e1 m1 ω i1 r1=>?_);cases r1;have hb1:=fun z=>hb ((aa e1).trans z)
    cases a with
    |false=>exact⟨_,st1,q1,aa e1,m1,i1,rfl⟩
    |true=>exact bA (zI (fun m hm=>h m (.tail _ hm)) st1 q1 s1 i1 hb1) (fun v s2 z=>z.eS iv.ok m1 (aa e1)) fun v s2 z=>z.eS iv.ok m1 (aa e1)
   |Or=>
    refine wpAny_allTrue_Or_cons (step ((h m (.head _)).gw st p s iv (ah hb)) iv.ok (af.refl _ _) (fun x aE e=>ar e) fun a st1 q1 s1 va e1 m1 ω i1 r1=>?_);cases r1;have hb1:=fun z=>hb ((aa e1).trans z)
    cases a with
    |true=>exact⟨_,st1,q1,aa e1,m1,i1,rfl⟩
    |false=>exact bA (zI (fun m hm=>h m (.tail _ hm)) st1 q1 s1 i1 hb1) (fun v s2 z=>z.eS iv.ok m1 (aa e1)) fun v s2 z=>z.eS iv.ok m1 (aa e1)
theorem pY(nm:Nat->Str):∀ms:List ME,(ba nm ms).length=ms.length
 | []=>rfl
 |_::ms=>bz (· +1) (pY nm ms)
theorem iN{call:Call}:∀(ms:List ME) (st:St) (ds:List D) (aE:St),gx (bS P call ms) st= .ok ds aE->ds.length=ms.length:=by
 intro zV
 induction zV with
 |nil=>
  exact @fun st ds aE e=>by cases e;rfl
 |cons m ms zI=>
  exact @fun st ds aE e=>by
   simp only[UM,Qo]at e;generalize e1:(ev P call m).dat st=zV
   induction zV using Res.casesOn with
   |bad=>rw[e1]at e;cases e
   |exc x s=>rw[e1]at e;injection e
   |ok a s1=>
    replace e:=(aa e1)▸e;generalize e2:gx (bS P call ms) s1=zV
    induction zV using Res.casesOn with
    |bad=>rw[e2]at e;injection e
    |exc x s=>rw[e2]at e;injection e
    |ok b s2=>
     rw[aa e2]at e;cases e;simp only[List.length_cons,List.length_cons,zI s1 b _ e2]
section
variable{g:Gl}{c:Cx}{call:Call}
theorem Kt{P:dH}{ms:List ME}{pos:Pos}(hl:ms.length<=1000)(h:∀m∈ms,aA g c (aB g.nm m) (ev P call m)):gG g c (.List (ba g.nm ms) pos) fun st=>(gx (bS P call ms) st).bind fun ds st=>.ok (.list ds) st:=by
 intro st p s iv hb;refine F6 (step (qR ms h st p s iv (ah hb)) iv.ok (af.refl _ _) (fun x aE e=>ar e) fun a st1 q1 s1 va e1 m1 ω i1 r1=>⟨?_,?_⟩)
 ·rw[ak.length r1,iN ms _ _ _ e1];exact aI hl (by rw[kq];decide)
 ·refine eQ (aa e1) iv.ok m1 i1 (cH _ _ _) (aU.newList (h:=s1.heap) (vs:=va.toArray) i1.alive ?_);exact Rw i1.heap r1
end
section
variable{g:Gl}{c:Cx}{call:Call}
theorem Ku{P:dH}{ms:List ME}{k:Nat}{pos:Pos}(hl:ms.length<=1000)(h:∀m∈ms,aA g c (aB g.nm m) (ev P call m)):gG g c (.Tuple (ba g.nm ms) k pos) fun st=>(gx (bS P call ms) st).bind fun ds st=>.ok (.tuple ds) st:=by
 intro st p s iv hb;refine wpAny_Tuple (step (qR ms h st p s iv (ah hb)) iv.ok (af.refl _ _) (fun x aE e=>ar e) fun a st1 q1 s1 va e1 m1 ω i1 r1=>⟨?_,?_⟩)
 ·rw[ak.length r1,iN ms _ _ _ e1];exact aI hl (by rw[kq];decide)
 ·refine eQ (aa e1) iv.ok m1 i1 (cH _ _ _) (aU.vB (h:=s1.heap) (vs:=va.toArray) i1.alive ?_);exact Rw i1.heap r1
end
theorem Kv(go:g.Ok fA)(co:c.Ok g ks n)(hk:look x ks=some .globalImplicit):SVal g c (.Name (g.nm x) pos) fun st=>opt ((g.P.oM x).map .dat) st:=by
 intro st p s iv hb;refine Bc fun au=>?_;obtain⟨r,e⟩:=b7 hb;obtain⟨d,e1,rfl⟩:=iu.mp e;obtain⟨v,z5⟩:=go.oM x d e1;apply au;refine jo (gd co ((co.kindOf go.inj ..).trans (hk ..)) (Rw iv.heap iv.ok.stays) z5.1 ⟨_,st,p,Rw e rfl,af.refl _ _,iv,?_⟩) (go.o4 x);refine z5.2.imp fun a o ω e=>⟨fun z=>?_,iv.ok.stays a o e⟩;exact Ns (iv.ok.low a z) e
theorem Kw(go:g.Ok fA)(co:c.Ok g ks n)(hk:look x ks=some .local)(hc:c.comp=true):SVal g c (.Name (g.nm x) pos) fun st=>match look x st.cmp with|some (.dat d)=>.ok (.dat d) st|_=>.bad:=by
 intro st p s iv hb;refine Bc fun au=>?_;obtain⟨m,hm,hx⟩:=iv.ns;have hn:c.names st=st.cmp:=by unfold Cx.names;refine Rw hc ?_;rfl
 rw[hn]at hx;generalize e:look x st.cmp=zV
 induction zV using Oc with
 |none=>simp only[e]at hb;exact absurd rfl hb
 |some lv=>
  induction lv with
  |dat d=>
   obtain⟨v,Cb⟩:=hx x _ e;exact au (jo (zN co.kind (by rw[co.kindOf go.inj,hk]) (Rw iv.heap ((iv.ok.led _ _ hm).2)) Cb.1 ⟨.dat d,st,p,by dsimp only;rw[e],af.refl _ _,iv,Cb.2⟩) (go.o4 x))
  |_=>simp only[e]at hb;exact absurd rfl hb
theorem rT{c:Cx}(go:g.Ok fA)(co:c.Ok g ks n)(hk:look x ks=some .cell)(hc:c.env.cells.lookup (g.nm x)=some a)(hv:s.heap.IsCell a (some v))(h:Q v s):wpAny g.M A (loadName c.env (g.nm x)) Q E s:=by
 haveI hk':=co.kindOf go.inj x
 exact wpAny_loadName_cell co.kind (hk'.trans hk) hc hv h
theorem Kx(go:g.Ok fA)(co:c.Ok g ks n)(hk:look x ks=some .cell):
  SVal g c (.Name (g.nm x) pos) fun st=>match look x st.aW with|some (.dat d)=>.ok (.dat d) st|some (.ref k)=>.ok (.ref k) st|_=>.bad:=by
 intro st p s iv hb;generalize e:look x st.aW=zV
 induction zV using Oc with
 |none=>simp only[e]at hb;exact absurd rfl hb
 |some lv=>
  refine Bc fun au=>?_;obtain⟨a,f1⟩:=co.cells x hk;obtain⟨v,z8⟩:=iv.aW x lv e a f1;apply au
  induction lv with
  |own xs=>simp only[e]at hb;exact absurd rfl hb
  |dat d=>exact jo (rT go co hk f1 (Rw iv.heap z8.2.1) ⟨.dat d,st,p,by dsimp only;refine Rw e ?_;rfl,af.refl _ _,iv,z8.2.2.1⟩) (go.o4 x)
  |ref k=>exact jo (rT go co hk f1 (Rw iv.heap z8.2.1) ⟨.ref k,st,p,by dsimp only;refine Rw e ?_;rfl,af.refl _ _,iv,z8.2.2.1⟩) (go.o4 x)
set_option tactic.hygienic true in
theorem b8(x)(v):∀l:List (Nat×α),look x (put x v l)=some v
 | []=>by simp[OV,B1,dh,cu]
 |(y,u)::r=>by
  rw[B1];split
  ·rename_i h;simp[dh,cu,h]
  ·rename_i h;simp only[dh,cu,aw h];exact b8 x v r
set_option tactic.hygienic true in
theorem cR(h:y≠x)(v):∀l:List (Nat×α),look y (put x v l)=look y l
 | []=>by simp[OV,B1,dh,cu,h]
 |(z,u)::r=>by
  refine Rw (B1 ..) ?_;split
  ·rename_i e;subst e;simp only[dh,cu,aw h]
  ·simp only[dh,cu];exact bz _ (cR h v r)
noncomputable def Snap.close(p:Snap)(a:Addr):Snap:={p with V:=fun b=>p.V b/\b≠a,led:=fun b=>if b=a then none else p.led b}
theorem bJ{p:Snap}(h:b≠a):(p.close a).led b=p.led b:=aw h
theorem GW{g:Gl}{c:Cx}{p:Snap}(ok:p.Ok g.base c.envs)(e:p.led a=some ⟨T,.lst vs⟩):(p.close a).Ok g.base c.envs where
 stays:=ok.stays
 low:=fun b v=>ok.low b v.1
 all:=fun b v=>ok.all b v.1
 led:=fun b cl z=>by
  have hb:b≠a:=fun q=>by subst q;exact Ns (show(p.close b).led b=none from if_pos rfl) z
  rw[bJ hb]at z;exact⟨⟨(ok.led b cl z).1,hb⟩,(ok.led b cl z).2⟩
 oZ:=fun b cl z k=>by
  haveI hb:b≠a:=fun q=>by subst q;exact Ns (show(p.close b).led b=none from if_pos rfl) z
  rw[bJ hb]at z;exact ok.oZ b cl z k
 de:=fun b hb=>⟨ok.de b hb,fun q=>ok.oZ a _ e rfl (q▸hb)⟩
 f9:=ok.f9
theorem eo(e:p.led a=some cl):af fs p (p.close a)where
 keep:=fun b o e ω ω=>e
 de:=fun b o e ω=>⟨o.slots,e⟩
 ext:=fun b o e=>⟨o,e⟩
 qC:=fun b v=>.inl v.1
 rO:=fun b c' z=>.inl fun q=>by
  exact Ns ((bJ (fun w=>by subst w;rw[show(p.close b).led b=none from if_pos rfl]at z;cases z)).trans q) z
 cls:=fun b v n=>⟨v,fun q=>by subst q;exact Ns n e⟩
 pre:=xh _
theorem uk{st:St}(iv:Inv g c st p s)(e:p.led a=some ⟨T,.lst vs⟩)(hT:T≠ .frame)(names)(objs)(hn:∀x lv,look x names=some lv->(look x (c.names st)=some lv/\T≠ .nH x)\/ ∃ds v m,lv= .dat (.list ds)/\p.led c.env.locals=some ⟨c.tag,.ns m⟩/\m (g.nm x)=some v/\v= .ref a/\ak g.w p.V p.h vs ds)(ho:objs.length=st.objs.length/\ ∀k o,objs[k]?=some o->o.live=true->gc g (p.close a) k o):
  Inv g c (if c.comp then{st with cmp:=names,objs:=objs}else{st with loc:=names,objs:=objs}) (p.close a) s:=by
 have mv:af (aK c.envs) p (p.close a):=eo e;obtain⟨m,hm,hx⟩:=iv.ns;refine⟨iv.heap,iv.gens,iv.os,GW iv.ok e,⟨Rw (bJ (fun q=>by rw[q,e]at hm;cases hm)) (Rw (iv.Zp hm) hm),fun x lv z=>?_⟩,?_,fun x lv z b f1=>?_,fun hc x b z=>?_,?_,?_⟩
 ·have z':=by
   cases hc:c.comp<;>simp only[Cx.names,hc,dZ,iw,eH]at z<;>exact z
  rcases hn x lv z' with⟨h1,h2⟩|⟨ds,v,m',h1,h2,h3,h4,h5⟩
  ·obtain⟨v,xQ⟩:=hx x lv h1
   haveI f1:=xQ.1
   haveI f2:=xQ.2
   refine⟨v,Rw (iv.Zp hm) f1,mv.lv iv.ok (fun b us w=>?_) f2⟩;rw[bJ];exact w;intro q;obtain rfl:=q.symm;rw[e]at w;cases w;exact h2 rfl
  ·rw[hm]at h2;cases h2;refine⟨v,Rw (iv.Zp hm) h3,?_⟩;subst h1 h4;exact aU.list (fun q=>q.2 rfl) (iv.ok.led a _ e).2 (mv.jd iv.ok h5)
 ·haveI:=iv.emp
  cases hc:c.comp<;>simp only[hc,dZ,iw,eH]at this⊢ <;>exact this
 ·obtain⟨v,Ky⟩:=iv.aW x lv (by cases hc:c.comp<;>simp only[hc,dZ,iw,eH]at z<;>exact z) b f1
  have hb:b≠a:=fun q=>by
   clear hn hm hx;subst q;obtain⟨k,w⟩:=(iv.ok.led b _ e).2;obtain⟨o,w1,w2⟩:=Ky.2.1;rw[w]at w1;cases w1;cases w2
  refine⟨v,⟨Ky.1,hb⟩,Ky.2.1,mv.lv iv.ok (fun d us w=>?_) Ky.2.2.1,fun hc=>Rw (bJ hb) (Ky.2.2.2.1 hc),fun hc=>Rw (bJ hb) (Ky.2.2.2.2 hc)⟩;rw[bJ];exact w;intro q;obtain rfl:=q.symm;rw[e]at w;cases w;exact hT rfl
 ·obtain⟨v,w⟩:=iv.jP hc x b z;exact⟨v,by rw[bJ];exact w;intro q;cases(q);rw[e]at w;cases w⟩
 ·cases hc:c.comp<;>simp only[hc,dZ,iw,eH]<;>rw[ho.1]<;>exact iv.len
 ·intro k o z w;refine ho.2 k o ?_ w;cases hc:c.comp<;>simp only[hc,dZ,iw,eH]at z<;>exact z
end
section
theorem xR:∀whole,isTrue (.Name x pos) env whole=(do let v<-whole;standAt (Expr.Name x pos).pos;holding [v] (truthy v)):=fun ω=>rfl
theorem Dy{st:St}(hc:c.comp=false)(iv:Inv g c st p s)(e:p.led a=some ⟨.nH x,.lst vs⟩)(hm:p.led c.env.locals=some ⟨c.tag,.ns m⟩)(hv:m (g.nm x)=some (.ref a))(hr:ak g.w p.V p.h vs ds):
  Inv g c {st with loc:=put x (.dat (.list ds)) st.loc} (p.close a) s:=by
 haveI mv:af (aK c.envs) p (p.close a):=eo e
 haveI:=uk iv e (fun z=>by injection z) (put x (.dat (.list ds)) st.loc) st.objs (fun y lv z=>?_) ⟨rfl,fun k o h1 h2=>?_⟩
 ·rw[hc,aw (by decide)]at this;exact this
 ·rcases iy (y=x)with h|h
  ·obtain rfl:=h.symm;obtain rfl:=dS ((b8 ..)▸z);exact .inr ⟨ds,_,m,rfl,hm,hv,rfl,hr⟩
  ·rw[cR h]at z;refine .inl ⟨by unfold Cx.names;refine Rw hc ?_;exact z,fun q=>by cases q;exact h rfl⟩
 ·obtain⟨x',d,C,m',f1,f2,f3,f4,f5,Ql,f6⟩:=iv.objs k o h1 h2;refine⟨x',d,C,m',f1,f2,f3,fun z=>f4 z.1,Rw (bJ (fun q=>by rw[q,e]at f5;cases f5)) f5,Ql,fun f lv z=>?_⟩;obtain⟨h1,v,Dr⟩:=f6 f lv z;refine⟨h1,v,Dr.1,mv.lv iv.ok (fun b us w=>?_) Dr.2⟩;rw[bJ];exact w;intro q;obtain rfl:=q.symm;rw[e]at w;cases w
theorem Kz(go:g.Ok fA)(co:c.Ok g ks n)(hk:look x ks=some .local)(hc:c.comp=false):aA g c (.Name (g.nm x) pos) (rA x):=by
 have hn:∀st,c.names st=st.loc:=fun st=>by unfold Cx.names;refine Rw hc ?_;rfl
 have main:SVal g c (.Name (g.nm x) pos) (rA x).val:=by
  intro st p s iv hb;obtain⟨m,hm,hx⟩:=iv.ns;rw[hn]at hx;have EO:s.heap.Ns c.env.locals m:=Rw iv.heap ((iv.ok.led _ _ hm).2);unfold rA at hb⊢;dsimp only[bc]at hb⊢
  cases e:look x st.loc with
  |none=>exact absurd rfl (e▸hb)
  |some lv=>
   obtain⟨v,e1,e2⟩:=hx x _ e;refine jo (zN co.kind ((co.kindOf go.inj ..).trans (hk ..)) EO e1 ?_) (go.o4 x)
   induction lv with
   |dat d=>exact⟨.dat d,st,p,rfl,af.refl _ _,iv,e2⟩
   |ref k=>exact⟨.ref k,st,p,rfl,af.refl _ _,iv,e2⟩
   |own xs=>
    obtain⟨a,vs,rfl,f1,f2⟩:=e2;exact⟨.dat (.list xs),_,p.close a,rfl,(eo f1),Dy hc iv f1 hm e1 f2,aU.list (fun z=>z.2 rfl) (iv.ok.led _ _ f1).2 ((eo f1).jd iv.ok f2)⟩
 have base:=aA.bc co.handled main xR;refine⟨base.val,base.gw,?_,base.it⟩;intro st p s iv hb;obtain⟨m,O8⟩:=iv.ns
 haveI hm:=O8.1
 haveI hx:=O8.2
 rw[hn]at hx;have EO:s.heap.Ns c.env.locals m:=Rw iv.heap ((iv.ok.led _ _ hm).2);unfold rA at hb⊢;dsimp only[bc]at hb⊢
 cases e:look x st.loc with
 |none=>exact absurd rfl (e▸hb)
 |some lv=>
  obtain⟨v,e1,e2⟩:=hx x _ e;rw[e]at hb
  induction lv with
  |ref k=>exact(hb rfl).elim
  |dat d=>exact jo (zN co.kind ((co.kindOf go.inj ..).trans (hk ..)) EO e1 ⟨_,st,p,rfl,af.refl _ _,iv,.inl e2⟩) (go.o4 x)
  |own xs=>
   refine Bc fun au=>?_;obtain⟨a,vs,rfl,GX⟩:=e2;exact au (jo (zN co.kind (by rw[co.kindOf go.inj,hk]) EO e1 ⟨_,st,p,rfl,af.refl _ _,iv,.inr ⟨a,_,vs,xs,rfl,rfl,GX.1,GX.2⟩⟩) (go.o4 x))
end
noncomputable def gy:ME->Bool
 |.loc ..=>true
 |.attr ..=>true
 |.new _ l _ _=>!l.isEmpty
 |.pU _ l _ _=>!l.isEmpty
 |_=>false
theorem qT(h:gy o=true):attributeBase (aB nm o) attr env whole=whole:=by
 induction o using ME.casesOn with
 |loc=>rfl
 |attr=>rfl
 |new c l=>induction l using Lc with
  |nil=>exact absurd h cO
  |cons=>rfl
 |pU c l=>induction l using Lc with
  |nil=>exact absurd h cO
  |cons=>rfl
 |_=>exact absurd h cO
theorem GY{h:Heap}(x:h.Ns1 d m):∃od,h.get? d=some od/\ ∀name,lookIn name od=some (m name):=by
 refine Bc fun au=>?_;obtain⟨o,es,ep,z2⟩:=x;refine au ?_;refine⟨o,z2.1,fun name=>?_⟩;refine Rl (z2.2.2.2.2 name) ?_
 delta lookIn nsFind findBy
 dsimp only;rw[z2.2.1];dsimp only;refine Rl (NH) ?_;generalize z:es.toList.find? (·.key.isStr name)=zV
 induction zV using Oc with
 |some e=>rfl
 |none=>
  have hany:es.toList.any (·.refKey)=false:=by
   rw[Fw];intro e he;obtain⟨n,t,h⟩:=z2.2.2.1 e (tP.mp he);simp[DictEntry.refKey,h]
  exact Rw hany rfl
section
theorem Dz(x:bw g p tag v lv):handedIn v=true:=by
 induction lv with
 |dat d=>cases x<;>rfl
 |ref k=>obtain⟨_,_,rfl⟩:=x;rfl
 |own xs=>obtain⟨_,_,rfl,_⟩:=x;rfl
theorem Inv.O7{st:St}(go:g.Ok fA)(iv:Inv g c st p s):g.K.In s.heap:=Rw iv.heap (go.O7.keeps iv.ok.stays)
theorem Inv.inst{st:St}(iv:Inv g c st p s)(ho:st.objs[k]?=some o)(hl:o.live=true):∃x d C m od,p.W[k]?=some (x,d)/\g.cA o.cls=some C/\InstAt s.heap x (instObj C d) C (some od)/\p.led d=some ⟨.dict k,.sX m⟩/\
  s.heap.get? d=some od/\(∀name,lookIn name od=some (m name))/\(∀y,m y≠none->∃f,y=g.nm f/\g.P.ju o.cls f=true)/\ ∀f lv,look f o.gW=some lv->g.P.ju o.cls f=true/\ ∃v,m (g.nm f)=some v/\bw g p (.kE k f) v lv:=by
 refine Bc fun au=>?_;obtain⟨x,d,C,m,f1,f2,f3,f4,f5,f6,f7⟩:=iv.objs k o ho hl;obtain⟨od,e1,e2⟩:=GY (iv.ok.led d _ f5).2;apply au;rw[<-iv.heap]at f3 e1;exact⟨x,d,C,m,od,f1,f2,⟨f3,rfl,rfl,e1⟩,f5,e1,e2,f6,f7⟩
theorem qU{st:St}(go:g.Ok fA)(iv:Inv g c st p s)(hf:fld st.objs k f=some lv):∃xd v,p.W[k]?=some xd/\bw g p (.kE k f) v lv/\
  (∀x d C m o,st.objs[k]?=some o->p.W[k]?=some (x,d)->g.cA o.cls=some C->p.led d=some ⟨.dict k,.sX m⟩->m (g.nm f)=some v/\g.P.ju o.cls f=true)/\
  ∀(A:Around) (Q:Value->Shared->Prop) (E:Value->Shared->Prop),Q v {s with toks:=s.toks+1}->wpAny g.M A (getAttr (.ref xd.1) (g.nm f) true) Q E s:=by
 delta fld at hf
 generalize ho:st.objs[k]?=zV
 induction zV using Oc with
 |none=>rw[ho]at hf;cases hf
 |some o=>
  refine Bc fun au=>?_;replace hf:=ho▸hf;dsimp only at hf;generalize hl:o.live=zV
  induction zV using Tc with
  |false=>rw[hl]at hf;cases hf
  |true=>
   rw[hl,if_pos rfl]at hf;obtain⟨x,d,C,m,od,f1,KA⟩:=iv.inst ho hl;obtain⟨h1,v,h2,h3⟩:=KA.2.2.2.2.2.2 f lv hf
   haveI vH:=(go.cls _ _ KA.1)
   haveI a2:=vH.2.1
   haveI a6:=vH.2.2.2.2.2.1
   refine au ?_;refine⟨_,v,f1,h3,fun x' d' C' m' o' z1 z2 z3 z4=>?_,fun A Q E hQ=>?_⟩
   ·refine Bc fun au=>?_;cases z1;rw[f1]at z2;cases z2;rw[KA.2.2.1]at z4;cases z4;exact au ⟨h2,h1⟩
   exact get_value (iv.O7 go) KA.2.1 a2 (findObj_own a6 (go.fld _ _ _ h1 KA.1) rfl (Rw (KA.2.2.2.2.1 ..) (Rw (h2 ..) rfl))) (Dz h3) hQ
theorem vI{α:Type}{l:List α}{a b:α}(h:(l.set k a)[j]?=some b):(j=k/\b=a/\k<l.length)\/(j≠k/\l[j]?=some b):=by
 rw[xg]at h;by_cases e:k=j
 ·subst e;rw[if_pos rfl]at h;split at h
  ·exact Rw (dS h) (.inl ⟨rfl,rfl,by assumption⟩)
  ·cases h
 ·rw[aw e]at h;exact .inr ⟨fun z=>e z.symm,h⟩
theorem DA{st:St}(iv:Inv g c st p s)(e:p.led a=some ⟨.kE k f,.lst vs⟩)(hr:ak g.w p.V p.h vs ds)(hs:di st.objs k f (.dat (.list ds))=some objs)(hv:∀x d C m o,st.objs[k]?=some o->p.W[k]?=some (x,d)->g.cA o.cls=some C->p.led d=some ⟨.dict k,.sX m⟩->m (g.nm f)=some (.ref a)/\g.P.ju o.cls f=true):Inv g c {st with objs:=objs} (p.close a) s:=by
 have mv:af (aK c.envs) p (p.close a):=eo e
 delta di at hs
 generalize ho:st.objs[k]?=zV
 induction zV using Oc with
 |none=>rw[ho]at hs;cases hs
 |some o=>
  rw[ho]at hs;dsimp only at hs;generalize hl:o.live=zV
  induction zV using Tc with
  |false=>rw[hl]at hs;cases hs
  |true=>
   rw[hl,if_pos rfl]at hs;cases hs
   haveI:=uk iv e (fun z=>by injection z) (c.names st) (st.objs.set k {o with gW:=put f (.dat (.list ds)) o.gW,live:=true}) (fun y lv z=>.inl ⟨z,(fun z=>by injection z)⟩) ⟨km,fun j o' h1 h2=>?_⟩
   ·haveI e1:(if c.comp then({st with cmp:=c.names st,objs:=st.objs.set k {o with gW:=put f (.dat (.list ds)) o.gW,live:=true}}:St)else{st with loc:=c.names st,objs:=st.objs.set k {o with gW:=put f (.dat (.list ds)) o.gW,live:=true}})={st with objs:=st.objs.set k {o with gW:=put f (.dat (.list ds)) o.gW,live:=true}}:=by
     unfold Cx.names;generalize c.comp=zV;induction zV using Tc<;>rfl
    exact e1▸this
   ·rcases vI h1 with⟨rfl,rfl,-⟩|⟨hj,h1⟩
    ·obtain⟨x',d,C,m',f1,f2,f3,f4,f5,Ql,f6⟩:=iv.objs j o ho hl;have hd:d≠a:=fun q=>by rw[q,e]at f5;cases f5
     refine⟨x',d,C,m',f1,f2,f3,fun z=>f4 z.1,Rw (bJ hd) f5,Ql,fun f' lv z=>?_⟩;by_cases hf:f'=f
     ·obtain rfl:=hf.symm;rw[b8]at z;cases z;obtain⟨w1,w2⟩:=hv _ _ _ _ o ho f1 f2 f5;exact⟨w2,_,w1,aU.list (fun z=>z.2 rfl) (iv.ok.led a _ e).2 (mv.jd iv.ok hr)⟩
     ·rw[cR hf]at z;obtain⟨h1,v,h2,h3⟩:=f6 f' lv z;refine⟨h1,v,h2,mv.lv iv.ok (fun b us w=>?_) h3⟩;rw[bJ];exact w;intro q;obtain rfl:=q.symm;rw[e]at w;cases w;exact hf rfl
    ·obtain⟨x',d,C,m',f1,f2,f3,f4,f5,Ql,f6⟩:=iv.objs j o' h1 h2;refine⟨x',d,C,m',f1,f2,f3,fun z=>f4 z.1,Rw (bJ (fun q=>by rw[q,e]at f5;cases f5)) f5,Ql,fun f lv z=>?_⟩;obtain⟨h1,v,UN⟩:=f6 f lv z;refine⟨h1,v,UN.1,mv.lv iv.ok (fun b us w=>?_) UN.2⟩;rw[bJ];exact w;intro q;obtain rfl:=q.symm;rw[e]at w;cases w;exact hj rfl
theorem lF(h:gy o=true):eval (.Attribute (aB nm o) x pos) env=(do
   let o'<-eval (aB nm o) env
   standAt pos.atName
   let r<-holding [o'] (getAttr o' x true)
   letTemporaryGo (aB nm o) o' r
   pure r):=by
 refine Rl (qT (nm:=nm) (o:=o) (attr:=x) (env:=env) (whole:=eval (aB nm o) env) h) ?_
 with_unfolding_all rfl
theorem xS:∀whole,isTrue (.Attribute o x pos) env whole=(do let v<-whole;standAt (Expr.Attribute o x pos).pos;holding [v] (truthy v)):=fun ω=>rfl
theorem GZ(go:g.Ok fA)(co:c.Ok g ks n)(hb:gy o=true)(ho:aA g c (aB g.nm o) v):aA g c (.Attribute (aB g.nm o) (g.nm x) pos) (mG v x):=by
 have main:SVal g c (.Attribute (aB g.nm o) (g.nm x) pos) (mG v x).val:=by
  intro st p s iv eT;unfold mG at eT⊢;dsimp only[bc]at eT⊢;refine BK (step (ho.val st p s iv (ah eT)) iv.ok (af.refl _ _) (fun x aE e=>ar e) fun r st1 q1 s1 vo e1 m1 ω i1 r1=>?_) (lF hb);refine Bc fun au=>?_
  haveI hb1:=fun z=>eT ((aa e1).trans z)
  cases r with
  |dat d=>exact hb1 rfl
  |ref k=>
   obtain⟨xd,w1,rfl⟩:=r1;dsimp only at hb1;generalize hf:fld st1.objs k x=zV
   induction zV using Oc with
   |none=>exact absurd rfl (hf▸hb1)
   |some lv=>
    obtain⟨Xw,u,f1,f2,f3,f4⟩:=qU go i1 hf;rw[w1]at f1;cases f1;refine au ?_;refine f4 _ _ _ ?_;refine Bc fun au=>?_;obtain⟨i2,m2⟩:=i1.grow (bF s1 (s1.toks+1))
    haveI KB:=m1.trans iv.ok m2
    induction lv with
    |dat d=>exact au ⟨.dat d,st1,_,(aa e1).trans (by dsimp only;rw[hf]),KB,i2,m2.lv i1.ok (fun ω ω e=>e) f2⟩
    |ref j=>exact au ⟨.ref j,st1,_,(aa e1).trans (by dsimp only;rw[hf]),KB,i2,m2.lv i1.ok (fun ω ω e=>e) f2⟩
    |own xs=>
     rw[hf]at hb1;dsimp only at hb1;generalize hs:di st1.objs k x (.dat (.list xs))=zV
     induction zV using Oc with
     |none=>exact absurd rfl (hs▸hb1)
     |some os=>
      obtain⟨a,vs,rfl,h1,h2⟩:=f2
      haveI mc:af (aK c.envs) _ ((q1.grow s1.heap).close a):=eo (p:=q1.grow s1.heap) h1
      refine au ?_;refine⟨.dat (.list xs),{st1 with objs:=os},_,(aa e1).trans (by dsimp only;rw[hf];dsimp only;rw[hs]),KB.trans iv.ok mc,DA i2 h1 (m2.jd i1.ok h2) hs f3,?_⟩;exact aU.list (fun z=>z.2 rfl) (i2.ok.led a _ h1).2 (mc.jd i2.ok (m2.jd i1.ok h2))
 have base:=aA.bc co.handled main xS;refine⟨base.val,base.gw,?_,?_⟩
 ·intro st p s iv eT;unfold mG at eT⊢;dsimp only[bc]at eT⊢;refine BK (step (ho.val st p s iv (ah eT)) iv.ok (af.refl _ _) (fun x aE e=>ar e) fun r st1 q1 s1 vo e1 m1 ω i1 r1=>?_) (lF hb);have hb1:=fun z=>eT ((aa e1).trans z)
  cases r with
  |dat d=>exact(hb1 rfl).elim
  |ref k=>
   obtain⟨xd,w1,rfl⟩:=r1;dsimp only at hb1
   cases hf:fld st1.objs k x with
   |none=>exact absurd rfl (hf▸hb1)
   |some lv=>
    obtain⟨Xw,u,f1,f2,f3,f4⟩:=qU go i1 hf;rw[w1]at f1;cases f1;refine f4 _ _ _ ?_;obtain⟨i2,m2⟩:=i1.grow (bF s1 (s1.toks+1));have KB:=m1.trans iv.ok m2
    cases lv with
    |dat d=>exact⟨d,st1,_,(aa e1).trans (by dsimp only;rw[hf]),KB,i2,.inl (m2.rep i1.ok f2)⟩
    |ref j=>rw[hf]at hb1;exact absurd rfl hb1
    |own xs=>
     refine Bc fun au=>?_;obtain⟨a,vs,rfl,h1,h2⟩:=f2;exact au ⟨.list xs,st1,_,(aa e1).trans (by dsimp only;rw[hf]),KB,i2,.inr ⟨a,_,vs,xs,rfl,rfl,h1,m2.jd i1.ok h2⟩⟩
 ·intro st p s iv eT;unfold mG at eT⊢;dsimp only[bc]at eT⊢;refine BK (step (ho.val st p s iv (ah eT)) iv.ok (af.refl _ _) (fun x aE e=>ar e) fun r st1 q1 s1 vo e1 m1 ω i1 r1=>?_) (lF hb);have hb1:=fun z=>eT ((aa e1).trans z)
  cases r with
  |dat d=>exact(hb1 rfl).elim
  |ref k=>
   obtain⟨xd,w1,rfl⟩:=r1;dsimp only at hb1
   cases hf:fld st1.objs k x with
   |none=>exact absurd rfl (hf▸hb1)
   |some lv=>
    obtain⟨Xw,u,f1,f2,f3,f4⟩:=qU go i1 hf;rw[w1]at f1;cases f1;refine f4 _ _ _ ?_;obtain⟨i2,m2⟩:=i1.grow (bF s1 (s1.toks+1));have KB:=m1.trans iv.ok m2;rw[hf]at hb1
    cases lv with
    |ref j=>exact(hb1 rfl).elim
    |dat d=>
     refine Bc fun au=>?_;obtain⟨y,ey⟩:=b7 hb1;obtain⟨ds,ed,rfl⟩:=iu.mp ey;refine au ?_;refine bA (o5 (E:=fun ω ω=>False) co.handled i2 (m2.rep i1.ok f2) ed rfl) (fun it s2 z=>zU.lift iv.ok KB ?_ z) fun ω ω z=>z.elim;exact((aa e1).trans (by dsimp only;rw[hf];dsimp only;rw[ey];rfl)).symm
    |own xs=>
     obtain⟨a,vs,rfl,Zr⟩:=f2;refine bA (uj (E:=fun ω ω=>False) (vs:=vs.toArray) (hide:=true) co.handled i2 [a] (.inr (.head _)) (fun b hb=>?_) (i2.ok.led a _ Zr.1).2 (m2.jd i1.ok Zr.2) rfl) (fun it s2 z=>zU.lift iv.ok KB ?_ z) fun ω ω z=>z.elim
     ·rw[dp]at hb;exact Rw hb ⟨rfl,k,x,vs,Zr.1⟩
     ·exact((aa e1).trans (by dsimp only;rw[hf])).symm
end
theorem h7(i)(o v):subscripted (aB nm i) false o v=operate [o,v] (getItem o v):=by induction i using ME.casesOn<;>rfl
section
def nN(ks:List (Nat×NameKind))(comp:Bool):ME->Bool
 |.loc x _=>!comp&&decide (look x ks=some .local)
 |.aW x _=>decide (look x ks=some .cell)
 |.cmp x _=>comp&&decide (look x ks=some .local)
 |.oM x _=>decide (look x ks=some .globalImplicit)
 |_=>true
inductive um:ME->Prop
 |i9(n k p):um (.i9 n k p)
 |loc(x p):um (.loc x p)
 |aW(x p):um (.aW x p)
 |cmp(x p):um (.cmp x p)
 |neg(n k p q):um (.neg (.i9 n k p) q)
inductive CiV:ME->Prop
 |mk(n k p):CiV (.i9 n k p)
theorem G0(h:UD e=true):CiV e:=by
 cases e with
 |i9 n k p=>exact .mk n k p
 |_=>exact absurd h cO
theorem zZ(h:cC i=true):um i:=by
 induction i using ME.casesOn with
 |i9 n k p=>exact .i9 n k p
 |loc x p=>exact .loc x p
 |aW x p=>exact .aW x p
 |cmp x p=>exact .cmp x p
 |neg e q=>cases G0 h;exact .neg ..
 |_=>exact absurd h cO
def KC(st:St)(i:ME):Res D->Prop
 |.ok d aE=>(∃xs,d= .list xs)\/(aE=st/\((∃n k p,i= .i9 n k p/\d= .int n)\/(∃x p,i= .loc x p/\look x st.loc=some (.dat d))\/(∃x p,i= .aW x p/\look x st.aW=some (.dat d))\/(∃x p,i= .cmp x p/\look x st.cmp=some (.dat d))\/ ∃n k p q,i= .neg (.i9 n k p) q/\d= .int (-n)))
 |.exc _ _=>False
 |.bad=>True
theorem o6{call:Call}(h:cC i=true)(st):KC st i ((ev P call i).dat st):=by
 rcases zZ h with⟨n,k,p⟩|⟨x,p⟩|⟨x,p⟩|⟨x,p⟩|⟨n,k,p,q⟩
 ·exact .inr ⟨rfl,.inl ⟨_,_,_,rfl,rfl⟩⟩
 ·show KC st _ ((match look x st.loc with|some (.dat d)=>Res.ok (RV.dat d) st|some (.ref k)=>.ok (.ref k) st|some (.own xs)=>.ok (.dat (.list xs)) {st with loc:=put x (.dat (.list xs)) st.loc}|none=>.bad).bind _);generalize hl:look x st.loc=zV
  induction zV using Oc with
  |none=>trivial
  |some lv=>induction lv with
   |dat d=>exact .inr ⟨rfl,.inr (.inl ⟨x,p,rfl,hl⟩)⟩
   |ref k=>trivial
   |own xs=>exact .inl ⟨_,rfl⟩
 ·show KC st _ ((match look x st.aW with|some (.dat d)=>Res.ok (RV.dat d) st|some (.ref k)=>.ok (.ref k) st|_=>.bad).bind _);generalize hl:look x st.aW=zV
  induction zV using Oc with
  |none=>trivial
  |some lv=>cases lv with
   |dat d=>exact .inr ⟨rfl,.inr (.inr (.inl ⟨x,p,rfl,hl⟩))⟩
   |ref k=>trivial
   |own xs=>trivial
 ·show KC st _ ((match look x st.cmp with|some (.dat d)=>Res.ok (RV.dat d) st|_=>.bad).bind _);generalize hl:look x st.cmp=zV
  induction zV using Oc with
  |none=>trivial
  |some lv=>cases lv with
   |dat d=>exact .inr ⟨rfl,.inr (.inr (.inr (.inl ⟨x,p,rfl,hl⟩)))⟩
   |ref k=>trivial
   |own xs=>trivial
 ·exact .inr ⟨rfl,.inr (.inr (.inr (.inr ⟨_,_,_,_,rfl,rfl⟩)))⟩
theorem nO{call:Call}(h:cC i=true){st:St}(e:(ev P call i).dat st= .exc x aE):False:=by
 haveI:=o6 (call:=call) (P:=P) h st
 rw[e]at this;exact this
theorem uo{call:Call}(h:cC i=true){st:St}(e:(ev P call i).dat st= .ok d aE)(hd:∀xs,d≠ .list xs):aE=st:=by
 haveI:=o6 (call:=call) (P:=P) h st
 rw[e]at this;rcases this with⟨xs,z⟩|z
 ·exact((hd xs) z).elim
 ·exact z.1
theorem uq{st:St}(go:g.Ok fA)(co:c.Ok g ks n)(iv:Inv g c st p s)(hk:look x ks=some .local)(e:look x (c.names st)=some (.dat d))(h:∀v,aU g.w p.V p.h v d->Q v s):
  wpAny g.M c.A (eval (.Name (g.nm x) pos) c.env) Q E s:=by
 refine Bc fun au=>?_;obtain⟨m,hm,hx⟩:=iv.ns;obtain⟨v,z4⟩:=hx x _ e;apply au;exact jo (zN co.kind ((co.kindOf go.inj ..).trans (hk ..)) (Rw iv.heap ((iv.ok.led _ _ hm).2)) z4.1 (h v z4.2)) (go.o4 x)
theorem ur{st:St}{call:Call}(go:g.Ok fA)(co:c.Ok g ks n)(hs:cC i=true)(hk:nN ks c.comp i=true)(iv:Inv g c st p s)(e:(ev P call i).dat st= .ok d aE)(hd:∀xs,d≠ .list xs)(h:∀v s',Keeps s s'->aU g.w p.V p.h v d->Q v s'):wpAny g.M c.A (eval (aB g.nm i) c.env) Q E s:=by
 haveI:=o6 (call:=call) (P:=P) hs st
 rw[e]at this;clear hs;rcases this with⟨xs,z⟩|⟨-,⟨n,k,p,rfl,rfl⟩|⟨x,p,rfl,hl⟩|⟨x,p,rfl,hl⟩|⟨x,p,rfl,hl⟩|⟨n,k,p,q,rfl,rfl⟩⟩
 ·exact((hd xs) z).elim
 ·exact Bv (h _ _ (bF _ _) (aU.int _ _))
 ·haveI hk:=fW.mp hk
  simp only[rp,iZ]at hk;exact uq go co iv hk.2 (by unfold Cx.names;refine Rw hk.1 ?_;exact hl) fun v r=>h v s (cw _) r
 ·have hk:=bR hk;obtain⟨a,f1⟩:=co.cells x hk
  letI v:=Ce (iv.aW x _ hl a f1)
  haveI UO:=(Cs (iv.aW x _ hl a f1))
  haveI f3:=UO.2.1
  haveI f4:=UO.2.2.1
  exact jo (rT go co hk f1 (Rw iv.heap f3) (h v s (cw _) f4)) (go.o4 x)
 ·haveI hk:=fW.mp hk
  rw[iZ]at hk;exact uq go co iv hk.2 (by unfold Cx.names;refine Rw hk.1 ?_;exact hl) fun v r=>h v s (cw _) r
 ·exact OP (Bv (M6 (h _ _ (⟨_,_,rfl,fun ω ω e=>e⟩) (aU.int _ _))))
theorem Cd(e:Gd xs i=some r):(0<=i/\i<2^62/\xs[i.toNat]?=some r)\/(¬0<=i/\(-(xs.length:Int)<=i/\ -(2^62)<i)/\xs[(i+xs.length).toNat]?=some r):=by
 unfold Gd at e;by_cases h:0<=i
 ·rw[if_pos h]at e;exact .inl ⟨h,bq e⟩
 ·rw[aw h]at e;exact .inr ⟨h,bq e⟩
section
theorem item_list(hl:s.heap.IsList a vs)(hr:ak w V s.heap vs.toList ds)(e:Gd ds z=some r)(h:∀v,aU w V s.heap v r->Q v s):wpAny (model prog w) A (getItem (.ref a) (.int z t)) Q E s:=by
 haveI hz:vs.size=ds.length:=Rl hr.length (Rw gT rfl)
 rcases Cd e with⟨h1,h2,e⟩|⟨h1,h2,e⟩
 ·refine Bc fun au=>?_;obtain⟨v,z4⟩:=hr.get e;apply au;exact wpAny_getItem_list hl h1 (vf h2 (by decide)) (Rl (tf) z4.1) (h v z4.2)
 ·obtain⟨v,z7⟩:=hr.get e;exact wpAny_getItem_list_neg hl (pT.mp h1) (Rw hz h2.1) (ma (by decide) h2.2) (by refine Rl (tf) (Rw hz ?_);exact z7.1) (h v z7.2)
theorem item_tuple(ht:IsTup s.heap a vs)(hr:ak w V s.heap vs.toList ds)(e:Gd ds z=some r)(h:∀v,aU w V s.heap v r->Q v s):wpAny (model prog w) A (getItem (.ref a) (.int z t)) Q E s:=by
 have hz:vs.size=ds.length:=Rl hr.length (Rw gT rfl);rcases Cd e with⟨h1,h2,e⟩|⟨h1,h2,e⟩
 ·refine Bc fun au=>?_;obtain⟨v,e1,e2⟩:=hr.get e;apply au
  haveI oI:=(wZ.mp e).1
  refine OS ht (ma (by decide) h1) (vf h2 (by decide)) (j:=z.toNat) ?_ (Rl (tf) e1) (h v e2);have Zs:¬z<0:=dX.mpr h1;simp only[seqIndex?,Zs,eH,dg,iZ];exact(if_pos (⟨h1,hz▸(OA h1).mp oI⟩))
 ·refine Bc fun au=>?_;obtain⟨v,e1,e2⟩:=hr.get e;apply au;refine OS ht (mf (pS (by decide) h2.2)) (pS (pT.mp h1) (by decide)) (j:=(z+ds.length).toNat) ?_ (Rl (tf) e1) (h v e2);have Zs:z<0:=pT.mp h1;simp only[seqIndex?,Zs,dZ,dg,iZ,hz];exact(if_pos (⟨ma (FX (Int.add_left_neg _).symm) (NF h2.1 _),vf (Int.add_lt_add_right (pT.mp h1) _) (FX (BP _))⟩))
theorem vJ(e:bZ (.list ds) k=some r):∃z,k= .int z/\Gd ds z=some r:=by
 induction k using PyData.casesOn<;>first|exact⟨_,rfl,e⟩|cases e
theorem xT(e:bZ (.tuple ds) k=some r):∃z,k= .int z/\Gd ds z=some r:=by
 induction k using PyData.casesOn<;>first|exact⟨_,rfl,e⟩|cases e
theorem uu(hl:s.heap.PlainList a vs)(hr:ak w V s.heap vs.toList ds)(hi:aU w V s.heap vi k)(e:bZ (.list ds) k=some r)(h:∀v,aU w V s.heap v r->Q v s):wpAny (model prog w) A (subscriptTail value (aB nm i) (.ref a) vi) Q E s:=by
 obtain⟨z,rfl,e⟩:=vJ e;obtain⟨t,rfl⟩:=hi.int_inv;exact xn hl.isList.typeIs slot_list_getitem.lookup (item_list hl.isList hr e h) (h7 i _ _)
theorem KD(ho:aU w V s.heap vo d)(hi:aU w V s.heap vi k)(e:bZ d k=some r)(h:∀v s',Keeps s s'->aU w V s.heap v r->Q v s'):wpAny (model prog w) A (subscriptTail value (aB nm i) vo vi) Q E s:=by
 induction d using PyData.casesOn with
 |list ds=>
  refine Bc fun au=>?_;obtain⟨a,vs,rfl,-,pl,hr⟩:=ho.cD;exact au (uu pl hr hi e fun v r=>h v s (cw _) r)
 |tuple ds=>
  refine Bc fun au=>?_;obtain⟨a,vs,rfl,-,pt,hr⟩:=ho.dF;obtain⟨z,rfl,e⟩:=xT e;obtain⟨t,rfl⟩:=hi.int_inv;exact au (xn pt.isTup.typeIs Bw.lookup (item_tuple pt.isTup hr e fun v r=>h v s (cw _) r) (h7 i _ _))
 |dict kvs=>
  refine Bc fun au=>?_;obtain⟨a,es,rfl,-,-,⟨o,n,e1,e2,e3⟩,-⟩:=ho.nG;apply au;refine xn (T:="dict") ⟨o,e1,e2.1⟩ slot_dict_getitem.lookup ?_ (h7 i _ _)
  haveI e':fw k kvs=some (some r):=by
   haveI e:(fw k kvs).join=some r:=e
   generalize z:fw k kvs=zV
   induction zV using Oc with
   |none=>rw[z]at e;cases e
   |some y=>rw[z]at e;exact bz some e
  exact GD hi ho e' fun v hv=>h v _ (bF _ _) hv
 |_=>exact Ns rfl e
end
theorem G1{st:St}(iv:Inv g c st q s)(ho:GO g q vo d)(hi:aU g.w q.V q.h vi k)(e:bZ d k=some r)(h:∀v s',Keeps s s'->aU g.w q.V q.h v r->Q v s'):wpAny g.M A (subscriptTail value (aB nm i) vo vi) Q E s:=by
 rw[<-iv.heap]at hi h;refine Bc fun au=>?_;rcases ho with ho|⟨a,tag,vs,ds,rfl,rfl,h1,h2⟩
 ·apply au;exact KD (iv.heap.symm▸ho) hi e h
 ·apply au;have pl:=(iv.ok.led a _ h1).2;rw[<-iv.heap]at pl h2;exact uu pl h2 hi e fun v r=>h v s (cw _) r
set_option tactic.hygienic true in
theorem tE(d)(xs):bZ d (.list xs)=none:=by
 induction d using PyData.casesOn<;>try rfl
 rename_i kvs
 induction kvs using Lc with
 |nil=>rfl
 |cons a r=>obtain⟨k,v⟩:=a;induction k using PyData.casesOn<;>rfl
theorem KG{call:Call}(go:g.Ok fA)(co:c.Ok g ks n)(hk:nN ks c.comp i=true)(ho:aA g c (aB g.nm o) (ev P call o))(hi:aA g c (aB g.nm i) (ev P call i)):
  gG g c (.Subscript (aB g.nm o) (aB g.nm i) pos) fun st=>if cC i then((ev P call o).pk st).bind fun d st=>((ev P call i).dat st).bind fun k st=>opt (bZ d k) st
   else((ev P call o).dat st).bind fun d st=>((ev P call i).dat st).bind fun k st=>opt (bZ d k) st:=by
 intro st p s iv hb;generalize G2:cC i=zV
 induction zV using Tc with
 |true=>
  simp only[G2,dZ]at hb⊢;refine F8 (step (ho.pk st p s iv (ah hb)) iv.ok (af.refl _ _) (fun x aE e=>ar e) fun d st1 q1 s1 vo e1 m1 ω i1 r1=>?_);refine Bc fun au=>?_;have hb1:=fun z=>hb ((aa e1).trans z);generalize e2:(ev P call i).dat st1=zV
  induction zV using Res.casesOn with
  |bad=>exact au (absurd (by rw[e2];rfl) hb1)
  |exc x st2=>exact(nO G2 e2).elim
  |ok k st2=>
   have iM:=fun z=>hb1 ((aa e2).trans z);obtain⟨r,er⟩:=b7 iM;have hd:∀xs,k≠ .list xs:=fun xs z=>Ns (tE ..) (z▸er);obtain rfl:=uo G2 e2 hd;refine au ?_;refine ur go co G2 hk i1 e2 hd fun vi s2 k2 r2=>?_;have i2:=(i1.grow k2).1;have m2:=(i1.grow k2).2
   have r1':GO g (q1.grow s2.heap) vo d:=by
    rcases r1 with r1|⟨a,tag,vs,ds,h1,h2,h3,h4⟩
    ·exact .inl (m2.rep i1.ok r1)
    ·exact .inr ⟨a,tag,vs,ds,h1,h2,h3,m2.jd i1.ok h4⟩
   refine G1 i2 r1' (m2.rep i1.ok r2) er fun v s3 k3 r3=>?_;obtain⟨i3,m3⟩:=i2.grow k3;exact⟨r,st2,_,(aa e1).trans ((aa e2).trans (Rw er rfl)),(m1.trans iv.ok m2).trans iv.ok m3,i3,m3.rep i2.ok r3⟩
 |false=>
  simp only[G2,iw,eH]at hb⊢;refine F8 (step (ho.val.dat st p s iv (ah hb)) iv.ok (af.refl _ _) (fun x aE e=>ar e) fun d st1 q1 s1 vo e1 m1 ω i1 r1=>?_);have hb1:=fun z=>hb ((aa e1).trans z);refine step (hi.val.dat st1 q1 s1 i1 (ah hb1)) iv.ok m1 (fun x aE e=>(aa e1).trans (ar e)) fun k st2 q2 s2 vi e2 m2 qQ i2 r2=>?_;refine Bc fun au=>?_;obtain⟨r,er⟩:=b7 (fun z=>hb1 ((aa e2).trans z));apply au;exact G1 i2 (.inl (qQ.rep i1.ok r1)) r2 er fun v s3 k3 r3=>⟨r,st2,_,(aa e1).trans ((aa e2).trans (by rw[er];rfl)),m2.trans iv.ok (i2.grow k3).2,(i2.grow k3).1,(i2.grow k3).2.rep i2.ok r3⟩
end
theorem DB(j:Int):(max 0 j).toNat=j.toNat:=by
 rcases Int.le_total 0 j with h|h
 ·rw[Int.max_eq_right h]
 ·rw[Int.max_eq_left h,Int.toNat_of_nonpos h];rfl
theorem z0(n)(i):clipAt n i=eJ n i:=by
 delta clipAt eJ
 rw[DB];by_cases h:i<0
 ·exact Rw (if_pos h) (Rw (if_pos h) (Rw (Of (ma (NF (mf h) n) (FX (BP _)))) rfl))
 ·refine Rw (aw h) (Rw (aw h) ?_);obtain⟨k,rfl⟩:=xb (dX.mp h);rcases FV k n with q|q
  ·rw[Of (kn.mpr q),Int.toNat_natCast,pM q]
  ·simp only[Int.min_eq_right (kn.mpr q),Int.toNat_natCast,Int.toNat_natCast,By q]
theorem G3(items)(lo hi):slicePick items lo hi none=((items.toList.take (hi.elim items.size (eJ items.size))).drop (lo.elim 0 (eJ items.size))).toArray:=by
 simp only[slicePick_plain,List.drop_take];induction lo<;>induction hi<;>simp only[Option.elim,z0]
section
theorem nP(p:IsPart v z)(h:Q z s):wpAny (model prog w) A (Builtin.Slice.slicePartIndex v) Q E s:=by
 induction p with
 |none=>exact OI h
 |int i t=>exact slicePart_int h
theorem Cf{lo:Option Int}(ht:IsTup s.heap t items)(hs:s.heap.IsSliceOf sl vl vu .none)(pl:IsPart vl lo)(pu:IsPart vu hi)(ha:Builtin.Slice.sliceAdjust lo hi 1 (items.size:Int)=(x,y))(hm:Builtin.Slice.slicePlaces x y 1=m)(Aa:¬((x==0&&(1:Int)==1&&m==items.size)=true))(hp:((List.range m).filterMap fun(k:Nat)=>items[(x+(k:Int)*1).toNat]?)=ws)(hz:ws.length<=sizeLine)(h:Q (.ref s.heap.objs.size) {s with heap:=s.heap.push {cls:=.type "tuple",data:=.seq ws.toArray}}):wpAny (model prog w) A (getItem (.ref t) (.ref sl)) Q E s:=by
 letI os:=Ce (id hs)
 haveI TU:=(Cs (id hs))
 haveI O9:=TU.1
 haveI hcs:=TU.2.1
 haveI Qp:=TU.2.2
 unfold getItem
 try with_reducible refine ix ?_
 first|refine aF (bY ?_)|skip
 refine aF (Oo ht.typeIs (by decide) ?_)
 refine aF (Ff (name:=Str.ofString "__getitem__") ht.typeIs Bw
  (BC Bw ht.typeIs entry_tuple_getitem ?_ (args_tuple_getitem _ _)))
 show wpAny _ _ (Builtin.Tuple.tupleItemsOf (.ref t)>>=_) _ _ s;refine aF (tupleItemsOf_ ht ?_);refine aF (FZ (⟨os,O9,hcs⟩) ?_);apply aF;refine aF (aF (gV O9 Qp (x:=vl) rfl (aF (gV O9 Qp (x:=vu) rfl (aF (gV O9 Qp (x:=.none) rfl (bY ?_)))))));refine aF (OI ?_);refine aF (nP pl (aF (nP pu (aF (bY ?_)))));show wpAny _ _ (match Builtin.Slice.sliceAdjust lo hi 1 (items.size:Int)with|(lo,hi)=>pure (lo,(1:Int),Builtin.Slice.slicePlaces lo hi 1)) _ _ s;refine Rw ha ?_;show wpAny _ _ (pure (x,(1:Int),Builtin.Slice.slicePlaces x y 1)) _ _ s;refine Rw hm ?_;apply bY;show wpAny _ _ (if(x==0&&(1:Int)==1&&m==items.size)=true then _ else _) _ _ s;refine Rw (aw Aa) (Rw hp ?_)
 first
  |exact aF (m:=Builtin.Tuple.tupleExact _) (rx (bY ⟨_,rfl,bY h⟩) hz)
  |exact aF (m:=Builtin.Tuple.tupleExact _) (rx (aF (bY (bY ⟨_,rfl,bY h⟩))) hz)
  |exact aF (aF (m:=Builtin.Tuple.tupleExact _) (rx (bY (bY ⟨_,rfl,bY h⟩)) hz))
  |exact aF (aF (m:=Builtin.Tuple.tupleExact _) (rx (bY ⟨_,rfl,bY h⟩) hz))
end
section
def DC(g:Gl)(q:Snap)(v:Value):Option D->Prop
 |none=>v= .none
 |some d=>aU g.w q.V q.h v d
theorem af.Zt{c:Cx}(m:af (aK c.envs) p q)(ok:p.Ok g.base c.envs)(r:DC g p v d):DC g q v d:=by
 induction d with
 |none=>exact r
 |some d=>exact m.rep ok r
theorem Cg{st:St}{call:Call}(ho:∀e,o=some e->aA g c (aB g.nm e) (ev P call e))(iv:Inv g c st p s)(hb:pW (OZ P call o) st≠ .bad):
  wpAny g.M c.A (evalPart (Gn g.nm o) c.env) (mJ g c p (DC g) (pW (OZ P call o) st)) (je g c p (pW (OZ P call o) st)) s:=by
 induction o with
 |none=>exact bY ⟨none,st,p,rfl,af.refl _ _,iv,rfl⟩
 |some e=>
  exact step ((ho e rfl).val.dat st p s iv (ah hb)) iv.ok (af.refl _ _) (fun x aE e=>ar e) fun a st1 q1 s1 va e1 m1 ω i1 r1=>⟨some a,st1,q1,aa e1,m1,i1,r1⟩
set_option tactic.hygienic true in
theorem xU(r:DC g q v d)(e:OU m k d=some b):∃z,IsPart v z/\b=z.elim k (eJ m):=by
 induction d with
 |none=>subst r;cases e;exact⟨none,.none,rfl⟩
 |some d=>
  induction d using PyData.casesOn<;>first|(exfalso;cases e;done)|skip
  rename_i i;cases r;obtain rfl:=dS (bq (show(if small i=true then some (eJ m i)else none)=some b from e)).2;exact⟨some i,.int _ _,rfl⟩
theorem KH{lo:Option D}(e:cut xs lo hi=some ys):∃x y,OU xs.length 0 lo=some x/\OU xs.length xs.length hi=some y/\(xs.take y).drop x=ys:=by
 delta cut at e
 generalize OU xs.length 0 lo=zA at e⊢;generalize OU xs.length xs.length hi=zB at e⊢
 induction zA using Oc with
 |none=>exact Ns rfl e
 |some a=>
  induction zB using Oc with
  |none=>exact Ns rfl e
  |some b=>exact⟨a,b,rfl,rfl,dS e⟩
inductive Qq(xs:List D):Option D->Option D->D->Prop
 |to(j:Nat)(h1:1<=j)(h2:j<xs.length):Qq xs none (some (.int (j:Int))) (.tuple (xs.take j))
 |fro(j:Nat)(h1:1<=j)(h2:j<=xs.length):Qq xs (some (.int (j:Int))) none (.tuple (xs.drop j))
theorem G4(e:fZ (.tuple xs) a b=some r):xs.length<=lim/\Qq xs a b r:=by
 have e:=bq e;refine⟨e.1,?_⟩;have e:=e.2
 induction a with
 |none=>cases b with
  |none=>exact ax e
  |some b=>induction b using PyData.casesOn with
   |int b=>
    obtain⟨c,e⟩:=bq e;obtain⟨j,rfl⟩:=xb (a:=b) (mf c.1);exact dS e▸ .to j (kc.mp c.1) (kc.mp c.2)
   |_=>exact ax e
 |some a=>induction a using PyData.casesOn with
  |int a=>induction b with
   |none=>
    obtain⟨c,e⟩:=bq e;obtain⟨j,rfl⟩:=xb (a:=a) (mf c.1);exact dS e▸ .fro j (kc.mp c.1) (kn.mp c.2)
   |some _=>exact ax e
  |_=>exact ax e
theorem xV(xs:Array Value)(a m:Nat):((List.range m).filterMap fun(k:Nat)=>xs[((a:Int)+(k:Int)*1).toNat]?)=(xs.toList.drop a).take m:=by
 simp only[<-pick_run xs a m,List.filterMap_map]
 congr 1
 funext k
 haveI:((a:Int)+(k:Int)*1).toNat=a+k:=bz (fun z=>((a:Int)+z).toNat) (OE (k:Int))
 exact bz _ this
theorem Qr{g:Gl}{c:Cx}{st:St}{q:Snap}{s:Shared}{A:Around}{value:Expr}{lo hi:Option Expr}{sp:Pos}{d r:D}{a b:Option D}{vo vl vu:Value}{Q E:Value->Shared->Prop}{H:Heap}(hH:H=s.heap.push {cls:=.type "slice",data:=.fields #[vl,vu,.none]})(iv:Inv g c st q s)(ho:aU g.w q.V q.h vo d)(hl:DC g q vl a)(hu:DC g q vu b)(e:fZ d a b=some r)(h:∀v s',Keeps s s'->aU g.w q.V s'.heap v r->Q v s'):
  wpAny g.M A (subscriptTail value (.Slice lo hi none sp) vo (.ref s.heap.objs.size)) Q E {s with heap:=H}:=by
 have u1:∀{b:Addr} {o:Obj},s.heap.get? b=some o->H.get? b=some o:=fun e=>Rw hH (il _ e);have sl:H.IsSliceOf s.heap.objs.size vl vu .none:=Rw hH (Heap.IsSliceOf.new ..);clear hH;have kp:∀o:Obj,Keeps s {s with heap:=H.push o}:=fun o=>⟨_,s.toks,rfl,fun b o e=>il _ (u1 e)⟩;have al:jv q.V H:=fun x v=>(iv.alive x v).elim fun o e=>⟨o,u1 e⟩;have up:∀{vs:List Value} {ds:List D},ak g.w q.V q.h vs ds->ak g.w q.V H vs ds:=fun x=>x.imp fun a o n e=>⟨n,u1 (iv.heap▸e)⟩
 induction d using PyData.casesOn with
 |list ds=>
  obtain⟨l,vs,rfl,-,pl,hr⟩:=ho.cD;have hl':H.IsList l vs:=((Rw iv.heap pl.isList:s.heap.IsList l vs)).elim fun o zL=>⟨o,u1 zL.1,zL.2⟩;have hz:vs.size=ds.length:=Rl hr.length (Rw gT rfl);refine Bc fun au=>?_;obtain⟨jf,e⟩:=bq e;obtain⟨ys,ey,rfl⟩:=iu.mp e;obtain⟨x,y,ex,eyy,rfl⟩:=KH ey;obtain⟨z1,p1,rfl⟩:=xU hl ex;obtain⟨z2,p2,rfl⟩:=xU hu eyy;apply au
  refine xn (Heap.IsList.typeIs (s:={s with heap:=H}) hl') list_getitem_lookup
   (wpAny_getItem_list_slice hl' sl p1 p2 .none (by simp) ?_ (Rw hz (gb jf))) rfl
  refine h _ _ (kp _) (aU.newList al ?_);exact Rw (G3 ..) (Rw hz ((up hr).take.drop))
 |tuple ds=>
  obtain⟨l,vs,rfl,-,pt,hr⟩:=ho.dF
  have Zu:IsTup H l vs:=by
   obtain⟨n,pt⟩:=pt;exact⟨_,u1 (Rw iv.heap pt),rfl,n,rfl⟩
  have hz:vs.size=ds.length:=Rl hr.length (Rw gT rfl);obtain⟨jf,e⟩:=G4 e
  haveI jf:=gb jf
  refine xn (s:={s with heap:=H}) Zu.typeIs Bw.lookup ?_ rfl
  induction e with
  |to j h1 h2=>
   cases hl
   cases hu with|int _ t=>
   refine Cf (lo:=none) (hi:=some (j:Int)) (x:=((0:Nat):Int)) (y:=j) (m:=j) Zu sl .none (.int _ _) ?_ ?_ ?_ (xV vs 0 j) ?_ (h _ _ (kp _) (aU.vB al ?_))
   ·delta Builtin.Slice.sliceAdjust;dsimp only;simp;lia
   ·unfold Builtin.Slice.slicePlaces;simp;exact bz Int.toNat (if_pos h1)
   ·refine Rw hz ?_;simp;exact rn h2
   ·simp only[Od,FF,gT,hz];exact aI (Nat.min_le_right ..) jf
   ·exact(up hr).drop.take
  |fro j h1 h2=>
   cases hu
   cases hl with|int _ t=>
   refine Cf (lo:=some (j:Int)) (hi:=none) (x:=j) (y:=vs.size) (m:=vs.size-j) Zu sl (.int _ _) .none (adjust_from j vs.size (hz▸h2)) (places_from j vs.size (hz▸h2)) ?_ (xV vs j _) ?_ (h _ _ (kp _) (aU.vB al ?_))
   ·haveI:((j:Int)==0)=false:=by rw[Bx];exact FW (kc.mpr h1)
    refine Rw this ?_;exact cO
   ·refine Rw FF (Rw tg (Rw gT (Rw hz ?_)));exact aI (FK ..) (aI (OJ ..) jf)
   ·exact Rw (Nj (by rw[tg,gT];exact fB _)) ((up hr).drop (i:=j))
 |_=>exact Ns rfl e
theorem KI{call:Call}{lo:Option ME}(ho:aA g c (aB g.nm o) (ev P call o))(hlo:∀e,lo=some e->aA g c (aB g.nm e) (ev P call e))(hhi:∀e,hi=some e->aA g c (aB g.nm e) (ev P call e)):
  gG g c (.Subscript (aB g.nm o) (.Slice (Gn g.nm lo) (Gn g.nm hi) none sp) pos) fun st=>((ev P call o).dat st).bind fun d st=>(pW (OZ P call lo) st).bind fun a st=>(pW (OZ P call hi) st).bind fun b st=>opt (fZ d a b) st:=by
 intro st p s iv hb;refine F8 (step (ho.val.dat st p s iv (ah hb)) iv.ok (af.refl _ _) (fun x aE e=>ar e) fun d st1 q1 s1 vo e1 m1 ω i1 r1=>wpAny_Slice ?_);refine step (Cg hlo i1 (ah (fun z=>hb ((aa e1).trans z)))) iv.ok m1 (fun x aE e=>(aa e1).trans (ar e)) fun a st2 q2 s2 vl e2 m2 qQ i2 r2=>?_;have iM:=fun z=>(fun z=>hb ((aa e1).trans z)) ((aa e2).trans z);refine step (Cg hhi i2 (ah iM)) iv.ok m2 (fun x aE e=>(aa e1).trans ((aa e2).trans (ar e))) fun b gB q3 s3 vu e3 m3 Xx i3 r3=>?_;obtain⟨r,er⟩:=b7 (fun z=>iM ((aa e3).trans z));refine bY (Qr rfl i3 (Xx.rep i2.ok (qQ.rep i1.ok r1)) (Xx.Zt i2.ok r2) r3 er fun v s4 k4 r4=>?_);exact⟨r,gB,_,(aa e1).trans ((aa e2).trans ((aa e3).trans (Rw er rfl))),m3.trans iv.ok (i3.grow k4).2,(i3.grow k4).1,r4⟩
end
structure Quiet(fs wr:List Addr)(q:Snap)(V:Addr->Prop)(h:Heap):Prop where
 keep:∀b o,q.h.get? b=some o->b∉fs->b∉wr->h.get? b=some o
 de:∀b o,q.h.get? b=some o->b∉wr->∃sl,h.get? b=some {o with slots:=sl}
 qC:∀a,V a->q.V a\/q.h.get? a=none
 cls:∀a,q.V a->V a
 all:∀a,V a->∃o,h.get? a=some o
section
theorem IsCell.slots{h h':Heap}(x:h.IsCell a v)(e:∀o,h.get? a=some o->∃sl,h'.get? a=some {o with slots:=sl}):h'.IsCell a v:=by
 obtain⟨o,z1⟩:=x
 haveI e3:=(Cs (e o z1.1))
 exact⟨_,e3,z1.2⟩
def Recs(p q:Snap)(wr:List Addr):Prop:=∀b∈wr,p.h.get? b=none/\ ∃o vs,q.h.get? b=some o/\o.data= .fields vs
theorem Recs.off(hw:Recs p q wr)(e:q.h.get? b=some o)(n:∀vs,o.data≠ .fields vs):b∉wr:=fun z=>by
 obtain⟨_,o',vs,e1,e2⟩:=hw b z;rw[e]at e1;cases e1;exact n vs e2
theorem Inv.quiet{st:St}(gH:p.Ok g.base c.envs)(m:af (aK c.envs) p q)(hw:Recs p q wr)(iv:Inv g c st q s)(x:Quiet (aK c.envs) wr q V s'.heap)(hg:s'.gens=s.gens)(ho:s'.os=s.os)(ff:s'.heap.FunFrames {} c.envs):
  Inv g c st ⟨V,q.led,q.W,s'.heap⟩ s'/\af (aK c.envs) p ⟨V,q.led,q.W,s'.heap⟩:=by
 have nw:∀b o,p.h.get? b=some o->b∉wr:=fun b o e z=>Ns ((hw b z).1) e
 haveI nl:∀b o,p.h.get? b=some o->p.led b=none->q.led b=none:=fun b o e l=>by
  cases z:q.led b with
  |none=>rfl
  |some cl=>
   rcases m.rO b cl z with y|y
   ·exact absurd l y
   ·exact Ns y e
 haveI mv:af (aK c.envs) p ⟨V,q.led,q.W,s'.heap⟩:=by
  refine⟨fun b o e l f=>x.keep b o (m.keep b o e l f) f (nw b o e),fun b o e l=>?_,fun b o e=>let⟨o',z⟩:=m.ext b o e;(x.de b o' z (nw b o e)).elim fun sl w=>⟨_,w⟩,fun a v=>?_,fun a cl e=>?_,fun a v l=>x.cls a (m.cls a v l),m.pre⟩
  ·haveI z:=(Cs (m.de b o e l))
   obtain⟨sl',z'⟩:=x.de b _ z (nw b o e);exact⟨sl',z'⟩
  ·rcases x.qC a v with y|y
   ·exact m.qC a y
   ·exact .inr ((fun a e=>m.back e) a y)
  ·exact m.rO a cl e
 have im:∀a o,¬q.V a->(∀vs,o.data≠ .fields vs)->q.h.get? a=some o->¬V a/\s'.heap.get? a=some o:=fun a o nv nf e=>by
  refine⟨fun v=>?_,x.keep a o e (fun f=>nv (iv.ok.de a f)) (hw.off e nf)⟩;rcases x.qC a v with y|y
  ·exact nv y
  ·exact Ns y e
 haveI at_:∀a cl,q.led a=some cl->cl.kind.At s'.heap a:=fun a cl e=>by
  obtain⟨o,e1,e2⟩:=(iv.ok.led a cl e).2.oY
  haveI nw':=hw.off e1 e2
  by_cases hf:a∈aK c.envs
  ·refine(iv.ok.led a cl e).2.slots (fun o z=>x.de a o z nw') ?_;generalize z:cl.kind.iI=zV
   induction zV using Tc with
   |false=>rfl
   |true=>exact((iv.ok.oZ a cl e z) hf).elim
  ·exact(iv.ok.led a cl e).2.at fun o z=>x.keep a o z hf nw'
 have lv:∀{tag:Tag} {v:Value} {r:LV},bw g q tag v r->bw g ⟨V,q.led,q.W,s'.heap⟩ tag v r:=fun{tag v r} z=>by
  induction r with
  |dat d=>exact aU.rN im z
  |ref k=>exact z
  |own ds=>obtain⟨a,vs,e1,e2,e3⟩:=z;exact⟨a,vs,e1,e2,e3.rN im⟩
 refine⟨⟨rfl,hg.trans iv.gens,ho.trans iv.os,⟨fun b o e=>?_,fun a v=>?_,x.all,fun a cl e=>⟨x.cls a (iv.ok.led a cl e).1,at_ a cl e⟩,iv.ok.oZ,fun a f=>x.cls a (iv.ok.de a f),ff⟩,?_,iv.emp,?_,iv.jP,iv.len,?_⟩,mv⟩
 ·refine x.keep b o (iv.ok.stays b o e) (fun f=>?_) (nw b o (gH.stays b o e));exact Ns (iv.ok.low b (iv.ok.de b f)) e
 ·rcases x.qC a v with z|z
  ·exact iv.ok.low a z
  ·generalize e:g.base.get? a=zV
   induction zV using Oc with
   |none=>rfl
   |some o=>exact Ns z (iv.ok.stays a o e)
 ·obtain⟨e1,e2⟩:=iv.ns';exact⟨e1,fun y v e=>(e2 y v e).elim fun u zL=>⟨u,zL.1,lv zL.2⟩⟩
 ·intro y v e a e1;refine Bc fun au=>?_;obtain⟨u,Qs⟩:=iv.aW y v e a e1
  haveI e2:=Qs.1
  haveI Qs:=Qs.2
  exact au ⟨u,x.cls a e2,IsCell.slots Qs.1 fun o z=>x.de a o z (Qs.1.elim fun o zL=>hw.off zL.1 fun vs z=>by rw[zL.2]at z;cases z),lv Qs.2.1,Qs.2.2⟩
 ·intro k o e1 e2;obtain⟨y,d,C,m,f1,f2,f3,f4,f5,f6,f7⟩:=iv.objs k o e1 e2
  haveI h:=im y _ f4 (fun ω z=>by injection z) f3
  exact⟨y,d,C,m,f1,f2,h.2,h.1,f5,f6,fun f v e=>(f7 f v e).elim fun a zL=>zL.elim fun u zL=>⟨a,u,zL.1,lv zL.2⟩⟩
theorem Ab{h h':Heap}:∀{l:List Env},(∀b o,b∈aK l->h.get? b=some o->(∀vs,o.data≠ .fields vs)->∃o',h'.get? b=some o'/\ ∀vs,o'.data≠ .fields vs)->h.FunFrames base l->h'.FunFrames base l:=by
 intro zV
 induction zV with
 |nil=>
  exact @fun ω ω=>trivial
 |cons env rest zI=>
  exact @fun k hl=>by
   obtain⟨hk,⟨L,o,hf,hn,ho,hd⟩,hr⟩:=hl;obtain⟨o',z4⟩:=k L o (by unfold aK;simp only[wX,hf];exact .head _) ho hd;refine⟨hk,⟨L,o',hf,hn,z4.1,z4.2⟩,zI (fun b o hb=>k b o ?_) hr⟩
   delta aK;simp only[wX,hf];exact .tail _ hb
theorem Inv.alter{st:St}{X:List Addr}(iv:Inv g c st p s)(k:∀b o,b∉X->p.h.get? b=some o->s'.heap.get? b=some o)(hX:∀b∈X,g.base.get? b=none/\((¬p.V b/\ ∃o vs,p.h.get? b=some o/\o.data= .fields vs)\/(p.V b/\p.led b=none/\b∉aK c.envs/\(∃o,s'.heap.get? b=some o)/\ ∃o,p.h.get? b=some o/\ ∀v,o.data≠ .cell v)))(hg:s'.gens=s.gens)(ho:s'.os=s.os):
  Inv g c st {p with h:=s'.heap} s':=by
 have off:∀b o,p.h.get? b=some o->(∀vs,o.data≠ .fields vs)->(¬p.V b\/p.led b≠none\/b∈aK c.envs\/ ∃v,o.data= .cell v)->b∉X:=fun b o e nf h z=>by
  obtain⟨_,⟨_,o',vs,e1,e2⟩|⟨v,l,f,_,o',w,w'⟩⟩:=hX b z
  ·rw[e]at e1;cases e1;exact nf vs e2
  ·rcases h with h|h|h|h
   ·exact h v
   ·exact h l
   ·exact f h
   ·rw[e]at w;cases w;obtain⟨u,h⟩:=h;exact w' u h
 have im:∀a o,¬p.V a->(∀vs,o.data≠ .fields vs)->p.h.get? a=some o->¬p.V a/\s'.heap.get? a=some o:=fun a o nv nf e=>⟨nv,k a o (off a o e nf (.inl nv)) e⟩
 have lv:∀{tag:Tag} {v:Value} {r:LV},bw g p tag v r->bw g {p with h:=s'.heap} tag v r:=fun{tag v r} z=>by
  induction r with
  |dat d=>exact aU.rN im z
  |ref k=>exact z
  |own ds=>obtain⟨a,vs,e1,e2,e3⟩:=z;exact⟨a,vs,e1,e2,e3.rN im⟩
 refine⟨rfl,hg.trans iv.gens,ho.trans iv.os,⟨fun b o e=>?_,iv.ok.low,fun a v=>?_,fun a cl e=>⟨(iv.ok.led a cl e).1,?_⟩,iv.ok.oZ,iv.ok.de,Ab (fun b o hb e nf=>⟨o,k b o (off b o e nf (.inr (.inr (.inl hb)))) e,nf⟩) iv.ok.f9⟩,?_,iv.emp,?_,iv.jP,iv.len,?_⟩
 ·exact k b o (fun z=>Ns ((hX b z).1) e) (iv.ok.stays b o e)
 ·by_cases hx:a∈X
  ·rcases(hX a hx).2 with⟨z,_⟩|⟨_,_,_,z,_⟩
   ·exact(z v).elim
   ·exact z
  ·obtain⟨o,e⟩:=iv.ok.all a v;exact⟨o,k a o hx e⟩
 ·obtain⟨o,e1,e2⟩:=(iv.ok.led a cl e).2.oY;exact(iv.ok.led a cl e).2.at fun o' z=>k a o' (off a o' z (by rw[e1]at z;cases z;exact e2) (.inr (.inl (Rw e (fun z=>by injection z))))) z
 ·obtain⟨e1,e2⟩:=iv.ns';exact⟨e1,fun y v e=>(e2 y v e).elim fun u zL=>⟨u,zL.1,lv zL.2⟩⟩
 ·intro y v e a e1;refine Bc fun au=>?_;obtain⟨u,e2,⟨o,z1,z2⟩,UP⟩:=iv.aW y v e a e1;exact au (⟨u,e2,⟨o,k a o (off a o z1 (fun vs z=>by rw[z2]at z;cases z) (.inr (.inr (.inr ⟨_,z2⟩)))) z1,z2⟩,lv UP.1,UP.2⟩)
 ·intro j o e1 e2;obtain⟨y,d,C,m,f1,f2,f3,f4,f5,f6,f7⟩:=iv.objs j o e1 e2;exact⟨y,d,C,m,f1,f2,(im y _ f4 (fun ω z=>by cases z) f3).2,f4,f5,f6,fun f v e=>let⟨a,u,b,z⟩:=f7 f v e;⟨a,u,b,lv z⟩⟩
noncomputable def Snap.drop(p:Snap)(C:Addr)(h:Heap):Snap:=⟨fun a=>p.V a/\a≠C,p.led,p.W,h⟩
theorem jQ{c:Cx}(m:af (aK c.envs) r p)(hC:r.h.get? C=none)(ra:∀a,r.V a->∃o,r.h.get? a=some o)(k:∀b o,b≠C->p.h.get? b=some o->h.get? b=some o):af (aK c.envs) r (p.drop C h):=by
 have nc:∀b o,r.h.get? b=some o->b≠C:=fun b o e z=>Ns hC (z▸e);refine⟨fun b o e l f=>k b o (nc b o e) (m.keep b o e l f),fun b o e l=>(m.de b o e l).elim fun sl z=>⟨sl,k b _ (nc b o e) z⟩,fun b o e=>let⟨o',z⟩:=m.ext b o e;⟨o',k b o' (nc b o e) z⟩,fun a v=>m.qC a v.1,m.rO,fun a v l=>⟨m.cls a v l,let⟨o,e⟩:=ra a v;nc a o e⟩,m.pre⟩
theorem Inv.vK{st:St}(iv:Inv g c st p s)(k:∀b o,b≠C->p.h.get? b=some o->s'.heap.get? b=some o)(hV:p.V C)(hl:p.led C=none)(hf:C∉aK c.envs)(hd:∃o,p.h.get? C=some o/\ ∀v,o.data≠ .cell v)(hg:s'.gens=s.gens)(ho:s'.os=s.os):
  Inv g c st (p.drop C s'.heap) s':=by
 have nl:∀a cl,p.led a=some cl->a≠C:=fun a cl e z=>Ns hl (z▸e);have im:∀a o,¬p.V a->p.h.get? a=some o->¬(p.V a/\a≠C)/\s'.heap.get? a=some o:=fun a o nv e=>⟨fun z=>nv z.1,k a o (fun z=>nv (z▸hV)) e⟩
 have lv:∀{tag:Tag} {v:Value} {r:LV},bw g p tag v r->bw g (p.drop C s'.heap) tag v r:=fun{tag v r} z=>by
  induction r with
  |dat d=>exact aU.imp im z
  |ref k=>exact z
  |own ds=>obtain⟨a,vs,e1,e2,e3⟩:=z;exact⟨a,vs,e1,e2,e3.imp im⟩
 refine⟨rfl,hg.trans iv.gens,ho.trans iv.os,⟨fun b o e=>?_,fun a v=>iv.ok.low a v.1,fun a v=>?_,fun a cl e=>⟨⟨(iv.ok.led a cl e).1,nl a cl e⟩,(iv.ok.led a cl e).2.at fun o z=>k a o (nl a cl e) z⟩,iv.ok.oZ,fun a f=>⟨iv.ok.de a f,fun z=>hf (z▸f)⟩,Ab (fun b o hb e nf=>⟨o,k b o (fun z=>hf (z▸hb)) e,nf⟩) iv.ok.f9⟩,?_,iv.emp,?_,iv.jP,iv.len,?_⟩
 ·exact k b o (fun z=>Ns (iv.ok.low C hV) (z▸e)) (iv.ok.stays b o e)
 ·obtain⟨o,e⟩:=iv.ok.all a v.1;exact⟨o,k a o v.2 e⟩
 ·obtain⟨e1,e2⟩:=iv.ns';exact⟨e1,fun y v e=>(e2 y v e).elim fun u zL=>⟨u,zL.1,lv zL.2⟩⟩
 ·intro y v e a e1;refine Bc fun au=>?_;obtain⟨u,J0⟩:=iv.aW y v e a e1
  haveI e2:=J0.1
  haveI J0:=J0.2
  apply au
  have Xy:a≠C:=fun z=>by
   obtain⟨o,z1,z2⟩:=J0.1;obtain⟨o',w1,w2⟩:=hd;rw[z,w1]at z1;cases z1;exact w2 _ z2
  exact⟨u,⟨e2,Xy⟩,let⟨o,z1,z2⟩:=J0.1;⟨o,k a o Xy z1,z2⟩,lv J0.2.1,J0.2.2⟩
 ·intro j o e1 e2;obtain⟨y,d,C',m,f1,f2,f3,f4,f5,f6,f7⟩:=iv.objs j o e1 e2;exact⟨y,d,C',m,f1,f2,(im y _ f4 f3).2,(im y _ f4 f3).1,f5,f6,fun f v e=>let⟨a,u,b,z⟩:=f7 f v e;⟨a,u,b,lv z⟩⟩
noncomputable def Snap.openAt(p:Snap)(a:Addr)(cl:Cell)(h:Heap):Snap:=⟨fun b=>p.V b\/b=a,fun b=>if b=a then some cl else p.led b,p.W,h⟩
theorem eU{p:Snap}(hb:b≠a):(p.openAt a cl h).led b=p.led b:=aw hb
theorem Inv.Ch{st:St}(iv:Inv g c st p s)(hn:p.h.get? a=none)(k:∀b o,p.h.get? b=some o->s'.heap.get? b=some o)(hc:cl.kind.At s'.heap a)(hg:s'.gens=s.gens)(ho:s'.os=s.os):
  Inv g c st (p.openAt a cl s'.heap) s'/\af (aK c.envs) p (p.openAt a cl s'.heap):=by
 have na:∀b o,p.h.get? b=some o->b≠a:=fun b o e z=>Ns hn (z▸e);have nl:=fun b cl' e=>((iv.ok.led b cl' e).2.some).elim fun o z=>na b o z
 have mv:af (aK c.envs) p (p.openAt a cl s'.heap):=
  ⟨fun b o e ω ω=>k b o e,fun b o e ω=>⟨o.slots,k b o e⟩,fun b o e=>⟨o,k b o e⟩,fun b v=>v.elim .inl fun z=>.inr (z▸hn),fun b cl' e=>by
   by_cases hb:b=a
   ·exact .inr (hb▸hn)
   ·rw[eU hb]at e;exact .inl (Rw e nofun),fun b v ω=>.inl v,xh _⟩
 have lv:∀{tag:Tag} {v:Value} {r:LV},bw g p tag v r->bw g (p.openAt a cl s'.heap) tag v r:=fun z=>mv.lv iv.ok (fun b vs e=>Rw (eU (nl b _ e)) e) z;refine⟨⟨rfl,hg.trans iv.gens,ho.trans iv.os,⟨fun b o e=>k b o (iv.ok.stays b o e),fun b v=>?_,fun b v=>?_,fun b cl' e=>?_,fun b cl' e z=>?_,fun b f=>.inl (iv.ok.de b f),iv.ok.f9.of_keeps fun b o e ω=>⟨o,k b o e,rfl⟩⟩,?_,iv.emp,?_,?_,iv.len,?_⟩,mv⟩
 ·rcases v with v|rfl
  ·exact iv.ok.low b v
  ·generalize e:g.base.get? b=zV
   induction zV using Oc with
   |none=>rfl
   |some o=>exact Ns hn (iv.ok.stays b o e)
 ·rcases v with v|rfl
  ·obtain⟨o,e⟩:=iv.ok.all b v;exact⟨o,k b o e⟩
  ·exact hc.some
 ·by_cases hb:b=a
  ·clear hg ho mv;subst hb;rw[show(p.openAt b cl s'.heap).led b=some cl from if_pos rfl]at e;cases e;exact⟨.inr rfl,hc⟩
  ·rw[eU hb]at e;exact⟨.inl (iv.ok.led b cl' e).1,(iv.ok.led b cl' e).2.at fun o z=>k b o z⟩
 ·by_cases hb:b=a
  ·intro f;obtain⟨o,w⟩:=iv.ok.all b (iv.ok.de b f);exact Ns hn (hb▸w)
  ·exact iv.ok.oZ b cl' ((eU hb)▸e) z
 ·haveI UQ:=iv.ns'
  haveI e1:=UQ.1
  haveI e2:=UQ.2
  exact⟨Rw (eU (nl _ _ e1)) e1,fun y v e=>(e2 y v e).elim fun u zL=>⟨u,zL.1,lv zL.2⟩⟩
 ·intro y v e b e1;refine Bc fun au=>?_;obtain⟨u,GX⟩:=iv.aW y v e b e1
  haveI e2:=GX.1
  haveI GX:=GX.2
  apply au;have hb:=let⟨o,z,_⟩:=GX.1;na b o z;exact⟨u,.inl e2,GX.1.keeps k,lv GX.2.1,fun z=>Rw (eU hb) (GX.2.2.1 z),fun z=>Rw (eU hb) (GX.2.2.2 z)⟩
 ·intro z y b e;obtain⟨v,w⟩:=iv.jP z y b e;exact⟨v,Rw (eU (nl _ _ w)) w⟩
 ·intro j o e1 e2;obtain⟨y,d,C,m,f1,f2,f3,f4,f5,f6,f7⟩:=iv.objs j o e1 e2;exact⟨y,d,C,m,f1,f2,k _ _ f3,fun z=>z.elim f4 (na _ _ f3),Rw (eU (nl _ _ f5)) f5,f6,fun f v e=>let⟨a,u,b,z⟩:=f7 f v e;⟨a,u,b,lv z⟩⟩
noncomputable def Snap.upd(p:Snap)(a:Addr)(cl:Cell)(h:Heap):Snap:={p with led:=fun b=>if b=a then some cl else p.led b,h:=h}
theorem br{p:Snap}(hb:b≠a):(p.upd a cl h).led b=p.led b:=aw hb
theorem lG(e:p.led a=some cl)(k:∀b o,b≠a->p.h.get? b=some o->h.get? b=some o)(ha:∃o,h.get? a=some o):af fs p (p.upd a cl' h)where
 keep:=fun b o e' n ω=>k b o (fun z=>Ns n (z▸e)) e'
 de:=fun b o e' n=>⟨o.slots,k b o (fun z=>Ns n (z▸e)) e'⟩
 ext:=fun b o e'=>by
  by_cases hb:b=a
  ·exact Rw hb ha
  ·exact⟨o,k b o hb e'⟩
 qC:=fun b v=>.inl v
 rO:=fun b c' z=>.inl fun q=>by
  by_cases hb:b=a
  ·obtain rfl:=hb.symm;exact Ns q e
  ·exact Ns ((br hb).trans q) z
 cls:=fun b v ω=>v
 pre:=xh _
theorem G5{h h':Heap}(k:∀b o,h.get? b=some o->(∀vs,o.data≠ .fields vs)->∃o',h'.get? b=some o'/\ ∀vs,o'.data≠ .fields vs):∀{l:List Env},h.FunFrames base l->h'.FunFrames base l:=by
 intro zV
 induction zV with
 |nil=>
  exact @fun ω=>trivial
 |cons env rest zI=>
  exact @fun hl=>by
   obtain⟨hk,⟨L,o,hf,hn,ho,hd⟩,hr⟩:=hl;obtain⟨o',z4⟩:=k L o ho hd;exact⟨hk,⟨L,o',hf,hn,z4.1,z4.2⟩,zI hr⟩
theorem vL{p:Snap}(ok:p.Ok base envs)(e:p.led a=some cl)(hl:cl'.kind.iI=true->cl.kind.iI=true)(k:∀b o,b≠a->p.h.get? b=some o->h.get? b=some o)(hc:cl'.kind.At h a):(p.upd a cl' h).Ok base envs where
 stays:=fun b o e'=>k b o (fun z=>Ns (ok.low a (ok.led a cl e).1) (z▸e')) (ok.stays b o e')
 low:=ok.low
 all:=fun b v=>by
  by_cases hb:b=a
  ·exact Rw hb hc.some
  ·obtain⟨o,z⟩:=ok.all b v;exact⟨o,k b o hb z⟩
 led:=fun b c' z=>by
  by_cases hb:b=a
  ·subst hb;rw[show(p.upd b cl' h).led b=some cl' from if_pos rfl]at z;cases z;exact⟨(ok.led b cl e).1,hc⟩
  ·rw[br hb]at z;exact⟨(ok.led b c' z).1,(ok.led b c' z).2.at fun o w=>k b o hb w⟩
 oZ:=fun b c' z w=>by
  by_cases hb:b=a
  ·subst hb;rw[show(p.upd b cl' h).led b=some cl' from if_pos rfl]at z;cases z;exact ok.oZ b cl e (hl w)
  ·exact ok.oZ b c' ((br hb)▸z) w
 de:=ok.de
 f9:=by
  refine G5 (fun b o e1 e2=>?_) ok.f9;by_cases hb:b=a
  ·exact Rw hb hc.oY
  ·exact⟨o,k b o hb e1,e2⟩
theorem gc.moves{c:Cx}(mv:af (aK c.envs) p q)(ok:p.Ok g.base c.envs)(hd:∀d m,p.led d=some ⟨.dict k,.sX m⟩->q.led d=some ⟨.dict k,.sX m⟩)(hf:∀f a vs,p.led a=some ⟨.kE k f,.lst vs⟩->q.led a=some ⟨.kE k f,.lst vs⟩)(x:gc g p k o):gc g q k o:=by
 obtain⟨y,d,C,m,f1,f2,f3,f4,f5,f6,f7⟩:=x;exact⟨y,d,C,m,lD mv.pre f1,f2,(mv.imp ok y _ f4 f3).2,(mv.imp ok y _ f4 f3).1,hd d m f5,f6,fun f lv e=>let⟨a,u,b,z⟩:=f7 f lv e;⟨a,u,b,mv.lv ok (hf f) z⟩⟩
theorem mx.moves(mv:af (aK c.envs) p q)(ok:p.Ok g.base c.envs)(kg:q.Ok g.base c.envs)(hc:c.comp=false->∀a v,p.led a=some ⟨.aW x,.cell v⟩->q.led a=some ⟨.aW x,.cell v⟩)(hf:∀a vs,p.led a=some ⟨.frame,.lst vs⟩->q.led a=some ⟨.frame,.lst vs⟩)(z:mx g c p x lv):mx g c q x lv:=by
 intro a f1;refine Bc fun au=>?_;obtain⟨v,z4⟩:=z a f1;generalize J1:c.comp=zV
 induction zV using Tc with
 |false=>
  have h:=hc J1 a _ (z4.2.2.2.2 J1);exact au ⟨v,(kg.led a _ h).1,(kg.led a _ h).2,mv.lv ok hf z4.2.2.1,(fun z=>nomatch(J1▸z:false=true)),fun ω=>h⟩
 |true=>
  have h:=z4.2.2.2.1 J1;refine au ?_;refine⟨v,mv.cls a z4.1 h,IsCell.slots z4.2.1 fun o e=>mv.de a o e h,mv.lv ok hf z4.2.2.1,fun ω=>?_,(fun z=>nomatch(J1▸z:true=false))⟩
  haveI e:=(Cs z4.2.1).1
  generalize w:q.led a=zV
  induction zV using Oc with
  |none=>rfl
  |some cl=>
   rcases mv.rO a cl w with y|y
   ·exact(y h).elim
   ·exact Ns y e
theorem pZ{g:Gl}(go:g.Ok fA)(h:y≠x)(v)(m:Str->Option Value):(fun z=>if z=g.nm x then some v else m z) (g.nm y)=m (g.nm y):=aw fun e=>h (go.inj _ _ e)
theorem Inv.setName{st:St}(go:g.Ok fA)(iv:Inv g c st p s)(hm:p.led c.env.locals=some ⟨c.tag,.ns m⟩)(hv:bw g p (.nH x) v lv)(hn:s'.heap.Ns c.env.locals (fun y=>if y=g.nm x then some v else m y))(hs:Heap.SameBut c.env.locals s.heap s'.heap)(hg:s'.gens=s.gens)(ho:s'.os=s.os)(names)(hx:∀y fh,look y names=some fh->(y=x/\fh=lv)\/(y≠x/\look y (c.names st)=some fh)):
  ∃q,Inv g (c.at fun y=>if y=g.nm x then some v else m y) (if c.comp then{st with cmp:=names}else{st with loc:=names}) q s'/\af (aK c.envs) p q:=by
 have k:=fun b o hb e=>hs.extBut b o hb (Rw iv.heap e)
 haveI UR:(fun y=>if y=g.nm x then some v else m y) (g.nm x)=some v:=if_pos rfl
 have uv:∀y,y≠x->(fun y=>if y=g.nm x then some v else m y) (g.nm y)=m (g.nm y):=fun y h=>pZ go h v m;generalize(fun y=>if y=g.nm x then some v else m y)=m' at hn UR uv⊢;have mv:af (aK c.envs) p (p.upd c.env.locals ⟨c.tag,.ns m'⟩ s'.heap):=lG hm k (Kind.At.some (k:=.ns m') hn);have kg:=vL (cl':=⟨c.tag,.ns m'⟩) iv.ok hm nofun k hn
 have nl:∀a tag vs,p.led a=some ⟨tag,.lst vs⟩->(p.upd c.env.locals ⟨c.tag,.ns m'⟩ s'.heap).led a=some ⟨tag,.lst vs⟩:=fun a tag vs e=>by
  rw[br];exact e;intro z;rw[z,hm]at e;cases e
 refine⟨_,⟨rfl,hg.trans iv.gens,ho.trans iv.os,kg,⟨if_pos rfl,fun y fh e=>?_⟩,?_,fun y fh e=>?_,fun hc y a e=>?_,?_,fun j o e1 e2=>?_⟩,mv⟩
 ·haveI e':=by
   cases hc:c.comp<;>simp only[Cx.names,show(c.at m').comp=c.comp from rfl,hc,dZ,iw,eH]at e<;>exact e
  rcases hx y fh e' with⟨rfl,rfl⟩|⟨h1,h2⟩
  ·exact⟨v,UR,mv.lv iv.ok (fun a vs z=>nl a _ vs z) hv⟩
  ·refine Bc fun au=>?_;obtain⟨aaL,z1,z2⟩:=iv.ns;rw[hm]at z1;cases z1;obtain⟨u,z22⟩:=z2 y fh h2;exact au ⟨u,(uv y h1).trans z22.1,mv.lv iv.ok (fun a vs z=>nl a _ vs z) z22.2⟩
 ·haveI:=iv.emp
  cases hc:c.comp<;>simp only[show(c.at m').comp=c.comp from rfl,hc,dZ,iw,eH]at this⊢ <;>exact this
 ·refine mx.moves mv iv.ok kg (fun ω a v z=>?_) (fun a vs z=>nl a _ vs z) (iv.aW y fh (by cases hc:c.comp<;>simp only[hc,dZ,iw,eH]at e<;>exact e));rw[br];exact z;intro w;rw[w,hm]at z;have kk:=bz (Option.map Cell.kind) z;cases kk
 ·obtain⟨v,w⟩:=iv.jP hc y a e;refine⟨v,?_⟩;rw[br];exact w;intro z;rw[z,hm]at w;have kk:=bz (Option.map Cell.kind) w;cases kk
 ·cases hc:c.comp<;>simp only[dZ,iw,eH]<;>exact iv.len
 ·refine gc.moves mv iv.ok (fun d m' z=>?_) (fun f a vs z=>nl a _ vs z) (iv.objs j o (by cases hc:c.comp<;>simp only[hc,dZ,iw,eH]at e1<;>exact e1) e2);rw[br];exact z;intro w;rw[w,hm]at z;have kk:=bz (Option.map Cell.kind) z;cases kk
theorem Inv.Qt{st:St}(iv:Inv g c st p s)(J1:c.comp=false)(ha:c.env.cells.lookup (g.nm x)=some a)(hv:bw g p .frame v lv)(hn:s'.heap.IsCell a (some v))(hs:Heap.SameBut a s.heap s'.heap)(hg:s'.gens=s.gens)(ho:s'.os=s.os):
  ∃q,Inv g c {st with aW:=put x lv st.aW} q s'/\af (aK c.envs) p q:=by
 obtain⟨US,hm⟩:=iv.jP J1 x a ha;have k:=fun b o hb e=>hs.extBut b o hb (Rw iv.heap e);have mv:af (aK c.envs) p (p.upd a ⟨.aW x,.cell (some v)⟩ s'.heap):=lG hm k (Kind.At.some (k:=.cell _) hn);have kg:=vL (cl':=⟨.aW x,.cell (some v)⟩) iv.ok hm (fun z=>Nf rfl z) k hn
 have nl:∀b tag vs,p.led b=some ⟨tag,.lst vs⟩->(p.upd a ⟨.aW x,.cell (some v)⟩ s'.heap).led b=some ⟨tag,.lst vs⟩:=fun b tag vs e=>by
  rw[br];exact e;intro z;rw[z,hm]at e;cases e
 refine⟨_,⟨rfl,hg.trans iv.gens,ho.trans iv.os,kg,?_,iv.emp,fun y fh e=>?_,fun hc y b e=>?_,iv.len,fun j o e1 e2=>?_⟩,mv⟩
 ·haveI z1:=iv.ns'.1
  refine⟨?_,fun y fh e=>(iv.ns'.2 y fh e).elim fun u zL=>⟨u,zL.1,mv.lv iv.ok (fun a vs z=>nl a _ vs z) zL.2⟩⟩;rw[br];exact z1;intro z;rw[z,hm]at z1;have kk:=bz (Option.map Cell.kind) z1;cases kk
 ·by_cases hy:y=x
  ·obtain rfl:=hy.symm;rw[b8]at e;cases e;intro a' ha';obtain rfl:=dS (ha▸ha');exact⟨v,(iv.ok.led a _ hm).1,hn,mv.lv iv.ok (fun a vs z=>nl a _ vs z) hv,(fun z=>nomatch(J1▸z:false=true)),fun ω=>if_pos rfl⟩
  ·rw[cR hy]at e;refine mx.moves mv iv.ok kg (fun ω b u z=>?_) (fun a vs z=>nl a _ vs z) (iv.aW y fh e);rw[br];exact z;intro w;rw[w,hm]at z;cases z;exact hy rfl
 ·by_cases hb:b=a
  ·subst hb;obtain⟨u,w⟩:=iv.jP hc y b e;rw[hm]at w;cases w;exact⟨some v,if_pos rfl⟩
  ·obtain⟨u,w⟩:=iv.jP hc y b e;exact⟨u,Rw (br hb) w⟩
 ·refine gc.moves mv iv.ok (fun d m' z=>?_) (fun f a vs z=>nl a _ vs z) (iv.objs j o e1 e2);rw[br];exact z;intro w;rw[w,hm]at z;cases z
theorem Inv.G6{st:St}(iv:Inv g c st p s)(hm:p.led a=some ⟨T,.lst vs⟩)(hT:T≠ .frame)(hn:s'.heap.PlainList a vs'.toArray)(hs:Heap.SameBut a s.heap s'.heap)(hg:s'.gens=s.gens)(ho:s'.os=s.os)(names)(objs)(hx:∀y lv,look y names=some lv->(look y (c.names st)=some lv/\T≠ .nH y)\/ ∃m ds,p.led c.env.locals=some ⟨c.tag,.ns m⟩/\m (g.nm y)=some (.ref a)/\T= .nH y/\lv= .own ds/\ak g.w p.V p.h vs' ds)(hl:objs.length=st.objs.length)(EP:∀q,q=p.upd a ⟨T,.lst vs'⟩ s'.heap->af (aK c.envs) p q->∀j o,objs[j]?=some o->o.live=true->gc g q j o):
  ∃q,Inv g c (if c.comp then{st with cmp:=names,objs:=objs}else{st with loc:=names,objs:=objs}) q s'/\af (aK c.envs) p q:=by
 have k:=fun b o hb e=>hs.extBut b o hb (iv.heap▸e);have mv:af (aK c.envs) p (p.upd a ⟨T,.lst vs'⟩ s'.heap):=lG hm k (Kind.At.some (k:=.lst _) hn);have kg:=vL (cl':=⟨T,.lst vs'⟩) iv.ok hm (fun ω=>rfl) k hn
 have nl:∀b tag us,tag≠T->p.led b=some ⟨tag,.lst us⟩->(p.upd a ⟨T,.lst vs'⟩ s'.heap).led b=some ⟨tag,.lst us⟩:=fun b tag us ht e=>by
  rw[br];exact e;intro z;rw[z,hm]at e;cases e;exact ht rfl
 refine⟨_,⟨rfl,hg.trans iv.gens,ho.trans iv.os,kg,?_,?_,fun y fh e=>?_,fun hc y b e=>?_,?_,fun j o e1 e2=>?_⟩,mv⟩
 ·haveI z1:=iv.ns'.1
  refine⟨?_,fun y fh e=>?_⟩
  ·rw[br];exact z1;intro z;rw[z,hm]at z1;exact nomatch z1
  ·have e':=by
    cases hc:c.comp<;>simp only[Cx.names,hc,dZ,iw,eH]at e<;>exact e
   rcases hx y fh e' with⟨h1,h2⟩|⟨m',ds,h1,h2,h3,h4,h5⟩
   ·obtain⟨u,Ky⟩:=iv.ns'.2 y fh h1;exact⟨u,Ky.1,mv.lv iv.ok (fun b us z=>nl b _ us (fun w=>h2 w.symm) z) Ky.2⟩
   ·rw[z1]at h1;cases h1;subst h4 h3;exact⟨_,h2,a,vs',rfl,if_pos rfl,mv.jd iv.ok h5⟩
 ·haveI:=iv.emp
  cases hc:c.comp<;>simp only[hc,dZ,iw,eH]at this⊢ <;>exact this
 ·refine mx.moves mv iv.ok kg (fun ω b u z=>?_) (fun b us z=>nl b _ us (fun w=>hT w.symm) z) (iv.aW y fh (by cases hc:c.comp<;>simp only[hc,dZ,iw,eH]at e<;>exact e));rw[br];exact z;intro w;rw[w,hm]at z;exact nomatch z
 ·obtain⟨u,w⟩:=iv.jP hc y b e;refine⟨u,?_⟩;rw[br];exact w;intro z;rw[z,hm]at w;exact nomatch w
 ·cases hc:c.comp<;>simp only[dZ,iw,eH]<;>rw[hl]<;>exact iv.len
 ·refine EP _ rfl mv j o ?_ e2;cases hc:c.comp<;>simp only[hc,dZ,iw,eH]at e1<;>exact e1
end
section
theorem Ac{c:Cx}(co:c.Ok g ks n):(c.env.scope.kind== .class||(c.env.scope.kind== .module&&c.env.locals !=c.env.globals))=false:=Rw co.kind rfl
theorem qa{st:St}(go:g.Ok fA)(co:c.Ok g ks n)(iv:Inv g c st p s)(hk:look x ks=some .local)(hv:bw g p (.nH x) v lv)(names)(hx:∀y fh,look y names=some fh->(y=x/\fh=lv)\/(y≠x/\look y (c.names st)=some fh))(h:∀m q s',Inv g (c.at m) (if c.comp then{st with cmp:=names}else{st with loc:=names}) q s'->af (aK c.envs) p q->Q () s'):wpAny g.M A (storeName c.env (g.nm x) v) Q E s:=by
 obtain⟨m,z3⟩:=iv.ns;refine wpAny_storeName_local ((co.kindOf go.inj ..).trans (hk ..)) (Rw iv.heap ((iv.ok.led _ _ z3.1).2)) (fun h' hn hs=>?_) (Ac co);obtain⟨q,z5⟩:=Inv.setName (s':={s with heap:=h',toks:=s.toks+1}) go iv z3.1 hv hn hs rfl rfl names hx;exact h _ q _ z5.1 z5.2
theorem Qv{lv:LV}:∀y fh,look y (put x lv l)=some fh->(y=x/\fh=lv)\/(y≠x/\look y l=some fh):=fun y fh e=>by
 by_cases h:y=x
 ·subst h;rw[b8]at e;cases e;exact .inl ⟨rfl,rfl⟩
 ·rw[cR h]at e;exact .inr ⟨h,e⟩
theorem gP{st:St}(go:g.Ok fA)(co:c.Ok g ks n)(iv:Inv g c st p s)(hc:c.comp=false)(hk:look x ks=some .local)(hv:bw g p (.nH x) v lv)(h:∀m q s',Inv g (c.at m) {st with loc:=put x lv st.loc} q s'->af (aK c.envs) p q->Q () s'):wpAny g.M A (storeName c.env (g.nm x) v) Q E s:=by
 refine qa go co iv hk hv (put x lv st.loc) (fun y fh e=>?_) fun mm q s' i m=>h mm q s' ?_ m
 ·haveI:=Qv y fh e
  unfold Cx.names;refine Rw hc ?_;exact this
 ·rw[hc,aw (by decide)]at i;exact i
theorem DD{st:St}(go:g.Ok fA)(co:c.Ok g ks n)(iv:Inv g c st p s)(hc:c.comp=false)(hk:look x ks=some .cell)(hv:bw g p .frame v lv)(h:∀q s',Inv g c {st with aW:=put x lv st.aW} q s'->af (aK c.envs) p q->Q () s'):wpAny g.M A (storeName c.env (g.nm x) v) Q E s:=by
 obtain⟨a,ha⟩:=co.cells x hk;obtain⟨US,hm⟩:=iv.jP hc x a ha
 haveI EO:s.heap.IsCell a US:=Rw iv.heap ((iv.ok.led _ _ hm).2)
 refine wpAny_storeName_cell co.kind ((co.kindOf go.inj ..).trans (hk ..)) ha EO fun h' hn hs=>?_;obtain⟨q,z6⟩:=Inv.Qt (s':={s with heap:=h'}) iv hc ha hv hn hs rfl rfl;exact h q _ z6.1 z6.2
noncomputable def Ad(ks:List (Nat×NameKind)):MT->Bool
 |.cmp x _=>decide (look x ks=some .local)
 |_=>false
theorem eX(nm:Nat->Str)(env):∀ts:List MT,assignEach (qA nm ts) env=ts.map fun t=>(false,assign (toT nm t) env)
 | []=>rfl
 |t::ts=>by
  haveI:=eX nm env ts
  induction t using MT.casesOn<;>exact bz (List.cons _) this
theorem KJ(l:List MT)(f:MT->Value->Sem Unit):(l.map fun t=>(false,f t)).findIdx? (·.1)=none:=by
 induction l with
 |nil=>rfl
 |cons a l ih=>exact Rw c7 (Rw List.findIdx?_cons (Rw ih rfl))
theorem KL(l:List MT)(f:MT->Value->Sem Unit):(l.map fun t=>(false,f t)).map (·.2)=l.map f:=by
 induction l with
 |nil=>rfl
 |cons a l ih=>simp only[c7,c7,c7,ih]
theorem iO(y)(l1 l2:List (Nat×LV)):look y (l1++l2)=match look y l1 with|some v=>some v|none=>look y l2:=by
 induction l1 with
 |nil=>rfl
 |cons a l ih=>
  obtain⟨z,u⟩:=a;rw[FI,cu,cu];by_cases h:y=z
  ·exact Rw (if_pos h) (Rw (if_pos h) rfl)
  ·exact Rw (aw h) (Rw (aw h) ih)
theorem uw{u:LV}(h2:y≠x)(h1:look y pre=none):look y (pre++ [(x,u)])=none:=by
 rw[iO,h1];simp[dh,cu,h2]
set_option tactic.hygienic true in
theorem DE{st:St}(go:g.Ok fA)(co:c.Ok g ks n)(hc:c.comp=true)(hh:A.handled=none)(iv:Inv g c st p s)(hr:aU g.w p.V p.h v d)(hb:mn t d=some b)(hok:Ad ks t=true)(h:∀m q s',Inv g (c.at m) {st with cmp:=b++st.cmp} q s'->af (aK c.envs) p q->Q () s'):wpAny g.M A (assign (toT g.nm t) c.env v) Q E s:=by
 induction t using MT.casesOn with
 |cmp x pos=>
  cases hb;refine tV (qa (lv:=.dat d) go co iv (bR hok) hr ((x,.dat d)::st.cmp) (fun y fh e=>?_) fun mm q s' i m=>h mm q s' ?_ m)
  ·have hn:c.names st=st.cmp:=by unfold Cx.names;refine Rw hc ?_;rfl
   refine Rw hn ?_;simp only[dh,cu]at e;split at e
   ·rename_i hy;cases e;exact .inl ⟨hy,rfl⟩
   ·rename_i hy;exact .inr ⟨hy,e⟩
  ·rw[hc,if_pos rfl]at i;exact i
 |_=>cases hok
end
theorem Ae:∀(names:List (Str×NameKind)) (cs:List (Str×Addr)),(∀x∈names,x.2= .free->∃a,env.cells.lookup x.1=some a)->(∀y∈cs,env.cells.lookup y.1=some y.2)->
  ∃cl,(forIn names cs fun(x:Str×NameKind) (r:List (Str×Addr))=>(match x with
     |(name,kind)=>
      if(kind==NameKind.free)=true then do
       let a<-cellOf env name
       pure (ForInStep.yield ((name,a)::r))
      else pure (ForInStep.yield r):Sem (ForInStep (List (Str×Addr)))))=pure cl/\(∀y∈cl,env.cells.lookup y.1=some y.2)/\(∀y∈cs,y∈cl)/\ ∀x∈names,x.2= .free->∃a,(x.1,a)∈cl:=by
 intro zV
 induction zV with
 |nil=>
  exact @fun cs ω hc=>⟨cs,rfl,hc,fun ω h=>h,fun ω h=>nomatch h⟩
 |cons zH r zI=>
  obtain⟨x,k⟩:=zH;exact @fun cs hn hc=>by
   by_cases hk:k= .free
   ·subst hk;obtain⟨a,ha⟩:=hn _ (.head _) rfl
    obtain⟨cl,e,h1,l5⟩:=zI ((x,a)::cs) (fun y hy=>hn y (.tail _ hy)) (fun y hy=>by
     rcases cL.mp hy with rfl|hy
     ·exact ha
     ·exact hc y hy)
    haveI h2:=l5.1
    haveI h3:=l5.2
    refine⟨cl,?_,h1,fun y hy=>h2 y (.tail _ hy),fun y hy hf=>?_⟩
    ·rw[t7]
     haveI hcell:cellOf env x=pure a:=by unfold cellOf;rw[ha]
     simp only[rl,dZ,hcell,pure_bind];exact e
    ·rcases cL.mp hy with rfl|hy
     ·exact⟨a,h2 _ (.head _)⟩
     ·exact h3 y hy hf
   ·refine Bc fun au=>?_;obtain⟨cl,e,h1,h2,h3⟩:=zI cs (fun y hy=>hn y (.tail _ hy)) hc;refine au ?_;refine⟨cl,?_,h1,h2,fun y hy hf=>?_⟩
    ·rw[t7]
     haveI hb:(k==NameKind.free)=false:=by simpa using hk
     simp only[hb,iw,eH,pure_bind];exact e
    ·rcases cL.mp hy with rfl|hy
     ·exact(hk hf).elim
     ·exact h3 y hy hf
theorem tF{cl:List (Str×Addr)}:∀{a:Addr},(x,a)∈cl->∃a',cl.lookup x=some a'/\(x,a')∈cl:=by
 induction cl with
 |nil=>intro a h;cases h
 |cons y l ih=>
  intro a h;obtain⟨z,b⟩:=y;simp only[vh]
  cases e:x==z with
  |true=>exact(fY.mp e)▸⟨b,rfl,.head _⟩
  |false=>
   rcases cL.mp h with h|h
   ·cases h;exact Nf e (rl ..)
   ·obtain⟨a',h1,h2⟩:=ih h;exact⟨a',h1,.tail _ h2⟩
theorem mem_of_lookup{cl:List (Str×Addr)}(h:cl.lookup x=some a):(x,a)∈cl:=by
 induction cl with
 |nil=>cases h
 |cons y l ih=>
  rw[vh]at h
  cases e:x==y.1 with
  |true=>rw[e]at h;cases h;exact Rw (fY.mp e) (.head _)
  |false=>rw[e]at h;exact .tail _ (ih h)
theorem Af(hn:∀x∈scope.names,x.2= .free->∃a,env.cells.lookup x.1=some a):
  ∃cl,closureFor scope env=pure cl/\(∀x a,cl.lookup x=some a->env.cells.lookup x=some a)/\ ∀x∈scope.names,x.2= .free->∃a,cl.lookup x.1=some a:=by
 refine Bc fun au=>?_;obtain⟨cl,z3⟩:=Ae scope.names [] hn fun ω h=>nomatch h
 refine au ?_;refine⟨cl,?_,fun x a h=>z3.2.1 _ (mem_of_lookup h),fun x hx hf=>?_⟩
 ·unfold closureFor;dsimp only;refine Rw z3.1 ?_;rfl
 ·haveI ha:=(Cs (z3.2.2.2 x hx hf))
  obtain⟨a',Cb⟩:=tF ha;exact⟨a',Cb.1⟩
noncomputable def bN(ks:List (Nat×NameKind)):List (Nat×NameKind):=ks.map fun p=>if p.2= .free then(p.1,.cell)else p
set_option tactic.hygienic true in
theorem Ag:∀{ks:List (Nat×NameKind)},look x (bN ks)=some .cell->(∀p∈ks,p.2≠ .cell)->(x,.free)∈ks:=by
 intro zV
 induction zV with
 |nil=>
  exact @fun h ω=>by cases h
 |cons zH r zI=>
  obtain⟨y,k⟩:=zH;exact @fun h hc=>by
   by_cases hk:k= .free
   ·subst hk;simp only[bN,c7,dZ,dh,cu]at h;split at h
    ·rename_i hx;exact Rw hx (.head _)
    ·exact .tail _ (zI h fun p hp=>hc p (.tail _ hp))
   ·simp only[bN,c7,hk,eH,dh,cu]at h;split at h
    ·cases h;exact absurd rfl (hc _ (.head _))
    ·exact .tail _ (zI h fun p hp=>hc p (.tail _ hp))
section
noncomputable def Cx.inComp(c:Cx)(scope:Scope)(cl:List (Str×Addr))(C:Addr):Cx:=⟨c.A,compEnvC scope cl C c.env,true,c.envs,fun ω=>none⟩
theorem KN{c:Cx}(go:g.Ok fA)(co:c.Ok g ks n)(hf:∀x∈ks',x.2= .free->look x.1 ks=some .cell)(hc:∀p∈ks',p.2≠ .cell)(xW:∀x∈ks',x.2= .free->∃a,cl.lookup (g.nm x.1)=some a):
  (c.inComp (bh g.nm ks' []) cl C).Ok g (bN ks') n where
 frames:=co.frames
 handled:=co.handled
 depth:=co.depth
 units:=co.units
 globals:=co.globals
 builtins:=co.builtins
 kind:=rfl
 names:=by
  show(bh g.nm ks' []).names.map _=_
  delta bh bN
  simp only[qy,qy];refine Fl fun x hx=>?_;obtain⟨y,k⟩:=x;by_cases hk:k= .free
  ·subst hk;simp only[Function.comp_apply,rl,co.kind,co.kindOf go.inj,hf _ hx rfl,Om,dZ]
  ·have hb:(k==NameKind.free)=false:=by simpa using hk
   simp only[Function.comp_apply,hb,pO,iw,eH,hk]
 cells:=fun x hx=>xW (x,.free) (Ag hx hc) rfl
 frame:=by
  letI e0:=Ce co.frame
  letI r:=Ce (Cs co.frame)
  haveI o7:=(Cs (Cs co.frame))
  haveI h1:=o7.1
  haveI h2:=o7.2.1
  exact⟨e0,r,h1,h2,(fun z=>by injection z)⟩
set_option tactic.hygienic true in
theorem Ah{st:St}{D:Addr}(iv:Inv g c st q s)(hd:st.aW.all (fun x=>dj x.2)=true)(xW:∀x a,cl.lookup x=some a->c.env.cells.lookup x=some a)(k:∀b o,q.h.get? b=some o->s'.heap.get? b=some o)(hC:q.h.get? C=none)(hD:q.h.get? D=none)(hCD:C≠D)(nC:s'.heap.Ns C fun ω=>none)(nD:s'.heap.PlainList D #[])(hg:s'.gens=s.gens)(ho:s'.os=s.os):
  Inv g (c.inComp (bh g.nm ks' []) cl C) ⟨[],st.aW,[],[]⟩ ⟨fun a=>q.V a\/a=C\/a=D,fun a=>if a=C then some ⟨.comp,.ns fun ω=>none⟩else none,[],s'.heap⟩ s':=by
 haveI bn:∀a,q.h.get? a=none->g.base.get? a=none:=fun a e=>by
  generalize z:g.base.get? a=zV
  induction zV using Oc with
  |none=>rfl
  |some o=>exact Ns e (iv.ok.stays a o z)
 refine⟨rfl,hg.trans iv.gens,ho.trans iv.os,⟨fun b o e=>k b o (iv.ok.stays b o e),fun a v=>?_,fun a v=>?_,fun a cl' e=>?_,fun a cl' e z=>?_,fun a f=>.inl (iv.ok.de a f),iv.ok.f9.of_keeps fun b o e ω=>⟨o,k b o e,rfl⟩⟩,⟨if_pos rfl,(fun x lv e=>nomatch e)⟩,rfl,fun x lv e a ha=>?_,(fun z=>nomatch z),rfl,(fun j o e=>nomatch e)⟩
 ·rcases v with v|rfl|rfl
  ·exact iv.ok.low a v
  ·exact bn _ hC
  ·exact bn _ hD
 ·rcases v with v|rfl|rfl
  ·obtain⟨o,e⟩:=iv.ok.all a v;exact⟨o,k a o e⟩
  ·exact Kind.At.some (k:=.ns _) nC
  ·obtain⟨m,e⟩:=nD;exact⟨_,e⟩
 ·dsimp only at e;split at e
  ·rename_i h;obtain rfl:=h.symm;cases e;exact⟨.inr (.inl rfl),nC⟩
  ·cases e
 ·dsimp only at e;split at e
  ·cases e;cases z
  ·cases e
 ·obtain⟨u,Qw⟩:=iv.aW x lv e a (xW _ _ ha)
  haveI Zv:=by
   haveI:∀l:List (Nat×LV),l.all (fun x=>dj x.2)=true->look x l=some lv->∃d,lv= .dat d:=by
    intro l
    induction l with
    |nil=>intro _ h;cases h
    |cons y r ih=>
     intro h1 h2;obtain⟨z,u⟩:=y;rw[ny,dg]at h1;simp only[dh,cu]at h2;split at h2
     ·cases(h2);have h11:=h1.1;induction lv<;>first|exact⟨_,rfl⟩|cases h11
     ·exact ih h1.2 h2
   exact this _ hd e
  obtain⟨d,rfl⟩:=Zv;have Xy:a≠C:=fun z=>by obtain⟨o,w,_⟩:=Qw.2.1;exact Ns hC (z▸w)
  refine⟨u,.inl Qw.1,Qw.2.1.keeps k,?_,fun ω=>aw Xy,nofun⟩;refine aU.imp (fun b o nv e=>⟨fun z=>?_,k b o e⟩) Qw.2.2.1;rcases z with z|rfl|rfl
  ·exact nv z
  ·exact Ns hC e
  ·exact Ns hD e
structure CI(g:Gl)(fs:List Addr)(wr:List Addr)(q:Snap)(D:Addr)(i:Snap)(s:Shared):Prop where
 qt:Quiet (fs) wr q (fun a=>i.V a/\a≠D) i.h
 ext:∀b o,q.h.get? b=some o->∃o',i.h.get? b=some o'
 new:∀b cl,i.led b=some cl->q.h.get? b=none
 VD:i.V D
 Ai:i.led D=none
 hD:q.h.get? D=none
 bD:g.base.get? D=none
 fD:D∉fs
theorem CI.moves{c:Cx}{D:Addr}(x:CI g (aK c.envs) wr q D i s)(ai:∀a,i.V a->∃o,i.h.get? a=some o)(aj:∀a,j.V a->∃o,j.h.get? a=some o)(aq:∀a,q.V a->∃o,q.h.get? a=some o)(m:af (aK c.envs) i j):CI g (aK c.envs) wr q D j s':=by
 have nl:∀b o,q.h.get? b=some o->i.led b=none:=fun b o e=>by
  generalize z:i.led b=zV
  induction zV using Oc with
  |none=>rfl
  |some cl=>exact Ns (x.new b cl z) e
 haveI eD:=(Cs (ai D x.VD))
 refine⟨⟨fun b o e f w=>m.keep b o (x.qt.keep b o e f w) (nl b o e) f,fun b o e w=>?_,fun a v=>?_,fun a v=>?_,fun a v=>aj a v.1⟩,fun b o e=>(x.ext b o e).elim fun o' z=>m.ext b o' z,fun b cl e=>?_,m.cls D x.VD x.Ai,?_,x.hD,x.bD,x.fD⟩
 ·obtain⟨sl,z⟩:=x.qt.de b o e w;obtain⟨sl',z'⟩:=m.de b _ z (nl b o e);exact⟨sl',z'⟩
 ·rcases m.qC a v.1 with y|y
  ·exact x.qt.qC a ⟨y,v.2⟩
  ·refine .inr ?_;generalize z:q.h.get? a=zV
   induction zV using Oc with
   |none=>rfl
   |some o=>obtain⟨o',w⟩:=x.ext a o z;exact Ns y w
 ·obtain⟨o,e⟩:=aq a v;exact⟨m.cls a (x.qt.cls a v).1 (nl a o e),(x.qt.cls a v).2⟩
 ·rcases m.rO b cl e with y|y
  ·generalize z:i.led b=zV
   induction zV using Oc with
   |none=>exact(y z).elim
   |some cl'=>exact x.new b cl' z
  ·generalize z:q.h.get? b=zV
   induction zV using Oc with
   |none=>rfl
   |some o=>obtain⟨o',w⟩:=x.ext b o z;exact Ns y w
 ·generalize z:j.led D=zV
  induction zV using Oc with
  |none=>rfl
  |some cl=>
   rcases m.rO D cl z with y|y
   ·exact absurd x.Ai y
   ·exact Ns y eD
theorem CI.alter{c:Cx}{D:Addr}(x:CI g (aK c.envs) wr q D i s)(k:∀b o,b∉D::wr->i.h.get? b=some o->h.get? b=some o)(ex:∀b o,i.h.get? b=some o->∃o',h.get? b=some o'):CI g (aK c.envs) wr q D {i with h:=h} s':=by
 have nd:∀b o,q.h.get? b=some o->b∉wr->b∉D::wr:=fun b o e w z=>by
  rcases cL.mp z with rfl|z
  ·exact Ns x.hD e
  ·exact w z
 refine⟨⟨fun b o e f w=>k b o (nd b o e w) (x.qt.keep b o e f w),fun b o e w=>?_,x.qt.qC,x.qt.cls,fun a v=>let⟨o,e⟩:=x.qt.all a v;ex a o e⟩,fun b o e=>let⟨o',z⟩:=x.ext b o e;ex b o' z,x.new,x.VD,x.Ai,x.hD,x.bD,x.fD⟩
 letI sl:=Ce (x.qt.de b o e w)
 haveI z:=(Cs (x.qt.de b o e w))
 exact⟨sl,k b _ (nd b o e w) z⟩
end
section
theorem Later.trans(x:Later src V h V' h')(y:Later src V' h' V'' Zw):Later src V h V'' Zw:=
 ⟨y.1,fun a o q e=>by
  have z:=x.2 a o q e;have z2:=y.2 a o (by rcases q with q|q;exact .inl (z.1 q);exact .inr q) z.2
  exact⟨fun nv=>z2.1 (z.1 nv),z2.2⟩⟩
theorem Later.refl(al:jv V h):Later src V h V h:=⟨al,fun ω ω ω e=>⟨fun x=>x,e⟩⟩
theorem jw(x:rR g A src wr I ds V h)(L:Later src V h V' h'):rR g A src wr I ds V' h':=by
 induction ds using Lc with
 |nil=>exact fun s V2 L2=>x s V2 (L.trans L2)
 |cons d ds=>exact fun s V2 L2=>x s V2 (L.trans L2)
theorem xX(env):∀es:List Expr,(forIn es false fun c r=>if r=true then do let ok<-isTrue c env (eval c env);pure (ForInStep.yield ok)else pure (ForInStep.yield r):Sem Bool)=pure false
 | []=>rfl
 |e::es=>by
  exact(t7 ..).trans (xX env es)
theorem G7{call:Call}:∀(ms:List ME),(∀m∈ms,aA g c (aB g.nm m) (ev P call m))->∀st p s,Inv g c st p s->mF .And (bS P call ms) st≠ .bad->
  wpAny g.M c.A (forIn (ba g.nm ms) true fun e r=>if r=true then do let ok<-isTrue e c.env (eval e c.env);pure (ForInStep.yield ok)else pure (ForInStep.yield r)) (mJ g c p Qn (mF .And (bS P call ms) st)) (je g c p (mF .And (bS P call ms) st)) s:=by
 intro zV
 induction zV with
 |nil=>
  exact @fun ω st p s iv ω=>bY ⟨_,st,p,rfl,af.refl _ _,iv,rfl⟩
 |cons m ms zI=>
  exact @fun h st p s iv hb=>by
   show wpAny _ _ (forIn (aB g.nm m::ba g.nm ms) _ _) _ _ _;rw[t7];refine aF (aF (step ((h m (.head _)).gw st p s iv (ah hb)) iv.ok (af.refl _ _) (fun x aE e=>ar e) fun a st1 q1 s1 va e1 m1 ω i1 r1=>bY ?_));obtain rfl:=(r1).symm
   induction a with
   |false=>
    dsimp only;rw[xX];exact bY ⟨_,st1,q1,aa e1,m1,i1,rfl⟩
   |true=>exact bA (zI (fun m hm=>h m (.tail _ hm)) st1 q1 s1 i1 (fun z=>hb ((aa e1).trans z))) (fun v s2 z=>z.eS iv.ok m1 (aa e1)) fun v s2 z=>z.eS iv.ok m1 (aa e1)
theorem xY:∀l:List (Nat×LV),l.all (fun x=>dj x.2)=true->look x l=some lv->∃d,lv= .dat d:=by
 intro l
 induction l with
 |nil=>intro _ h;cases h
 |cons y r ih=>
  intro h1 h2;obtain⟨z,u⟩:=y;simp only[ny,dg]at h1;simp only[dh,cu]at h2;split at h2
  ·haveI h2:=dS h2
   subst h2
   induction u with
   |dat d=>exact⟨d,rfl⟩
   |_=>exact absurd h1.1 cO
  ·exact ih h1.2 h2
theorem Inv.reset{c:Cx}{aW:List (Nat×LV)}(hc:c.comp=true)(hd:aW.all (fun x=>dj x.2)=true)(hcd:cmp.all (fun x=>dj x.2)=true)(KO:Inv g (c.at m1) ⟨[],aW,cmp,[]⟩ p s)(iv:Inv g (c.at m1) Pa j s')(m:af (aK c.envs) p j)(ho:Pa.objs.isEmpty=true):Inv g (c.at m1) ⟨[],aW,cmp,[]⟩ j s':=by
 refine⟨iv.heap,iv.gens,iv.os,iv.ok,⟨iv.ns'.1,fun x lv e=>?_⟩,Rw (show(c.at m1).comp=true from hc) rfl,fun x lv e=>?_,fun z=>(nomatch(hc▸z:true=false)),?_,(fun k o e=>nomatch e)⟩
 ·obtain⟨v,h1,h2⟩:=KO.ns'.2 x lv e
  have e:=by
   delta Cx.names at e
   exact(show(c.at m1).comp=true from hc)▸e
  obtain⟨d,rfl⟩:=xY cmp hcd e;exact⟨v,h1,m.rep KO.ok h2⟩
 ·intro a f1;refine Bc fun au=>?_;obtain⟨v,l5⟩:=KO.aW x lv e a f1;have h:=l5.2.2.2.1 hc;obtain⟨d,rfl⟩:=xY aW hd e;refine au ?_;refine⟨v,m.cls a l5.1 h,IsCell.slots l5.2.1 fun o e=>m.de a o e h,m.rep KO.ok l5.2.2.1,fun ω=>?_,fun z=>nomatch(hc▸z:true=false)⟩
  haveI e:=(Cs l5.2.1).1
  generalize w:j.led a=zV
  induction zV using Oc with
  |none=>rfl
  |some cl=>
   rcases m.rO a cl w with y|y
   ·exact(y h).elim
   ·exact Ns y e
 ·refine Rl iv.len ?_;generalize z:Pa.objs=zV
  induction zV using Lc with
  |nil=>rfl
  |cons _ _=>rw[z]at ho;cases ho
set_option tactic.hygienic true in
theorem G8(e:look x cmp=some lv):∀{bs:List (Nat×LV)},(∀y∈bs,look y.1 cmp=none)->look x (bs++cmp)=some lv:=by
 intro zV
 induction zV with
 |nil=>
  exact @fun ω=>e
 |cons zH bs zI=>
  obtain⟨y,u⟩:=zH;exact @fun h=>by
   show look x ((y,u)::(bs++cmp))=_;rw[cu];split
   ·rename_i hy
    haveI:=h (y,u) (.head _)
    rw[show y=x from hy.symm]at this;exact Ns this e
   ·exact zI fun z hz=>h z (.tail _ hz)
theorem Inv.weak{c:Cx}{aW:List (Nat×LV)}(hc:c.comp=true)(h:∀y∈bs,look y.1 cmp=none)(iv:Inv g (c.at m1) ⟨[],aW,bs++cmp,[]⟩ j s'):Inv g (c.at m1) ⟨[],aW,cmp,[]⟩ j s':=by
 have hn:∀cm:List (Nat×LV),(c.at m1).names ⟨[],aW,cm,[]⟩=cm:=fun cm=>by unfold Cx.names;rw[show(c.at m1).comp=true from hc];rfl
 refine⟨iv.heap,iv.gens,iv.os,iv.ok,⟨iv.ns'.1,fun x lv e=>iv.ns'.2 x lv ?_⟩,Rw (show(c.at m1).comp=true from hc) rfl,iv.aW,iv.jP,iv.len,iv.objs⟩;rw[hn]at e⊢;exact G8 e h
structure RI(g:Gl)(fs:List Addr)(src wr:List Addr)(i:Snap):Prop where
 iA:∀b∈wr,g.base.get? b=none/\ ¬i.V b/\ ∃o vs,i.h.get? b=some o/\o.data= .fields vs
 xZ:∀a∈src,i.led a=none/\a∉fs
theorem RI.moves{c:Cx}(x:RI g (aK c.envs) src wr i)(ok:i.Ok g.base c.envs)(m:af (aK c.envs) i j)(hs:∀a∈src,∃o,i.h.get? a=some o):RI g (aK c.envs) src wr j where
 iA:=fun b hb=>by
  refine Bc fun au=>?_;obtain⟨h1,h2,o,vs,z3⟩:=x.iA b hb;apply au
  haveI:=m.imp ok b o h2 z3.1
  exact⟨h1,this.1,o,vs,this.2,z3.2⟩
 xZ:=fun a ha=>by
  haveI e:=(Cs (hs a ha))
  refine⟨?_,(x.xZ a ha).2⟩;generalize z:j.led a=zV
  induction zV using Oc with
  |none=>rfl
  |some cl=>
   rcases m.rO a cl z with y|y
   ·exact absurd (x.xZ a ha).1 y
   ·exact Ns y e
theorem RI.later{c:Cx}(x:RI g (aK c.envs) src wr i)(ok:i.Ok g.base c.envs)(aj:jv j.V j.h)(m:af (aK c.envs) i j):Later src i.V i.h j.V j.h:=
 ⟨aj,fun a o q e=>by
  rcases q with q|q
  ·have:=m.imp ok a o q e;exact⟨fun ω=>this.1,this.2⟩
  ·have:=m.keep a o e (x.xZ a q).1 (x.xZ a q).2
   exact⟨fun nv=>(m.imp ok a o nv e).1,this⟩⟩
theorem Aj(h:iH (x::r)=some ds):∃a b,x=some a/\iH r=some b/\ds=a++b:=by
 induction x with
 |none=>cases h
 |some a=>
  obtain⟨b,e,rfl⟩:=iu.mp h;exact⟨a,b,rfl,e,rfl⟩
theorem Inv.UT{st:St}(iv:Inv g c st i s)(x:RI g (aK c.envs) src wr i)(k:∀b o,b∉wr->s.heap.get? b=some o->s'.heap.get? b=some o)(f:∀b∈wr,∃o vs,s'.heap.get? b=some o/\o.data= .fields vs)(hg:s'.gens=s.gens)(ho:s'.os=s.os):
  Inv g c st {i with h:=s'.heap} s'/\RI g (aK c.envs) src wr {i with h:=s'.heap}:=
 ⟨iv.alter (X:=wr) (fun b o hb e=>k b o hb (Rw iv.heap e)) (fun b hb=>⟨(x.iA b hb).1,.inl (x.iA b hb).2⟩) hg ho,
  ⟨fun b hb=>⟨(x.iA b hb).1,(x.iA b hb).2.1,f b hb⟩,x.xZ⟩⟩
def Qx(F:St->St->Option (List D))(t:MT)(ifs:List Ev)(items:List D)(st:St):Option (List D):=iH (items.map fun d=>match mn t d with
   |none=>none
   |some b=>
    if b.all (fun x=>(look x.1 st.cmp).isNone)=false then none else
    match mF .And ifs {st with cmp:=b++st.cmp}with
    |.ok false st2=>if st2.objs.isEmpty then some []else none
    |.ok true st2=>F {st with cmp:=b++st.cmp} st2
    |_=>none)
def F0(elt:Ev)(st1 st2:St):Option (List D):=match elt.dat st2 with
 |.ok v gB=>if gB.objs.isEmpty then some [v]else none
 |_=>none
def F1(elt:Ev)(g:Gen)(st1 st2:St):Option (List D):=match g.it.it st2 with
 |.ok (its,false) gB=>if gB.objs.isEmpty then cv elt [] g.t g.ifs its st1 else none
 |_=>none
theorem Zx(elt)(t)(ifs)(items)(st):cv elt [] t ifs items st=Qx (F0 elt) t ifs items st:=rfl
theorem go1(elt)(g)(t)(ifs)(items)(st):cv elt [g] t ifs items st=Qx (F1 elt g) t ifs items st:=rfl
inductive Pb(F:St->St->Option (List D))(t:MT)(ifs:List Ev)(d:D)(items ds:List D)(aW cmp:List (Nat×LV)):Prop
 |mk(bs:List (Nat×LV))(a b:List D)(bb:Bool)(st2:St)(h1:mn t d=some bs)(h2:∀y∈bs,look y.1 cmp=none)(h3:Qx F t ifs items ⟨[],aW,cmp,[]⟩=some b)(h4:a++b=ds)(h5:mF .And ifs ⟨[],aW,bs++cmp,[]⟩= .ok bb st2)
  (h6:if bb then F ⟨[],aW,bs++cmp,[]⟩ st2=some a else st2.objs.isEmpty=true/\ []=a):Pb F t ifs d items ds aW cmp
theorem G9(h:Qx F t ifs (d::items) ⟨[],aW,cmp,[]⟩=some ds):Pb F t ifs d items ds aW cmp:=by
 refine Bc fun au=>?_;obtain⟨a,b,ha,hb,rfl⟩:=Aj h;dsimp only at ha;generalize Pc:mn t d=zV
 induction zV using Oc with
 |none=>rw[Pc]at ha;cases ha
 |some bs=>
  replace ha:=Pc▸ha
  haveI hn:=(nJ ha).1
  have ha:=(nJ ha).2
  have hn:=fun y hy=>by
   rw[NU]at hn;exact E4.mp (jL.mp hn y hy)
  generalize hT:mF .And ifs ⟨[],aW,bs++cmp,[]⟩=zV
  induction zV using Res.casesOn with
  |bad=>rw[hT]at ha;cases ha
  |exc x st2=>rw[hT]at ha;cases ha
  |ok bb st2=>
   rw[hT]at ha
   induction bb with
   |false=>
    haveI ha:=bq ha
    exact au ⟨bs,a,b,false,st2,Pc,hn,hb,rfl,hT,ha.1,dS ha.2⟩
   |true=>exact au ⟨bs,a,b,true,st2,Pc,hn,hb,rfl,hT,ha⟩
theorem ux(t:MT)(d:D)(bs:List (Nat×LV))(h:mn t d=some bs):bs.all (fun x=>dj x.2)=true:=by
 induction t using MT.casesOn with
 |cmp x p=>cases h;rfl
 |_=>exact ax h
structure CB(g:Gl)(c:Cx)(q:Snap)(L:Addr)(wA src wr:List Addr)(J:Snap->Prop)(I:Addr)(items:List D)(i:Snap)(s:Shared)(vs:List Value)(acc:List D):Prop where
 ci:CI g (aK c.envs) wA q L i s
 ri:RI g (aK c.envs) src wr i
 hs:∀a∈src,∃o,i.h.get? a=some o
 l:i.h.PlainList L vs.toArray
 r:ak g.w i.V i.h vs acc
 j:J i
 it:rR g c.A src wr I items i.V i.h
structure Qy(g:Gl)(c:Cx)(L:Addr)(wr:List Addr)(J:Snap->Prop):Prop where
 mv:∀i j,J i->i.Ok g.base c.envs->j.Ok g.base c.envs->af (aK c.envs) i j->J j
 wr:∀i h,J i->(∀b o,b∉wr->i.h.get? b=some o->h.get? b=some o)->(∀a,i.V a->∃o,h.get? a=some o)->J {i with h:=h}
 ls:∀i h,J i->i.V L->(∀b o,b≠L->i.h.get? b=some o->h.get? b=some o)->(∀a,i.V a->∃o,h.get? a=some o)->J {i with h:=h}
section
theorem CB.moves(hJ:Qy g c L wr J)(aq:∀a,q.V a->∃o,q.h.get? a=some o)(x:CB g c q L wA src wr J I items i s vs acc)(UU:i.Ok g.base c.envs)(TV:i'.Ok g.base c.envs)(m:af (aK c.envs) i i'):CB g c q L wA src wr J I items i' s' vs acc where
 ci:=x.ci.moves UU.all TV.all aq m
 ri:=x.ri.moves UU m x.hs
 hs:=fun a ha=>(x.hs a ha).elim fun o e=>m.ext a o e
 l:=x.l.at fun o e=>m.keep L o e x.ci.Ai x.ci.fD
 r:=m.jd UU x.r
 j:=hJ.mv i i' x.j UU TV m
 it:=jw x.it (x.ri.later UU TV.all m)
theorem CB.append{st:St}(hJ:Qy g c L wr J)(Ha:L∉src)(x:CB g c q L wA src wr J I items i s vs acc)(iv:Inv g (c.at m1) st i s)(hw:aU g.w i.V i.h wv w)(UW:h5.PlainList L (vs.toArray.push wv))(Zy:Heap.SameBut L s.heap h5):
  Inv g (c.at m1) st {i with h:=h5} {s with heap:=h5}/\CB g c q L wA src wr J I items {i with h:=h5} {s with heap:=h5} (vs++ [wv]) (acc++ [w]):=by
 have k:=fun b o hb e=>Zy.extBut b o hb (Rw iv.heap e)
 have hex:∀b o,i.h.get? b=some o->∃o',h5.get? b=some o':=fun b o e=>by
  by_cases hbL:b=L
  ·obtain rfl:=hbL.symm;obtain⟨m,z⟩:=UW;exact⟨_,z⟩
  ·exact⟨o,k b o hbL e⟩
 haveI i5:=iv.alter (s':={s with heap:=h5}) (X:=[L]) (fun b o hb e=>k b o (fun z=>hb (z▸(.head _))) e) (fun b hb=>by
  rw[dp]at hb;obtain rfl:=hb.symm;refine⟨x.ci.bD,.inr ⟨x.ci.VD,x.ci.Ai,x.ci.fD,?_,?_⟩⟩
  ·obtain⟨m,z⟩:=UW;exact⟨_,z⟩
  ·obtain⟨m,z⟩:=x.l
   exact⟨_,z,fun ω w=>by cases w⟩) rfl rfl
 have im:∀a o,¬i.V a->i.h.get? a=some o->¬i.V a/\h5.get? a=some o:=fun a o nv e=>⟨nv,k a o (fun z=>nv (z▸x.ci.VD)) e⟩;refine⟨i5,x.ci.alter (fun b o hb e=>k b o (fun z=>hb (z▸ .head _)) e) hex,⟨fun b hb=>?_,x.ri.xZ⟩,fun a ha=>let⟨o,e⟩:=x.hs a ha;hex a o e,by simpa using UW,(x.r.imp im).append (ak.one (hw.imp im)),hJ.ls i h5 x.j x.ci.VD k i5.ok.all,jw x.it ⟨i5.ok.all,fun a o q e=>⟨fun x=>x,k a o (fun z=>?_) e⟩⟩⟩
 ·refine Bc fun au=>?_;obtain⟨h1,h2,o,us,B7⟩:=x.ri.iA b hb;exact au ⟨h1,h2,o,us,(im b o h2 B7.1).2,B7.2⟩
 ·rcases q with q|q
  ·exact q (z▸x.ci.VD)
  ·exact Ha (z▸q)
end
def Hb(g:Gl)(c:Cx)(q:Snap)(L:Addr)(wA src wr:List Addr)(J:Snap->Prop)(I:Addr)(aW cmp:List (Nat×LV))(F:St->St->Option (List D))(M:Sem Unit):Prop:=
 ∀{bs:List (Nat×LV)} {mm:Str->Option Value} {st2:St} {i0 i:Snap} {s0 s:Shared} {vs:List Value} {acc a items:List D} (Q:Shared->Prop) (E:Value->Shared->Prop),bs.all (fun x=>dj x.2)=true->Inv g (c.at mm) st2 i s->Inv g (c.at mm) ⟨[],aW,bs++cmp,[]⟩ i0 s0->af (aK c.envs) i0 i->CB g c q L wA src wr J I items i s vs acc->F ⟨[],aW,bs++cmp,[]⟩ st2=some a->acc.length+a.length<=lim->
  (∀m3 i3 s3 vs3,Inv g (c.at m3) ⟨[],aW,bs++cmp,[]⟩ i3 s3->CB g c q L wA src wr J I items i3 s3 vs3 (acc++a)->Q s3)->wpAny g.M c.A M (fun ω s3=>Q s3) E s
theorem ya{call:Call}(hc:c.comp=true)(hd:aW.all (fun x=>dj x.2)=true)(hcd:cmp.all (fun x=>dj x.2)=true)(hJ:Qy g c L wr J)(Ha:L∉src)(aq:∀a,q.V a->∃o,q.h.get? a=some o)(he:∀m,aA g (c.at m) (aB g.nm elt) (ev P call elt)):
  Hb g c q L wA src wr J I aW cmp (F0 (ev P call elt)) (do let _<-PySem.call (.builtin "list.append") [.ref L,<-eval (aB g.nm elt) c.env]):=by
 intro bs mm st2 i0 i s0 s vs acc a items Q E hb iv J2 mv x hF hlen h;refine Bc fun au=>?_;generalize hE:(ev P call elt).dat st2=zV
 induction zV using Res.casesOn with
 |bad=>delta F0 at hF;rw[hE]at hF;exact ax hF
 |exc y gB=>delta F0 at hF;rw[hE]at hF;exact ax hF
 |ok w gB=>
  delta F0 at hF
  rw[hE]at hF;obtain⟨ho,rfl⟩:gB.objs.isEmpty=true/\ [w]=a:=⟨(bq hF).1,dS (bq hF).2⟩;refine au ?_;refine aF (bA ((he mm).val.dat st2 i s iv (Rw hE (fun z=>by injection z))) (fun wv s4 z=>?_) fun e s4 z=>?_)
  ·obtain⟨w',Zz,q4,e4,m4,i4,r4⟩:=z;rw[hE]at e4;cases e4;have x4:=x.moves (s':=s4) hJ aq iv.ok i4.ok m4
   haveI hsz:vs.toArray.size<=sizeLine:=by
    exact Rw qx (Rw x.r.length (gb (pR hlen)))
   refine aF (Fe (Rw i4.heap x4.l) (fun h5 UW Zy=>bY ?_) hsz)
   haveI UX:=(x4.append hJ Ha (Inv.reset hc hd (by refine Rw N7 (Rw hb (Rw hcd ?_));rfl) J2 i4 (mv.trans J2.ok m4) ho) r4 UW Zy)
   haveI i5:=UX.1
   haveI x5:=UX.2
   exact h mm _ _ _ i5 x5
  ·obtain⟨y,aE,q',e4,_⟩:=z;rw[hE]at e4;cases e4
theorem uy{call:Call}(go:g.Ok fA)(co:c.Ok g ks n)(hc:c.comp=true)(hX:compTurn (.ListComp elt gens scope pos) dep (.ref I) (.ref L) c.env=(do
   standAt ip
   match<-pyNext (.ref I)with
   |none=>pure (.done .next)
   |some v=>
    letOwnedTupleGo (toT g.nm t) (.ref I) v
    assign (toT g.nm t) c.env v
    let mut ok:=true
    for c' in ba g.nm ifs do
     if ok then ok<-isTrue c' c.env (eval c' c.env)
    if ok then M
    again (.compLoop (.ListComp elt gens scope pos) dep (.ref I) (.ref L) c.env)))(hd:aW.all (fun x=>dj x.2)=true)(hcd:cmp.all (fun x=>dj x.2)=true)(hi:∀mm,∀m∈ifs,aA g (c.at mm) (aB g.nm m) (ev P call m))(ht:Ad ks t=true)(aq:∀a,q.V a->∃o,q.h.get? a=some o)(hJ:Qy g c L wr J)(hwA:∀b∈wr,b∈wA)(hM:Hb g c q L wA src wr J I aW cmp F M):
  ∀(items:List D) (s:Shared) (i:Snap) (vs:List Value) (acc ds:List D) (m0:Str->Option Value),Inv g (c.at m0) ⟨[],aW,cmp,[]⟩ i s->CB g c q L wA src wr J I items i s vs acc->Qx F t (bS P call ifs) items ⟨[],aW,cmp,[]⟩=some ds->acc.length+ds.length<=lim->
   (∀s' i' vs' h tk m1,Inv g (c.at m1) ⟨[],aW,cmp,[]⟩ i' s'->CB g c q L wA src wr J I [] i' s' vs' (acc++ds)->(∀b o,b∉wr->s'.heap.get? b=some o->h.get? b=some o)->R (.ok .next) {s' with heap:=h,toks:=tk})->
   codeAny g.M c.A (.compLoop (.ListComp elt gens scope pos) dep (.ref I) (.ref L) c.env) R s:=by
 intro items
 induction items with
 |nil=>
  intro s i vs acc ds m0 iv x ER hlen hR;apply FO;apply wpAny_noted;refine Rw hX (aF (jM (aF (x.it s i.V (Rw iv.heap (Later.refl iv.ok.all)) _ _ fun h' tk hk=>?_))));refine Bc fun au=>?_;cases ER;exact au (bY (hR s i vs h' tk m0 iv (by simp only[rm];exact x) hk))
 |cons d items ih=>
  intro s i vs acc ds m0 iv x ER hlen hR;obtain⟨bs,a,b,bb,st2,Pc,Aa,hb,rfl,hT,hF⟩:=G9 ER
  haveI ZA:=fun z=>(x.ri.iA L z).2.1 x.ci.VD
  apply FO;show wpAny _ c.A ((compTurn (.ListComp elt gens scope pos) dep (.ref I) (.ref L) c.env).onRaise (fun x=>do noteFrame x c.env;theTreesLotGoes x)) _ _ s;apply wpAny_noted;refine Rw hX ?_;refine aF (jM (aF (bA (x.it s i.V (Rw iv.heap (Later.refl iv.ok.all)) (toT g.nm t) (fun v s2=>∃i1,Inv g (c.at m0) ⟨[],aW,cmp,[]⟩ i1 s2/\aU g.w i1.V i1.h v d/\CB g c q L wA src wr J I items i1 s2 vs acc) _ fun v h' tk hv hk hw Ak=>?_) (fun r s1 h1=>?_) fun ω ω z=>z)))
  ·haveI yb:=(iv.UT (s':={s with heap:=h',toks:=tk}) x.ri hk hw rfl rfl)
   haveI i1:=yb.1
   haveI ZB:=yb.2
   have hex:∀b o,i.h.get? b=some o->∃o,h'.get? b=some o:=fun b o e=>by
    by_cases UY:b∈wr
    ·obtain⟨o,_,e,_⟩:=hw b UY;exact⟨o,e⟩
    ·exact⟨o,hk b o UY (Rw iv.heap e)⟩
   refine⟨_,i1,hv,x.ci.alter (fun b o hb e=>hk b o (fun z=>hb (.tail _ (hwA b z))) (Rw iv.heap e)) hex,ZB,fun a ha=>let⟨o,e⟩:=x.hs a ha;hex a o e,x.l.at fun o e=>hk L o ZA (Rw iv.heap e),x.r.rN fun b o nv nf e=>⟨nv,hk b o (fun z=>?_) (Rw iv.heap e)⟩,hJ.wr i h' x.j (fun b o hb e=>hk b o hb (Rw iv.heap e)) i1.ok.all,Ak⟩;obtain⟨_,_,o',vs',e1,e2⟩:=x.ri.iA b z;rw[e]at e1;cases e1;exact nf _ e2
  ·obtain⟨v,rfl,h1⟩:=h1;refine aF (bA h1 (fun ω s2 h2=>?_) fun ω ω z=>z)
   haveI Qz:=(Cs h2)
   haveI ZC:=Qz.1
   haveI hv:=Qz.2.1
   haveI x1:=Qz.2.2
   refine aF (DE (c:=c.at m0) go (co.at m0) hc co.handled ZC hv Pc ht fun mm q2 s2 i2 m2=>?_);refine aF (bA (G7 (c:=c.at mm) ifs (hi mm) _ q2 s2 i2 (Rw hT nofun)) (fun bv s3 z=>?_) fun e s3 z=>?_)
   ·obtain⟨b',aaM,q3,e3,m3,i3,r3⟩:=z;rw[hT]at e3;cases e3;obtain rfl:=(r3).symm;have x3:=x1.moves (s':=s3) hJ aq ZC.ok i3.ok (m2.trans ZC.ok m3)
    have more:∀m4 i4 s4 UZ,Inv g (c.at m4) ⟨[],aW,bs++cmp,[]⟩ i4 s4->CB g c q L wA src wr J I items i4 s4 UZ (acc++a)->codeAny g.M c.A (.compLoop (.ListComp elt gens scope pos) dep (.ref I) (.ref L) c.env) R s4:=fun m4 i4 s4 UZ ZD x4=>
     ih s4 i4 UZ (acc++a) b m4 (ZD.weak hc Aa) x4 hb (by rw[cZ]at hlen⊢;exact aI (dN (Nat.add_assoc ..)) hlen) fun s' i' vs' h tk m1 z1 z2 z3=>hR s' i' vs' h tk m1 z1 (Rl (j9 ..) z2) z3
    induction bb with
    |false=>
     obtain⟨ho,rfl⟩:=hF;exact bY ⟨rfl,more mm q3 s3 vs (Inv.reset hc hd (by refine Rw N7 (Rw (ux t d bs Pc) (Rw hcd ?_));rfl) i2 i3 m3 ho) (by refine Rw (rm ..) ?_;exact x3)⟩
    |true=>
     exact aF (hM (st2:=st2) (fun s4=>wpAny g.M c.A (again _) _ _ s4) _ (ux t d bs Pc) i3 i2 m3 x3 hF (by rw[cZ]at hlen;exact aI (iY (fy ..) _) hlen) fun m4 i4 s4 UZ ZD x4=>bY ⟨rfl,more m4 i4 s4 UZ ZD x4⟩)
   ·obtain⟨y,aE,q',e3,_⟩:=z;injection hT.symm.trans e3
end
section
structure yc(ks ks':List (Nat×NameKind))(t:MT):Prop where
 free:∀x∈ks',x.2= .free->look x.1 ks=some .cell
 cell:∀x∈ks',x.2≠ .cell
 loc:∀x∈ks',x.2= .local->look x.1 ks'=some .local
 GK:Ad (bN ks') t=true
structure Am(g:Gl)(c:Cx)(wr:List Addr)(q:Snap)(s:Shared)(ds:List D)(L C:Addr)(V:Addr->Prop)(s':Shared):Prop where
 hL:q.h.get? L=none
 hC:q.h.get? C=none
 ne:L≠C
 ns:∃m,s'.heap.Ns C m
 qt:Quiet (aK c.envs) wr q V s'.heap
 VC:V C
 VL:¬V L
 lst:∃ys:List Value,s'.heap.PlainList L ys.toArray/\ak g.w (fun a=>V a\/a=L) s'.heap ys ds
 ff:s'.heap.FunFrames {} c.envs
 gens:s'.gens=s.gens
 os:s'.os=s.os
structure Inner(g:Gl)(ks':List (Nat×NameKind))(n:Nat)(t:MT)(ip:Pos)(ifs:List Expr)(X:Expr)(F:St->St->Option (List D))(M:Env->Addr->Sem Unit):Prop where
 turn:∀(env:Env) (I L:Addr),compTurn X 0 (.ref I) (.ref L) env=(do
   standAt ip
   match<-pyNext (.ref I)with
   |none=>pure (.done .next)
   |some v=>
    letOwnedTupleGo (toT g.nm t) (.ref I) v
    assign (toT g.nm t) env v
    let mut ok:=true
    for c' in ifs do
     if ok then ok<-isTrue c' env (eval c' env)
    if ok then M env L
    again (.compLoop X 0 (.ref I) (.ref L) env))
 U0:∀c',c'.comp=true->c'.Ok g (bN ks') n->∀(q:Snap) (L I:Addr) (src wr:List Addr) (aW:List (Nat×LV)),aW.all (fun x=>dj x.2)=true->L∉src->(∀a,q.V a->∃o,q.h.get? a=some o)->Hb g c' q L wr src wr (fun ω=>True) I aW [] F (M c'.env L)
theorem rU(g)(c)(L)(wr):Qy g c L wr fun ω=>True:=⟨fun ω ω ω ω ω ω=>trivial,fun ω ω ω ω ω=>trivial,fun ω ω ω ω ω ω=>trivial⟩
set_option tactic.hygienic true in
theorem Ao{st:St}{call:Call}(go:g.Ok fA)(co:c.Ok g ks n)(sc:yc ks ks' t)(ZE:∀x a,cl.lookup x=some a->c.env.cells.lookup x=some a)(ZF:∀x∈ks',x.2= .free->∃a,cl.lookup (g.nm x.1)=some a)(Xz:Inner g ks' n t iter.pos (ba g.nm ifs) (.ListComp elt (⟨toT g.nm t,iter,ba g.nm ifs,0⟩::rest) (bh g.nm ks' []) pos) F M)(hi:∀c',c'.comp=true->c'.Ok g (bN ks') n->∀m∈ifs,aA g c' (aB g.nm m) (ev P call m))(gH:p.Ok g.base c.envs)(iv:Inv g c st q s)(hd:st.aW.all (fun x=>dj x.2)=true)(hit:hK g c p q it items hide)(ER:Qx F t (bS P call ifs) items ⟨[],st.aW,[],[]⟩=some ds)(hlen:ds.length<=lim){RR:Value->Addr->Result->Shared->Prop}(hRR:∀wr,Recs p q wr->∀L C V s',Am g c wr q s ds L C V s'->RR (.ref L) C (.ok .next) s'):
  wpAny g.M c.A (newList []) (fun acc QA=>wpAny g.M c.A (newFunctionEnv (bh g.nm ks' []) c.env.globals cl [] c.env.qual none .none (some c.env)) (fun U1 ZG=>
   codeAny g.M c.A (.compStart (.ListComp elt (⟨toT g.nm t,iter,ba g.nm ifs,0⟩::rest) (bh g.nm ks' []) pos) 0 it acc {U1 with scope:=relabel (bh g.nm ks' []) c.env}) (RR acc U1.locals) ZG) E QA) E s:=by
 obtain⟨I,wr,src,rfl,hIw,yd,rV,DF,Ci⟩:=hit
 have hcell:∀y∈(bh g.nm ks' []).names,y.2≠ .cell:=fun y hy=>by
  obtain⟨x,hx,rfl⟩:=bU.mp hy;exact sc.cell x hx
 refine rx (wpAny_newFunctionEnv hcell (by intro y hy;simp at hy) (fun h₁ Ap Aq=>?_) rfl);generalize ZH:s.heap.push {cls:=.type "list",dict:=none,data:=.seq ([]:List Value).toArray}=H2 at Ap Aq⊢;have hC:H2.objs.size=s.heap.objs.size+1:=Rl ZH (Rw (t9 ..) rfl);have QB:s.heap.objs.size≠H2.objs.size:=Rw hC (rn (wY _))
 have fresh:∀a,s.heap.objs.size<=a->q.h.get? a=none:=fun a ha=>by
  generalize e:q.h.get? a=zV
  induction zV using Oc with
  |none=>rfl
  |some o'=>exact absurd (fk (iv.heap.symm▸e)) (mh.mpr ha)
 have fC:q.h.get? H2.objs.size=none:=fresh _ (Rw hC (OD _));have fD:=fresh _ (fB _)
 have old:∀b o,q.h.get? b=some o->h₁.get? b=some o:=fun b o e=>by
  haveI e':=e
  rw[<-iv.heap]at e';exact Aq.extBut b o (fun z=>by rw[z,fC]at e;cases e) (il _ (ZH▸il _ e'))
 have QC:h₁.PlainList s.heap.objs.size #[]:=⟨_,Aq.extBut _ _ QB (il _ (ZH▸fX _ rfl))⟩;generalize hL:s.heap.objs.size=L at QB fD QC⊢;generalize H2.objs.size=C at Ap fC QB⊢
 haveI ZI:=Ap
 have J2:=Ah (s':={s with heap:=h₁,toks:=s.toks+([]:List (Str×Value)).length}) (ks':=ks') iv hd ZE old fC fD (eh QB) ZI QC rfl rfl;have sY:=KN (C:=C) (cl:=cl) go co sc.free sc.cell ZF
 have hbD:g.base.get? L=none:=by
  generalize e:g.base.get? L=zV
  induction zV using Oc with
  |none=>rfl
  |some o=>exact Ns fD (iv.ok.stays _ _ e)
 have ci0:CI g (aK c.envs) wr q L ⟨fun a=>q.V a\/a=C\/a=L,fun a=>if a=C then some ⟨.comp,.ns fun ω=>none⟩else none,[],h₁⟩ {s with heap:=h₁,toks:=s.toks+([]:List (Str×Value)).length}:=by
  refine⟨⟨fun b o e ω ω=>old b o e,fun b o e ω=>⟨o.slots,old b o e⟩,fun a v=>?_,fun a v=>⟨.inl v,fun z=>?_⟩,fun a v=>J2.ok.all a v.1⟩,fun b o e=>⟨o,old b o e⟩,fun b cl' e=>?_,.inr (.inr rfl),aw QB,fD,hbD,(fun f=>by obtain⟨o,e⟩:=iv.ok.all L (iv.ok.de L f);exact Ns fD e)⟩
  ·obtain⟨v|rfl|rfl,w⟩:=v
   ·exact .inl v
   ·exact .inr fC
   ·exact(w rfl).elim
  ·obtain⟨o,e⟩:=iv.ok.all a v;exact Ns fD (z▸e)
  ·dsimp only at e;split at e
   ·rename_i h;exact Rw h fC
   ·cases e
 have ri0:RI g (aK c.envs) src wr ⟨fun a=>q.V a\/a=C\/a=L,fun a=>if a=C then some ⟨.comp,.ns fun ω=>none⟩else none,[],h₁⟩:=by
  refine⟨fun b hb=>?_,fun a ha=>?_⟩
  ·obtain⟨z1,z2,o,vs,U2⟩:=yd b hb
   haveI z3:=U2.1
   haveI z4:=U2.2
   refine⟨?_,fun z=>?_,o,vs,old b o z3,z4⟩
   ·generalize e:g.base.get? b=zV
    induction zV using Oc with
    |none=>rfl
    |some o=>exact Ns z1 (gH.stays _ _ e)
   ·rcases z with z|rfl|rfl
    ·exact z2 z
    ·exact Ns fC z3
    ·exact Ns fD z3
  ·obtain⟨_,k,f,vs,e⟩:=rV a ha;refine⟨aw fun z=>?_,iv.ok.oZ a _ e rfl⟩;obtain⟨o,w⟩:=(iv.ok.led a _ e).2.some;exact Ns fC (z▸w)
 have j5:∀a∈src,∃o,h₁.get? a=some o:=fun a ha=>by
  obtain⟨_,k,f,vs,e⟩:=rV a ha;obtain⟨o,w⟩:=(iv.ok.led a _ e).2.some;exact⟨o,old a o w⟩
 have Ha:L∉src:=fun ha=>by
  obtain⟨_,k,f,vs,e⟩:=rV L ha;obtain⟨o,w⟩:=(iv.ok.led L _ e).2.some;exact Ns fD w
 have lt0:Later src q.V q.h (fun a=>q.V a\/a=C\/a=L) h₁:=⟨J2.ok.all,fun a o ω e=>⟨fun nv z=>(by
  rcases z with z|rfl|rfl
  ·exact nv z
  ·exact Ns fC e
  ·replace e:=fD▸e;cases e),old a o e⟩⟩
 haveI loop:codeAny g.M c.A (.compLoop (.ListComp elt (⟨toT g.nm t,iter,ba g.nm ifs,0⟩::rest) (bh g.nm ks' []) pos) 0 (.ref I) (.ref L) (compEnvC (bh g.nm ks' []) cl C c.env)) (RR (.ref L) C) {s with heap:=h₁,toks:=s.toks+([]:List (Str×Value)).length}:=by
  refine uy (c:=c.inComp (bh g.nm ks' []) cl C) go sY rfl (Xz.turn _ I L) hd rfl (fun m=>hi _ rfl (sY.at m)) sc.GK iv.ok.all (rU _ _ _ _) (fun ω h=>h) (Xz.U0 _ rfl sY q L I src wr st.aW hd Ha iv.ok.all) items _ _ [] [] ds (fun ω=>none) J2 ⟨ci0,ri0,j5,QC,.nil,trivial,jw DF lt0⟩ ER (by simpa using hlen) fun s2 i2 vs2 h2 ZL mm2 ye x2 Ar=>?_;obtain⟨TX,U3,-,nQ,hr2,-,-⟩:=x2
  haveI ZA:=fun z=>(U3.iA L z).2.1 TX.VD
  refine hRR wr (fun b hb=>⟨(yd b hb).1,(yd b hb).2.2⟩) L C (fun a=>i2.V a/\a≠L) _ ⟨fD,fC,QB,?_,⟨fun b o e f w=>?_,fun b o e w=>?_,TX.qt.qC,TX.qt.cls,fun a v=>?_⟩,?_,fun z=>z.2 rfl,⟨vs2,nQ.at fun o e=>Ar L o ZA (Rw ye.heap e),?_⟩,?_,?_,?_⟩
  ·obtain⟨m,e,_⟩:=ye.ns
   haveI:=(ye.ok.led _ _ e).2
   refine⟨m,Heap.Ns.at' (show i2.h.Ns C m from this) fun o z=>Ar C o (fun w=>?_) (Rw ye.heap z)⟩;exact(U3.iA C w).2.1 (ye.ok.led _ _ e).1
  ·exact Ar b o w (Rw ye.heap (TX.qt.keep b o e f w))
  ·obtain⟨sl,z⟩:=TX.qt.de b o e w;exact⟨sl,Ar b _ w (Rw ye.heap z)⟩
  ·obtain⟨o,e⟩:=ye.ok.all a v.1;exact⟨o,Ar a o (fun z=>(U3.iA a z).2.1 v.1) (Rw ye.heap e)⟩
  ·obtain⟨m,e,_⟩:=ye.ns;exact⟨(ye.ok.led _ _ e).1,eh QB⟩
  ·refine hr2.rN fun a o nv nf e=>⟨fun z=>z.elim (fun z=>nv z.1) fun z=>nv (z▸TX.VD),Ar a o (fun z=>?_) (Rw ye.heap e)⟩;obtain⟨_,_,o',us,e1,e2⟩:=U3.iA a z;rw[e]at e1;cases e1;exact nf _ e2
  ·refine Ab (fun b o hb e nf=>⟨o,Ar b o (fun z=>?_) (Rw ye.heap e),nf⟩) ye.ok.f9;exact(U3.iA b z).2.1 (ye.ok.de b hb)
  ·exact ye.gens.trans iv.gens.symm
  ·exact ye.os.trans iv.os.symm
 exact codeAny_compStart_list loop (Ci {s with heap:=h₁,toks:=s.toks+([]:List (Str×Value)).length} _ lt0 _ _ loop)
end
section
theorem lH(nm:Nat->Str)(e)(env)(x):foldedSetIterable (aB nm e) env x=pure x:=by induction e using ME.casesOn<;>rfl
theorem Am.inv{st:St}(gH:p.Ok g.base c.envs)(m:af (aK c.envs) p q)(hw:Recs p q wr)(iv:Inv g c st q s)(x:Am g c wr q s ds L C V s'):
  Inv g c st ⟨V,q.led,q.W,s'.heap⟩ s'/\af (aK c.envs) p ⟨V,q.led,q.W,s'.heap⟩/\aU g.w V s'.heap (.ref L) (.list ds)/\p.h.get? C=none/\q.led C=none/\C∉aK c.envs:=by
 haveI zX:=(Cs x.lst)
 haveI h1:=zX.1
 haveI h2:=zX.2
 refine⟨(Inv.quiet gH m hw iv x.qt x.gens x.os x.ff).1,(Inv.quiet gH m hw iv x.qt x.gens x.os x.ff).2,aU.list x.VL h1 (h2.imp fun a o nv e=>⟨fun z=>nv (.inl z),e⟩),m.back x.hC,?_,fun f=>?_⟩
 ·generalize z:q.led C=zV
  induction zV using Oc with
  |none=>rfl
  |some cl=>obtain⟨o,e⟩:=(iv.ok.led C cl z).2.some;exact Ns x.hC e
 ·obtain⟨o,e⟩:=iv.ok.all C (iv.ok.de C f);exact Ns x.hC e
theorem mL{h:Heap}(x:h.Ns C m):∃o,h.get? C=some o/\ ∀v,o.data≠ .cell v:=by
 obtain⟨o,es,ep,z1⟩:=x;exact⟨o,z1.1,fun v z=>by rw[z1.2.1]at z;cases z⟩
theorem nR{res:Res α}{whole:Res β}(z:je g c p res e s)(hx:∀x aE,res= .exc x aE->whole= .exc x aE):je g c p whole e s:=by
 obtain⟨x,aE,r,e1,e2,e3,e4⟩:=z;exact⟨x,aE,r,hx x aE e1,e2,e3,e4⟩
theorem yf{g:Gl}(go:g.Ok fA)(h:∀x∈ks',x.2= .local->look x.1 ks'=some .local):∀x∈(bh g.nm ks' []).names,x.2= .local->(bh g.nm ks' []).names.lookup x.1=some .local:=fun x hx hl=>by
 obtain⟨y,hy,rfl⟩:=bU.mp hx;refine Rw (show(bh g.nm ks' []).names=ks'.map fun p=>(g.nm p.1,p.2)from rfl) ?_;exact(fH go.inj ..).trans (h y hy hl)
set_option tactic.hygienic true in
theorem nS{st:St}{call:Call}(hF:∀t ifs items st,cv (ev P call elt) gs t ifs items st=Qx F t ifs items st)(go:g.Ok fA)(co:c.Ok g ks n)(sc:yc ks ks' t)(hit:aA g c (aB g.nm it) (ev P call it))(Xz:Inner g ks' n t (aB g.nm it).pos (ba g.nm ifs) (.ListComp (aB g.nm elt) (⟨toT g.nm t,aB g.nm it,ba g.nm ifs,0⟩::rest) (bh g.nm ks' []) pos) F M)(hi:∀c',c'.comp=true->c'.Ok g (bN ks') n->∀m∈ifs,aA g c' (aB g.nm m) (ev P call m)){f:List D->St->Res β}(iv:Inv g c st p s)(hb:(bH (ev P call elt) ⟨t,ev P call it,bS P call ifs⟩ gs st).bind f≠ .bad)(hQ:∀ds st1 q s1 wr,bH (ev P call elt) ⟨t,ev P call it,bS P call ifs⟩ gs st= .ok ds st1->af (aK c.envs) p q->Inv g c st1 q s1->Recs p q wr->∀L C V s',Am g c wr q s1 ds L C V s'->
   compPost g.M c.A (je g c p ((bH (ev P call elt) ⟨t,ev P call it,bS P call ifs⟩ gs st).bind f)) use Q (.ref L) C (.ok .next) s'):
  wpAny g.M c.A (comprehension (.ListComp (aB g.nm elt) (⟨toT g.nm t,aB g.nm it,ba g.nm ifs,0⟩::rest) (bh g.nm ks' []) pos) (bh g.nm ks' []) c.env pos' (newList []) false (eval (aB g.nm it) c.env) use) Q
   (je g c p ((bH (ev P call elt) ⟨t,ev P call it,bS P call ifs⟩ gs st).bind f)) s:=by
 refine Bc fun au=>?_
 haveI As:=ah hb
 obtain⟨cl,xQ⟩:=Af (scope:=bh g.nm ks' []) (env:=c.env) (fun x hx hf=>by
  obtain⟨y,hy,rfl⟩:=bU.mp hx
  exact co.cells _ (sc.free y hy hf))
 have U4:∀x aE,(ev P call it).it st= .exc x aE->(bH (ev P call elt) ⟨t,ev P call it,bS P call ifs⟩ gs st).bind f= .exc x aE:=fun x aE e=>by
  unfold bH;dsimp only;rw[ar e];rfl
 refine au ?_;refine wpAny_comprehension_free (use:=use) (cl:=cl) rfl (fun x=>lH g.nm it c.env x) xQ.1 rfl (yf go sc.loc) (bA (hit.it st p s iv (by delta bH at As;exact ah As)) (fun x s1 z=>bA z (fun TY s2 z2=>?_) fun e s2 z2=>nR z2 U4) fun e s1 z=>nR z U4);obtain⟨items,hide,st1,q,h1,XA,e1,m1',i1',ZM,i1,QD⟩:=z2;have m1:=m1'.trans iv.ok (fG (p:={q with h:=h1}) (h:=q.h) ZM)
 have ev1:bH (ev P call elt) ⟨t,ev P call it,bS P call ifs⟩ gs st=if st1.aW.all (fun x=>dj x.2)=false then .bad else match cv (ev P call elt) gs t (bS P call ifs) items ⟨[],st1.aW,[],[]⟩with
  |some ds=>if ds.length<=lim then .ok ds st1 else .bad
  |none=>.bad:=by unfold bH;dsimp only;rw[aa e1];try rfl
 rw[ev1]at As;split at As
 ·exact(As rfl).elim
 ·refine Bc fun au=>?_;rename_i hd;rw[NU]at hd;generalize ER:cv (ev P call elt) gs t (bS P call ifs) items ⟨[],st1.aW,[],[]⟩=zV
  induction zV using Oc with
  |none=>exact absurd rfl (ER▸As)
  |some ds=>
   rw[ER]at As;dsimp only at As;refine au ?_;split at As
   ·rename_i hlen
    have ev2:bH (ev P call elt) ⟨t,ev P call it,bS P call ifs⟩ gs st= .ok ds st1:=by
     refine Rw ev1 (Rw (aw (by rw[hd];decide)) (Rw ER ?_));exact(if_pos hlen)
    refine Ao (RR:=fun acc C=>compPost g.M c.A (je g c p ((bH (ev P call elt) ⟨t,ev P call it,bS P call ifs⟩ gs st).bind f)) use Q acc C) go co sc xQ.2.1 (fun x hx hf=>?_) Xz hi iv.ok i1 hd (QD.back m1') ((hF _ _ _ _).symm.trans ER) hlen fun wr hw L C V s' ce=>hQ ds st1 q s2 wr ev2 m1 i1 hw L C V s' ce;exact xQ.2.2 (g.nm x.1,x.2) (bU.mpr ⟨x,hx,rfl⟩) hf
   ·exact(As rfl).elim
theorem Au{call:Call}(he:∀c',c'.comp=true->c'.Ok g (bN ks') n->aA g c' (aB g.nm elt) (ev P call elt)):
  Inner g ks' n t (aB g.nm it).pos (ba g.nm ifs) (.ListComp (aB g.nm elt) [⟨toT g.nm t,aB g.nm it,ba g.nm ifs,0⟩] (bh g.nm ks' []) pos) (F0 (ev P call elt)) (fun env L=>do let _<-PySem.call (.builtin "list.append") [.ref L,<-eval (aB g.nm elt) env]):=
 ⟨fun env I L=>compTurn_list _ _ _ _ _ _ _ _ _,fun c' hc sY q L I src wr aW hd Ha aq=>ya hc hd rfl (rU _ _ _ _) Ha aq fun m=>he _ hc (sY.at m)⟩
theorem yg{F:St->Res (List D)}(iter)(h:∀{st:St} {p:Snap} {s:Shared},(F st).bind (fun ds st=>(.ok (.list ds) st:Res D))≠ .bad->Inv g c st p s->(∀ds st1 q s1 wr,F st= .ok ds st1->af (aK c.envs) p q->Inv g c st1 q s1->Recs p q wr->∀L C V s',Am g c wr q s1 ds L C V s'->compPost g.M c.A (je g c p ((F st).bind fun ds st=>(.ok (.list ds) st:Res D))) none (mJ g c p (GN g) ((F st).bind fun ds st=>.ok (.list ds) st)) (.ref L) C (.ok .next) s')->
   wpAny g.M c.A (comprehension (.ListComp elt gens scope pos) scope c.env pos' (newList []) false (eval iter c.env) none) (mJ g c p (GN g) ((F st).bind fun ds st=>.ok (.list ds) st)) (je g c p ((F st).bind fun ds st=>(.ok (.list ds) st:Res D))) s)(he:eval (.ListComp elt gens scope pos) c.env=comprehension (.ListComp elt gens scope pos) scope c.env pos' (newList []) false (eval iter c.env) none):gG g c (.ListComp elt gens scope pos) fun st=>(F st).bind fun ds st=>.ok (.list ds) st:=by
 intro st p s iv hb;refine Rw he (h hb iv fun ds st1 q s1 wr e m1 i1 hw L C V s' ce=>?_)
 letI m:=Ce ce.ns
 haveI hn:=(Cs ce.ns)
 haveI mM:=(ce.inv iv.ok m1 hw i1)
 haveI i2:=mM.1
 haveI m2:=mM.2.1
 haveI r2:=mM.2.2.1
 haveI hC:=mM.2.2.2.1
 haveI lC:=mM.2.2.2.2.1
 haveI fC:=mM.2.2.2.2.2
 refine⟨m,hn,fun h' hs'=>?_⟩;have k:=fun b o hb e=>hs'.extBut b o hb e;exact⟨_,st1,_,aa e,jQ m2 hC iv.ok.all k,(i2.vK (s':={s' with heap:=h'}) k ce.VC lC fC (mL hn) rfl rfl),aU.imp (fun a o nv e=>⟨fun z=>nv z.1,k a o (fun z=>nv (z▸ce.VC)) e⟩) r2⟩
theorem yh{call:Call}(go:g.Ok fA)(co:c.Ok g ks n)(sc:yc ks ks' t)(hit:aA g c (aB g.nm it) (ev P call it))(he:∀c',c'.comp=true->c'.Ok g (bN ks') n->aA g c' (aB g.nm elt) (ev P call elt))(hi:∀c',c'.comp=true->c'.Ok g (bN ks') n->∀m∈ifs,aA g c' (aB g.nm m) (ev P call m)):
  gG g c (.ListComp (aB g.nm elt) [⟨toT g.nm t,aB g.nm it,ba g.nm ifs,0⟩] (bh g.nm ks' []) pos) fun st=>(bH (ev P call elt) ⟨t,ev P call it,bS P call ifs⟩ [] st).bind fun ds st=>.ok (.list ds) st:=
 yg _ (fun hb iv hQ=>nS (use:=none) (Zx _) go co sc hit (Au he) hi iv hb hQ) rfl
end
section
theorem QE(h0:codeAny (model prog w) A (.compLoop (.ListComp elt [g1,⟨t2,sZ,nU,0⟩] scope pos) 1 it acc env) R s)(h:wpAny (model prog w) A (pyIter it) (fun it' s'=>codeAny (model prog w) A (.compLoop (.ListComp elt [g1,⟨t2,sZ,nU,0⟩] scope pos) 1 it' acc env) R s')
   (notedBy (model prog w) A env fun x s'=>R (.error x) s') s):
  codeAny (model prog w) A (.compStart (.ListComp elt [g1,⟨t2,sZ,nU,0⟩] scope pos) 1 it acc env) R s:=by
 apply FO;apply wpAny_notedAt;unfold compStart;refine aF (wpAny_askSetting (wpAny_ite ?_));split
 ·first
   |exact aF (bY (bY (And.intro rfl h0)))
   |exact bY (And.intro rfl h0)
 ·first
   |exact aF (uc (aF (jM (aF (bA h (fun it' s' h'=>bY (And.intro rfl h')) fun ω ω x=>x)))))
   |(apply aF (uc);show wpAny _ _ (standAt sZ.pos>>=_) _ _ s;exact aF (jM (aF (bA h (fun it' s' h'=>bY (And.intro rfl h')) fun ω ω x=>x))))
theorem CI.off{c:Cx}(hn:∀b∈yi,q.h.get? b=none)(hV:∀b∈yi,¬i.V b)(k:∀b o,b∉yi->i.h.get? b=some o->h.get? b=some o)(x:CI g (aK c.envs) (yi++wr) q L i s):CI g (aK c.envs) wr q L {i with h:=h} s':=by
 have n2:∀b o,q.h.get? b=some o->b∉yi:=fun b o e z=>Ns (hn b z) e;have off:∀b o,q.h.get? b=some o->b∉wr->b∉yi++wr:=fun b o e h z=>(cG.mp z).elim (n2 b o e) h;exact⟨⟨fun b o e f w=>k b o (n2 b o e) (x.qt.keep b o e f (off b o e w)),fun b o e w=>(x.qt.de b o e (off b o e w)).elim fun sl z=>⟨sl,k b _ (n2 b o e) z⟩,x.qt.qC,x.qt.cls,fun a v=>let⟨o,z⟩:=x.qt.all a v;⟨o,k a o (fun w=>hV a w v.1) z⟩⟩,fun b o e=>let⟨o',z⟩:=x.ext b o e;⟨o',k b o' (n2 b o e) z⟩,x.new,x.VD,x.Ai,x.hD,x.bD,x.fD⟩
theorem CI.more{c:Cx}(x:CI g (aK c.envs) wr q L i s):CI g (aK c.envs) (yi++wr) q L i s':=
 ⟨⟨fun b o e f w=>x.qt.keep b o e f fun z=>w (u7 _ z),fun b o e w=>x.qt.de b o e fun z=>w (u7 _ z),x.qt.qC,x.qt.cls,x.qt.all⟩,x.ext,x.new,x.VD,x.Ai,x.hD,x.bD,x.fD⟩
def Hc(g:Gl)(c:Cx)(src wr:List Addr)(i:Snap)(j:Snap):Prop:=RI g (aK c.envs) src wr j/\(∀a∈src,∃o,j.h.get? a=some o)/\Later src i.V i.h j.V j.h
theorem KP(Ha:L∉src)(hVL:i.V L)(hw:∀b∈wr,¬i.V b/\ ∃o,i.h.get? b=some o)(hs:∀a∈src,∃o,i.h.get? a=some o)(hn:∀b∈yi,i.h.get? b=none):Qy g c L yi (Hc g c src wr i):=by
 have upd:∀(j:Snap) (h:Heap),Hc g c src wr i j->(∀b o,(∃o',i.h.get? b=some o')->(¬i.V b\/b∈src)->j.h.get? b=some o->h.get? b=some o)->(∀a,j.V a->∃o,h.get? a=some o)->Hc g c src wr i {j with h:=h}:=fun j h x k al=>by
  refine⟨⟨fun b hb=>?_,x.1.xZ⟩,fun a ha=>?_,al,fun a o q e=>⟨(x.2.2.2 a o q e).1,k a o ⟨o,e⟩ q (x.2.2.2 a o q e).2⟩⟩
  ·refine Bc fun au=>?_;obtain⟨h1,h2,o,vs,z4⟩:=x.1.iA b hb;exact au ⟨h1,h2,o,vs,k b o (hw b hb).2 (.inl (hw b hb).1) z4.1,z4.2⟩
  ·obtain⟨o,e⟩:=x.2.1 a ha;exact⟨o,k a o (hs a ha) (.inr ha) e⟩
 refine⟨fun j r x TV XC m=>⟨x.1.moves TV m x.2.1,fun a ha=>let⟨o,e⟩:=x.2.1 a ha;m.ext a o e,x.2.2.trans (x.1.later TV XC.all m)⟩,fun j h x k al=>upd j h x (fun b o hb ω e=>k b o (let⟨_,e'⟩:=hb;(fun e z=>Ns (hn _ z) e) e') e) al,fun j h x hL k al=>upd j h x (fun b o hb q e=>k b o (fun z=>?_) e) al⟩;rcases q with q|q
 ·exact q (z▸hVL)
 ·exact Ha (z▸q)
def QF(nm:Nat->Str)(elt:ME)(t:MT)(it:ME)(ifs:List ME)(t2:MT)(sZ:ME)(nU:List ME)(ks':List (Nat×NameKind))(pos:Pos):Expr:=.ListComp (aB nm elt) [⟨toT nm t,aB nm it,ba nm ifs,0⟩,⟨toT nm t2,aB nm sZ,ba nm nU,0⟩] (bh nm ks' []) pos
theorem QG{call:Call}(go:g.Ok fA)(ZN:Ad (bN ks') t2=true)(he:∀c',c'.comp=true->c'.Ok g (bN ks') n->aA g c' (aB g.nm elt) (ev P call elt))(Ak:∀c',c'.comp=true->c'.Ok g (bN ks') n->aA g c' (aB g.nm sZ) (ev P call sZ))(QH:∀c',c'.comp=true->c'.Ok g (bN ks') n->∀m∈nU,aA g c' (aB g.nm m) (ev P call m)):
  Inner g ks' n t (aB g.nm it).pos (ba g.nm ifs) (QF g.nm elt t it ifs t2 sZ nU ks' pos) (F1 (ev P call elt) ⟨t2,ev P call sZ,bS P call nU⟩) (fun env L=>do
   let x<-eval (aB g.nm sZ) env
   standAt (aB g.nm sZ).pos
   let x<-foldedSetIterable (aB g.nm sZ) env x
   let _<-runOwn (.compStart (QF g.nm elt t it ifs t2 sZ nU ks' pos) 1 (<-holding [x] (pyIter x)) (.ref L) env) env):=by
 refine⟨fun env I L=>?_,fun c' hc sY q L I src wr aW hd Ha aq=>?_⟩
 ·symm;simp only[bind_assoc,pure_bind];rfl
 intro bs mm st2 i0 i s0 s vs acc a items Q E hb iv J2 mv x hF hlen h;refine Bc fun au=>?_;rw[rm]at J2 hF h
 delta F1 at hF
 generalize hE:(ev P call sZ).it st2=zV
 induction zV using Res.casesOn with
 |bad=>replace hF:=hE▸hF;exact ax hF
 |exc y gB=>replace hF:=hE▸hF;exact ax hF
 |ok r gB=>
  rw[hE]at hF;obtain⟨its,hid⟩:=r
  induction hid with
  |true=>exact ax hF
  |false=>
   obtain⟨ho,ER⟩:=bq hF;refine au ?_;refine aF (bA ((Ak (c'.at mm) hc (sY.at mm)).it st2 i s iv (Rw hE (fun z=>by injection z))) (fun xv s1 z=>?_) fun e s1 z=>?_)
   ·refine aF (jM ?_);refine Rw (lH ..) ?_;refine aF (bY (aF (ix (bA z (fun itv s2 z2=>?_) fun e s2 z2=>?_))))
    ·refine Bc fun au=>?_;obtain⟨aaN,hide,Zz,q2,h1,XA,e1,m1,i1,gr,i2,I2,yi,Hd,rfl,hIw,yd,rV,DF,Ci⟩:=z2;rw[hE]at e1;cases e1;have m2:=m1.trans iv.ok (fG (p:={q2 with h:=h1}) (h:=q2.h) gr)
     obtain rfl:Hd= []:=by
      induction Hd using Lc with
      |nil=>rfl
      |cons a r=>exact nomatch(rV a (.head _)).1
     have QI:=fun b hb=>m1.back (yd b hb).1
     have ZO:∀b∈yi,q.h.get? b=none:=fun b hb=>by
      generalize e:q.h.get? b=zV
      induction zV using Oc with
      |none=>rfl
      |some o=>obtain⟨o',e'⟩:=x.ci.ext b o e;exact Ns (QI b hb) e'
     have Pd:∀b∈yi,g.base.get? b=none:=fun b hb=>by
      generalize e:g.base.get? b=zV
      induction zV using Oc with
      |none=>rfl
      |some o=>have:=iv.ok.stays _ _ e;exact Ns (QI b hb) this
     haveI x2:=x.moves (s':=s2) (rU _ _ _ _) aq iv.ok i2.ok m2
     haveI ivb:=Inv.reset hc hd hb J2 i2 (mv.trans J2.ok m2) ho
     have ZP:Qy g c' L yi (Hc g c' src wr i):=KP Ha x.ci.VD (fun b hb=>(x.ri.iA b hb).elim fun ω zL=>zL.elim fun h2 zL=>zL.elim fun o zL=>zL.elim fun ω zL=>⟨h2,o,zL.1⟩) x.hs QI
     haveI cb2:CB g c' q L (yi++wr) [] yi (Hc g c' src wr i) I2 its q2 s2 vs acc:=⟨x2.ci.more,⟨fun b hb=>⟨Pd b hb,(yd b hb).2⟩,(fun ω z=>nomatch z)⟩,(fun ω z=>nomatch z),x2.l,x2.r,⟨x2.ri,x2.hs,x.ri.later iv.ok i2.ok.all m2⟩,DF⟩
     refine au ?_;refine aF (wpAny_runOwn ?_)
     haveI loop:=uy (c:=c') (elt:=aB g.nm elt) (gens:=[⟨toT g.nm t,aB g.nm it,ba g.nm ifs,0⟩,⟨toT g.nm t2,aB g.nm sZ,ba g.nm nU,0⟩]) (dep:=1) (ip:=(aB g.nm sZ).pos) (t:=t2) (ifs:=nU) (scope:=bh g.nm ks' []) (pos:=pos) (I:=I2) (L:=L) (wA:=yi++wr) (src:=[]) (wr:=yi) (R:=fun r s'=>match r with|.ok f=>wpAny g.M c'.A (pure PUnit.unit) (fun ω s3=>Q s3) E s'|.error e=>cameBackBy g.M c'.A c'.env E e s') go sY hc rfl hd hb (fun m=>QH (c'.at m) hc (sY.at m)) ZN aq ZP (fun b hb=>iF _ hb)
      (ya hc hd hb ZP eF aq fun m=>he (c'.at m) hc (sY.at m)) its s2 q2 vs acc a mm ivb cb2 ER hlen fun s' i' vs' h' tk m1 TY x' hk=>?_
     ·exact QE loop (Ci s2 q2.V (Rw i2.heap (Later.refl i2.ok.all)) _ _ loop)
     ·have k:=fun b o hb e=>hk b o hb (Rw TY.heap e);have iv3:=TY.alter (s':={s' with heap:=h',toks:=tk}) (X:=yi) k (fun b hb=>⟨Pd b hb,.inl (x'.ri.iA b hb).2⟩) rfl rfl
      haveI oj:=ZP.wr i' h' x'.j k iv3.ok.all
      refine bY (h m1 _ _ vs' iv3 ⟨x'.ci.off ZO (fun b hb=>(x'.ri.iA b hb).2.1) k,oj.1,oj.2.1,x'.l.at fun o e=>k L o (fun z=>(x'.ri.iA L z).2.1 x'.ci.VD) e,x'.r.rN fun b o nv nf e=>⟨nv,k b o (fun z=>?_) e⟩,trivial,jw x.it oj.2.2⟩);obtain⟨_,_,o',vs',e1,e2⟩:=x'.ri.iA b z;rw[e]at e1;cases e1;exact nf _ e2
    ·obtain⟨y,aE,q',e4,_⟩:=z2;injection hE.symm.trans e4
   ·obtain⟨y,aE,q',e4,_⟩:=z;injection hE.symm.trans e4
theorem DG{call:Call}(go:g.Ok fA)(co:c.Ok g ks n)(sc:yc ks ks' t)(ZN:Ad (bN ks') t2=true)(hit:aA g c (aB g.nm it) (ev P call it))(he:∀c',c'.comp=true->c'.Ok g (bN ks') n->aA g c' (aB g.nm elt) (ev P call elt))(hi:∀c',c'.comp=true->c'.Ok g (bN ks') n->∀m∈ifs,aA g c' (aB g.nm m) (ev P call m))(Ak:∀c',c'.comp=true->c'.Ok g (bN ks') n->aA g c' (aB g.nm sZ) (ev P call sZ))(QH:∀c',c'.comp=true->c'.Ok g (bN ks') n->∀m∈nU,aA g c' (aB g.nm m) (ev P call m)):
  gG g c (QF g.nm elt t it ifs t2 sZ nU ks' pos) fun st=>(bH (ev P call elt) ⟨t,ev P call it,bS P call ifs⟩ [⟨t2,ev P call sZ,bS P call nU⟩] st).bind fun ds st=>.ok (.list ds) st:=
 yg (aB g.nm it) (fun hb iv hQ=>nS (use:=none) (go1 _ _) go co sc hit (QG go ZN he Ak QH) hi iv hb hQ) rfl
end
section
structure dP(fs:List Addr)(a:Addr)(xs:List Addr)(h h':Heap):Prop where
 keep:∀b o,b≠a->b∉xs->h.get? b=some o->b∉fs->h'.get? b=some o
 de:∀b o,b≠a->b∉xs->h.get? b=some o->∃sl,h'.get? b=some {o with slots:=sl}
 ext:∀b o,h.get? b=some o->∃o',h'.get? b=some o'
inductive Seen(h:Heap)(a:Addr):Prop
 |mk(T:Addr)(oe:Obj)(vs:Array Value)(e1:h.get? a=some oe)(e2:oe.data= .fields vs)(e3:vs[1]?=some (.ref T)):Seen h a
inductive He(b:Bool)(h₀ h:Heap)(a:Addr)(cl:Value):Prop
 |mk(oe:Obj)(vs:Array Value)(e1:h.get? a=some oe)(e2:oe.cls=cl)(e3:oe.data= .fields vs)(e4:GG b vs)(e5:UJ h₀ h a vs):He b h₀ h a cl
theorem uz(KQ:A.frames=some (env::outer))(hl:s.heap.FunFrames {} (env::outer))(hf:env.frame=some L)(he:s.heap.get? a=some oe)(hd:oe.data= .fields vs)(hsz:GG bb vs)(h:∀h',dP (aK (env::outer)) a [] s.heap h'->He bb s.heap h' a oe.cls->Seen h' a->Q () {s with heap:=h'}):
  wpAny M A (do let a'<-frameOf env;let pl<-entryPlaceOf L XD;let b<-EntryCells.newEntry head a' .none (rawInt L) .none pl;setField (.ref a) 1 b) Q E s:=by
 have U5:a∉(env::outer).filterMap (·.frame):=fun hm=>by
  obtain⟨_,o,ho,hnf⟩:=hl.mem hm;rw[he]at ho;injection ho with ho;subst ho;exact hnf vs hd
 refine aF (wpAny_frameOf_fun KQ hl hf fun h₁ eA=>?_);refine aF (wpAny_entryPlaceOf fun pl hpl=>?_);refine aF (rx ?_ (hpl.sizeOk5 _ _ _ _ _));have Pe:=il (h:=h₁) {cls:=.type "traceback",dict:=none,data:=.fields ([head,.ref L,.none,rawInt L,.none]++(if pl.isEmpty then List.replicate 6 Value.none else pl)).toArray} ((eA.2.1 a U5).trans he);have QJ:=hsz.1;refine xm Pe hd (fj (jm ..) QJ) (h _ ?_ ?_ ?_)
 all_goals
  have hTe:=pQ (fk ((eA.2.1 a U5).trans he))
  haveI Hf:=zP hd (·.setIfInBounds 1 (Value.ref h₁.objs.size))
  haveI Hg:=Dj (Obj.mapFields (·.setIfInBounds 1 (Value.ref h₁.objs.size))) Pe (xc Hf)
  haveI U7:=(qv (h₁.push {cls:=.type "traceback",dict:=none,data:=.fields ([head,.ref L,.none,rawInt L,.none]++(if pl.isEmpty then List.replicate 6 Value.none else pl)).toArray})
   (Obj.mapFields (·.setIfInBounds 1 (Value.ref h₁.objs.size))) (eh hTe)).trans (fX h₁ rfl)
  have keep:∀b o,b≠a->h₁.get? b=some o->
    ((h₁.push {cls:=.type "traceback",dict:=none,data:=.fields ([head,.ref L,.none,rawInt L,.none]++(if pl.isEmpty then List.replicate 6 Value.none else pl)).toArray}).update a (Obj.mapFields (·.setIfInBounds 1 (Value.ref h₁.objs.size)))).get? b=some o:=
   fun b o As hb=>by
    exact Rw (qv _ _ (eh As)) (il _ hb)
 ·refine⟨fun b o hb ω e f=>keep b o hb ((eA.2.1 b f).trans e),fun b o hb ω e=>(eA.2.2 b o e).elim fun sl z=>⟨sl,keep b _ hb z⟩,fun b o e=>?_⟩;by_cases hb:b=a
  ·obtain rfl:=hb.symm;exact⟨_,Hg⟩
  ·obtain⟨sl,z⟩:=eA.2.2 b o e;exact⟨_,keep b _ hb z⟩
 ·refine⟨_,_,Hg,Obj.cls_mapFields _ _,Hf,⟨by simpa using hsz.1,fun hb=>Rw (Array.getElem?_setIfInBounds_ne (by decide)) (hsz.2 hb)⟩,.inr ⟨h₁.objs.size,_,_,by simp[show 1<vs.size by exact fj (jm ..) QJ],hTe,?_,U7,rfl,by simp only[qx,cZ,List.length_cons,List.length_nil]<;>lia⟩⟩;generalize e:s.heap.get? h₁.objs.size=zV
  induction zV using Oc with
  |none=>rfl
  |some o=>obtain⟨sl,z⟩:=eA.2.2 _ o e;exact((mD _) (fk z)).elim
 ·exact⟨h₁.objs.size,_,_,Hg,Hf,by simp[show 1<vs.size by exact fj (jm ..) QJ]⟩
theorem dP.refl(fs)(a)(h):dP fs a [] h h:=⟨fun ω ω ω ω e ω=>e,fun ω o ω ω e=>⟨o.slots,e⟩,fun ω o e=>⟨o,e⟩⟩
theorem dP.trans(x:dP fs a xs h h')(y:dP fs a ys h' Zw):dP fs a (xs++ys) h Zw:=
 ⟨fun b o ha hx e f=>y.keep b o ha (fun z=>hx (u7 _ z)) (x.keep b o ha (fun z=>hx (iF _ z)) e f) f,
  fun b o ha hx e=>by
  obtain⟨sl,z⟩:=x.de b o ha (fun z=>hx (iF _ z)) e;obtain⟨sl',z'⟩:=y.de b _ ha (fun z=>hx (u7 _ z)) z
  exact⟨sl',z'⟩,
  fun b o e=>(x.ext b o e).elim fun o' z=>y.ext b o' z⟩
theorem dP.fields(e:h.get? T=some oT)(d:oT.data= .fields ts):dP fs a [T] h (h.update T (Obj.mapFields (·.setIfInBounds i v))):=by
 haveI other:∀b,b≠T->(h.update T (Obj.mapFields (·.setIfInBounds i v))).get? b=h.get? b:=fun b hb=>qv _ _ (eh hb)
 refine⟨fun b o ω hx e ω=>(other b fun z=>hx (Rw z (.head _))).trans e,fun b o ω hx e=>⟨o.slots,(other b fun z=>hx (Rw z (.head _))).trans e⟩,fun b o e'=>?_⟩;by_cases hb:b=T
 ·exact Rw hb ⟨_,Dj _ e (xc (zP d _))⟩
 ·exact⟨o,(other b hb).trans e'⟩
theorem uA(fl:He bb h₀ h a cl)(Pf:T≠a)(e:h.get? T=some oT)(d:oT.data= .fields ts)(hs:3<ts.size):He bb h₀ (h.update T (Obj.mapFields (·.setIfInBounds i v))) a cl:=by
 obtain⟨oe,vs,h1,h2,h3,h4,h5⟩:=fl;refine⟨oe,vs,((fun b hb=>qv _ _ (eh hb)) a (eh Pf)).trans h1,h2,h3,h4,?_⟩;rcases h5 with h5|⟨T',ZQ,Pg,f1,f2,f3,f4,f5,f6⟩
 ·exact .inl h5
 ·by_cases hb:T'=T
  ·subst hb;exact .inr ⟨T',_,_,f1,f2,f3,Dj _ e (xc (zP d _)),zP d _,by simpa using hs⟩
  ·exact .inr ⟨T',ZQ,Pg,f1,f2,f3,((fun b hb=>qv _ _ (eh hb)) T' hb).trans f4,f5,f6⟩
theorem dP.ff(x:dP fs a xs h h')(hl:h.FunFrames {} l)(ha:∃o vs,h.get? a=some o/\o.data= .fields vs)(hx:∀b∈xs,∃o vs,h.get? b=some o/\o.data= .fields vs):h'.FunFrames {} l:=
 G5 (fun b o e nf=>by
  obtain⟨sl,z⟩:=x.de b o (fun z=>by obtain⟨o',vs,w1,w2⟩:=ha;rw[z,w1]at e;cases e;exact nf vs w2) (fun z=>by obtain⟨o',vs,w1,w2⟩:=hx b z;rw[w1]at e;cases e;exact nf vs w2) e
  exact⟨_,z,nf⟩) hl
def Old(h₀ h:Heap)(xs:List Addr):Prop:=∀b∈xs,h₀.get? b=none/\ ∃o vs,h.get? b=some o/\o.data= .fields vs
theorem Hh(KQ:A.frames=some (env::outer))(hl:s.heap.FunFrames {} (env::outer))(hf:env.frame=some L)(QK:∀b,s.heap.get? b=none->h₀.get? b=none)(fl:He bb h₀ s.heap a cl)(h:∀h' xs,dP (aK (env::outer)) a xs s.heap h'->Old h₀ s.heap xs->He bb h₀ h' a cl->Seen h' a->Q () {s with heap:=h'}):wpAny M A (noteFrame (.ref a) env) Q E s:=by
 haveI Hi:=fl
 obtain⟨oe,vs,he,xW,hd,hsz,h1⟩:=fl;dsimp only[noteFrame];refine Rw hf ?_;rcases h1 with h1|⟨T,oT,ts,h1,Pf,U8,hT,Cj,ES⟩
 ·refine aF (gV he hd h1 ?_);refine uz KQ hl hf he hd hsz fun h' x y sn=>h h' [] x (fun ω z=>nomatch z) ?_ sn;obtain⟨QL,vs',w1,w2,w3,w4,w5⟩:=y;refine⟨QL,vs',w1,w2.trans xW,w3,w4,?_⟩;rcases w5 with w5|⟨T,oT,ts,f1,f2,f3,f4,f5,f6⟩
  ·exact .inl w5
  ·exact .inr ⟨T,oT,ts,f1,f2,QK T f3,f4,f5,f6⟩
 ·refine aF (gV he hd h1 ?_);obtain⟨x3,e3⟩:∃x,ts[3]?=some x:=⟨ts[3],by simp[ES]⟩;refine aF (gV hT Cj e3 ?_);by_cases hx:(x3==rawInt L)=true
  ·exact Rw (if_pos hx) (bY (h s.heap [] (dP.refl ..) (fun ω z=>nomatch z) Hi ⟨T,oe,vs,he,hd,h1⟩))
  ·refine Rw (aw hx) ?_;refine aF (xm hT Cj ES ?_);have nt:dP (aK (env::outer)) a [T] s.heap (s.heap.update T (Obj.mapFields (·.setIfInBounds 3 Value.none))):=dP.fields hT Cj;have hold:Old h₀ s.heap [T]:=fun b hb=>by rw[dp]at hb;exact Rw hb ⟨U8,oT,ts,hT,Cj⟩
   refine uz (s:={s with heap:=s.heap.update T (Obj.mapFields (·.setIfInBounds 3 Value.none))}) KQ (nt.ff hl ⟨oe,vs,he,hd⟩ fun b hb=>(hold b hb).2) hf (((fun b hb=>qv _ _ (eh hb)) a (eh Pf)).trans he) hd hsz fun h' x y sn=>h h' ([T]++ []) (nt.trans x) (by simpa using hold) ?_ sn;obtain⟨QL,vs',w1,w2,w3,w4,w5⟩:=y;refine⟨QL,vs',w1,w2.trans xW,w3,w4,?_⟩;rcases w5 with w5|⟨T',ZQ,Pg,f1,f2,f3,f4,f5,f6⟩
   ·exact .inl w5
   ·refine .inr ⟨T',ZQ,Pg,f1,f2,QK T' ?_,f4,f5,f6⟩;generalize z:s.heap.get? T'=zV
    induction zV using Oc with
    |none=>rfl
    |some o=>obtain⟨o',w⟩:=nt.ext T' o z;dsimp only at f3;exact Ns f3 w
theorem Av(fl:He bb h₀ s.heap a cl)(h:∀h' xs,dP fs a xs s.heap h'->Old h₀ s.heap xs->He bb h₀ h' a cl->Q () {s with heap:=h'}):wpAny M A (setFlight (.ref a) fr) Q E s:=by
 haveI Hi:=fl
 obtain⟨oe,vs,he,xW,hd,hsz,h1⟩:=fl;rcases h1 with h1|⟨T,oT,ts,h1,Pf,U8,hT,Cj,ES⟩
 ·refine aF (gV he hd h1 ?_);exact bY (h s.heap [] (dP.refl ..) (fun ω z=>nomatch z) Hi)
 ·refine aF (gV he hd h1 ?_);refine xm hT Cj ES (h _ [T] (dP.fields hT Cj) (fun b hb=>by rw[dp]at hb;exact Rw hb ⟨U8,oT,ts,hT,Cj⟩) (uA Hi Pf hT Cj ES))
end
section
theorem Inv.Ck{st:St}(gH:p.Ok g.base c.envs)(m:af (aK c.envs) p q)(iv:Inv g c st q s)(ha:p.h.get? a=none/\ ∃o vs,q.h.get? a=some o/\o.data= .fields vs)(nt:dP (aK c.envs) a xs s.heap h')(hold:Old p.h s.heap xs):
  ∃q',Inv g c st q' {s with heap:=h'}/\af (aK c.envs) p q'/\q'.h=h':=by
 have hw:Recs p q (a::xs):=fun b hb=>by
  rcases cL.mp hb with rfl|hb
  ·exact ha
  ·obtain⟨h1,o,vs,z6⟩:=hold b hb;exact⟨h1,o,vs,Rl iv.heap z6.1,z6.2⟩
 have off:∀b,b∉a::xs->b≠a/\b∉xs:=fun b hb=>⟨fun z=>hb (Rw z (.head _)),fun z=>hb (.tail _ z)⟩
 haveI ff:=nt.ff (Rw iv.heap iv.ok.f9) (Rw iv.heap ha.2) fun b hb=>(hold b hb).2
 haveI mM:=(Inv.quiet (V:=q.V) (s':={s with heap:=h'}) gH m hw iv ⟨fun b o e f w=>nt.keep b o (off b w).1 (off b w).2 (Rw iv.heap e) f,fun b o e w=>nt.de b o (off b w).1 (off b w).2 (Rw iv.heap e),fun a v=>.inl v,fun a v=>v,fun a v=>(iv.ok.all a v).elim fun o e=>nt.ext a o (Rw iv.heap e)⟩ rfl rfl ff)
 haveI i2:=mM.1
 haveI m2:=mM.2
 exact⟨_,i2,m2,rfl⟩
theorem ExcAt.TZ(z:ExcAt g h₀ h e x):∃a cl,e= .ref a/\h₀.get? a=none/\g.xA x=some cl/\He (g.P.deep x) h₀ h a cl:=by
 obtain⟨a,oe,vs,cl,e1,e2,e3,e4,e5,e6,e7,e8⟩:=z;exact⟨a,cl,e1,e2,e4,oe,vs,e3,e5,e6,e7,e8⟩
theorem He.exc(fl:He (g.P.deep x) h₀ h a cl)(h0:h₀.get? a=none)(hx:g.xA x=some cl):ExcAt g h₀ h (.ref a) x:=by
 obtain⟨oe,vs,e3,e5,e6,e7,e8⟩:=fl;exact⟨a,oe,vs,cl,rfl,h0,e3,hx,e5,e6,e7,e8⟩
theorem Hj{c:Cx}(co:c.Ok g ks n)(hc:c.comp=false):∃r,c.envs=c.env::r/\c.env.frame=some c.env.locals:=by
 obtain⟨e0,r,z1⟩:=co.frame;exact⟨r,Rw z1.1 (Rw ((z1.2.2 hc).1) rfl),(z1.2.2 hc).2⟩
theorem qV{st:St}(co:c.Ok g ks n)(hc:c.comp=false)(hA:A.frames=some c.envs)(gH:p.Ok g.base c.envs)(m:af (aK c.envs) p q)(iv:Inv g c st q s)(ex:ExcAt g p.h q.h e x)(h:∀q' s',af (aK c.envs) p q'->Inv g c st q' s'->ExcAt g p.h q'.h e x->(∀a,e= .ref a->Seen q'.h a)->Q () s'):wpAny g.M A (noteFrame e c.env) Q E s:=by
 refine Bc fun au=>?_;obtain⟨r,z4⟩:=Hj co hc;obtain⟨a,cl,rfl,h0,hx,fl⟩:=ex.TZ
 haveI Hi:=fl
 obtain⟨oe,vs,z1,z2,z3,_⟩:=Hi;rw[z4.1]at hA;refine au ?_;refine Hh (h₀:=p.h) hA (Rw iv.heap (Rl z4.1 iv.ok.f9)) z4.2 (fun b e=>m.back (Rl iv.heap e)) (Rw iv.heap fl) fun h' xs nt hold ZR sn=>?_;rw[<-z4.1]at nt;obtain⟨q',l5⟩:=iv.Ck gH m ⟨h0,oe,vs,z1,z3⟩ nt hold;exact h q' _ l5.2.1 l5.1 (Rw l5.2.2 (ZR.exc h0 hx)) fun a' ea=>by cases ea;exact Rw l5.2.2 sn
theorem uB{st:St}(gH:p.Ok g.base c.envs)(m:af (aK c.envs) p q)(iv:Inv g c st q s)(ex:ExcAt g p.h q.h e x)(h:∀q' s',af (aK c.envs) p q'->Inv g c st q' s'->ExcAt g p.h q'.h e x->Q () s'):wpAny g.M A (setFlight e fr) Q E s:=by
 obtain⟨a,cl,rfl,h0,hx,fl⟩:=ex.TZ
 haveI Hi:=fl
 obtain⟨oe,vs,z1,z2,z3,_⟩:=Hi;refine Av (h₀:=p.h) (fs:=aK c.envs) (Rw iv.heap fl) fun h' xs nt hold ZR=>?_;obtain⟨q',z6⟩:=iv.Ck gH m ⟨h0,oe,vs,z1,z3⟩ nt hold;exact h q' _ z6.2.1 z6.1 (Rw z6.2.2 (ZR.exc h0 hx))
theorem Hk{st:St}(co:c.Ok g ks n)(hc:c.comp=false)(hA:A.frames=some c.envs)(gH:p.Ok g.base c.envs)(m:af (aK c.envs) p q)(iv:Inv g c st q s)(ex:ExcAt g p.h q.h e x)(h:∀q' s',af (aK c.envs) p q'->Inv g c st q' s'->ExcAt g p.h q'.h e x->Q () s'):wpAny g.M A (leaving c.env e) Q E s:=
 aF (qV co hc hA gH m iv ex fun q1 s1 m1 i1 x1 ω=>uB gH m1 i1 x1 h)
end
structure qD(g:Gl)(envs:List Env)(objs:List bt)(p:Snap)(s:Shared):Prop where
 heap:s.heap=p.h
 gens:s.gens=g.g0
 os:s.os=g.os0
 ok:p.Ok g.base envs
 len:objs.length=p.W.length
 objs:∀k o,objs[k]?=some o->o.live=true->gc g p k o
 wld:∀a cl,p.led a=some cl->cl.tag.bu=true
inductive ZS(g:Gl)(envs:List Env)(p:Snap)(res:gu)(v:Value)(s':Shared):Prop
 |mk(r:RV)(os:List bt)(q:Snap)(e1:res= .ok r os)(e2:af (aK envs) p q)(e3:qD g envs os q s')(e4:iK g q v r):ZS g envs p res v s'
inductive ZT(g:Gl)(envs:List Env)(p:Snap)(res:gu)(e:Value)(s':Shared):Prop
 |mk(x:Nat)(os:List bt)(q:Snap)(e1:res= .exc x os)(e2:af (aK envs) p q)(e3:qD g envs os q s')(e4:ExcAt g p.h q.h e x):ZT g envs p res e s'
set_option backward.match.sparseCases true in
def Spec(g:Gl)(fA:Nat->Option Addr)(n:Nat)(cf:Call):Prop:=
 ∀f fd a,g.P.fn f=some fd->fA f=some a->∀(rs:List RV) (objs:List bt),cf f rs objs≠ .bad->∀(A:Around) (envs:List Env) (p:Snap) (s:Shared) (vs:List Value),
  A.frames=some envs->A.handled=none->A.depth+4*n+6<recursionLimit->A.units+20*n+110<cLine->qD g envs objs p s->cB g p vs rs->
  codeAny g.M A (.call (.ref a) ⟨vs,[]⟩) (fun r s'=>match r with|.ok (.ret v)=>ZS g envs p (cf f rs objs) v s'|.ok _=>False|.error e=>ZT g envs p (cf f rs objs) e s') s
def yj(g:Gl)(q:Snap):Flow->dJ->Prop
 |.next,.next=>True
 |.cont,.cont=>True
 |.ret v,.ret r=>iK g q v r
 |_,_=>False
def Cm{α β:Type}(g:Gl)(c:Cx)(p:Snap)(R:Snap->β->α->Prop)(res:Res α)(v:β)(s':Shared):Prop:=∃m,mJ g (c.at m) p R res v s'
def rW{α:Type}(g:Gl)(c:Cx)(p:Snap)(res:Res α)(e:Value)(s':Shared):Prop:=∃m,je g (c.at m) p res e s'
def rY(g:Gl)(c:Cx)(ss:List Stmt)(f:St->Res dJ):Prop:=
 ∀st p s,Inv g c st p s->f st≠ .bad->wpAny g.M c.A (PySem.execs ss c.env) (Cm g c p (yj g) (f st)) (rW g c p (f st)) s
section
theorem iK.lv(x:iK g p v r):bw g p tag v r.lv:=by induction r<;>exact x
def QM(ks:List (Nat×NameKind))(ps:List (Nat×Bool)):Bool:=ps.all (fun x=>decide (look x.1 ks=some (if x.2 then .cell else .local)))&&decide ((ps.map (·.1)).Nodup)
theorem Hl(inj:∀x y,g.nm x=g.nm y->x=y)(U9:∀x,kf (g.nm x)=look x ks):∀(ps:List (Nat×Bool)) (rs:List RV) (vs:List Value) (mK st:St) (m cm:Str->Option Value),ky ps rs mK=some st->cB g p vs rs->
  (∀x∈ps,look x.1 ks=some (if x.2 then .cell else .local))->(ps.map (·.1)).Nodup->(∀x∈ps,look x.1 mK.loc=none/\look x.1 mK.aW=none)->
  (∀x lv,look x mK.loc=some lv->∃v,m (g.nm x)=some v/\ ∀tag,bw g p tag v lv)->(∀x lv,look x mK.aW=some lv->∃v,cm (g.nm x)=some v/\ ∀tag,bw g p tag v lv)->
  st.cmp=mK.cmp/\st.objs=mK.objs/\ps.length=vs.length/\
  (∀x lv,look x st.loc=some lv->∃v,bindL kf ((ps.map fun q=>g.nm q.1).zip vs) m (g.nm x)=some v/\ ∀tag,bw g p tag v lv)/\
  (∀x lv,look x st.aW=some lv->∃v,bindC kf ((ps.map fun q=>g.nm q.1).zip vs) cm (g.nm x)=some v/\ ∀tag,bw g p tag v lv):=by
 intro zV
 induction zV with
 |nil=>
  intro zV;rcases zV with _|⟨r,rs⟩
  ·intro zV;rcases zV with _|⟨v,vs⟩
   ·exact @fun mK st m cm e ω ω ω ω h1 h2=>Rl (dS e) ⟨rfl,rfl,rfl,h1,h2⟩
   ·exact @fun ω ω ω ω ω r ω ω ω ω ω=>r.elim
  ·intro zV;rcases zV with _|⟨v,vs⟩
   ·exact @fun ω ω ω ω e ω ω ω ω ω ω=>Ns rfl e
   ·exact @fun ω ω ω ω e ω ω ω ω ω ω=>Ns rfl e
 |cons zH ps zI=>
  obtain⟨x,b⟩:=zH;intro zV;rcases zV with _|⟨r,rs⟩
  ·intro zV;rcases zV with _|⟨v,vs⟩
   ·exact @fun ω ω ω ω e ω ω ω ω ω ω=>Ns rfl e
   ·exact @fun ω ω ω ω e ω ω ω ω ω ω=>Ns rfl e
  ·intro zV;rcases zV with _|⟨v,vs⟩
   ·exact @fun ω ω ω ω ω r ω ω ω ω ω=>r.elim
   ·exact @fun mK st m cm e hr hk hn hd h1 h2=>by
     haveI T3:=hk _ (.head _)
     haveI XE:=hd _ (.head _)
     simp only[c7,nu]at hn;have hne:=fun y hy z=>hn.1 (bU.mpr ⟨y,hy,z⟩)
     induction b with
     |false=>
      have T3:look x ks=some .local:=T3;dsimp only at XE;have e:ky ps rs {mK with loc:=mK.loc++ [(x,r.lv)]}=some st:=e;have:=zI rs vs {mK with loc:=mK.loc++ [(x,r.lv)]} st (fun y=>if y=g.nm x then some v else m y) cm e hr.2 (fun y hy=>hk y (.tail _ hy)) hn.2 (fun y hy=>⟨uw (hne y hy) (hd y (.tail _ hy)).1,(hd y (.tail _ hy)).2⟩) (fun y lv z=>?_) h2
      ·simp only[c7,xe,bindL,bindC,U9,T3,if_pos rfl,if_pos rfl];refine⟨this.1,this.2.1,Rw List.length_cons (Rw List.length_cons (Rw this.2.2.1 rfl)),this.2.2.2.1,this.2.2.2.2⟩
      ·rw[iO]at z;by_cases hy:y=x
       ·subst hy;rw[XE.1]at z;simp only[dh,cu,dZ]at z;cases z;exact⟨v,if_pos rfl,fun tag=>hr.1.lv⟩
       ·cases w:look y mK.loc with
        |none=>rw[w]at z;simp[dh,cu,hy]at z
        |some u=>
         rw[w]at z;cases z;obtain⟨v',f1,f2⟩:=h1 y _ w;exact⟨v',Rw (aw fun z=>hy (inj _ _ z)) f1,f2⟩
     |true=>
      have T3:look x ks=some .cell:=T3;dsimp only at XE;have e:ky ps rs {mK with aW:=mK.aW++ [(x,r.lv)]}=some st:=e
      haveI:=zI rs vs {mK with aW:=mK.aW++ [(x,r.lv)]} st m (fun y=>if y=g.nm x then some v else cm y) e hr.2 (fun y hy=>hk y (.tail _ hy)) hn.2 (fun y hy=>⟨(hd y (.tail _ hy)).1,uw (hne y hy) (hd y (.tail _ hy)).2⟩) h1 (fun y lv z=>?_)
      ·refine Rw c7 (Rw xe ?_);rw[bindL,bindC,U9,T3,aw (by decide),aw (by decide)];refine⟨this.1,this.2.1,Rw List.length_cons (Rw List.length_cons (Rw this.2.2.1 rfl)),this.2.2.2.1,this.2.2.2.2⟩
      ·rw[iO]at z;by_cases hy:y=x
       ·subst hy;rw[XE.2]at z;simp only[dh,cu,dZ]at z;cases z;exact⟨v,if_pos rfl,fun tag=>hr.1.lv⟩
       ·cases w:look y mK.aW with
        |none=>rw[w]at z;simp[dh,cu,hy]at z
        |some u=>
         rw[w]at z;cases z;obtain⟨v',f1,f2⟩:=h2 y _ w;exact⟨v',Rw (aw fun z=>hy (inj _ _ z)) f1,f2⟩
theorem cellsFrom_some:∀(names:List (Str×NameKind)) (n:Nat) (acc:List (Str×Addr)),(acc.lookup x).isSome=true\/names.lookup x=some .cell->((cellsFrom n names acc).lookup x).isSome=true:=by
 intro zV
 induction zV with
 |nil=>
  exact @fun n acc h=>by
   rcases h with h|h
   ·exact h
   ·cases h
 |cons zH r zI=>
  obtain⟨y,k⟩:=zH;exact @fun n acc h=>by
   rcases iy (k= .cell)with rfl|hk
   ·apply zI (n+1) ((y,n)::acc);simp only[vh]
    cases e:x==y with
    |true=>exact .inl rfl
    |false=>
     rcases h with h|h
     ·exact .inl h
     ·rw[vh,e]at h;exact .inr h
   ·rw[show cellsFrom n ((y,k)::r) acc=cellsFrom n r acc from by cases k<;>first|rfl|exact absurd rfl hk];apply zI n acc;rcases h with h|h
    ·exact .inl h
    ·rw[vh]at h
     cases e:x==y with
     |true=>rw[e]at h;cases h;exact absurd rfl hk
     |false=>rw[e]at h;exact .inr h
open Classical in
def eY(led:Addr->Option Cell)(nm:Nat->Str)(L:Addr)(m:Str->Option Value)(cs:List (Str×Addr))(cm:Str->Option Value)(a:Addr):Option Cell:=
 if a=L then some ⟨.frame,.ns m⟩else if h:∃x,cs.lookup (nm x)=some a then some ⟨.aW h.choose,.cell (cm (nm h.choose))⟩else led a
theorem Hm(go:g.Ok fA)(wi:qD g envs objs p s)(hL:env.frame=some env.locals)(hkind:env.scope.kind= .function)(x:InCallC s env.locals m env.cells cm s')(hl:∀x lv,look x st2.loc=some lv->∃v,m (g.nm x)=some v/\ ∀tag,bw g p tag v lv)(hc:∀x lv,look x st2.aW=some lv->∃v,cm (g.nm x)=some v/\ ∀tag,bw g p tag v lv)(h1:st2.cmp= [])(h2:st2.objs=objs)(Aa:∀x lv,look x st2.loc=some lv\/look x st2.aW=some lv->∀ds,lv≠ .own ds):
  Inv g ⟨A,env,false,env::envs,m⟩ st2 ⟨fun a=>p.V a\/a=env.locals\/ ∃x,env.cells.lookup (g.nm x)=some a,eY p.led g.nm env.locals m env.cells cm,p.W,s'.heap⟩ s':=by
 refine Bc fun au=>?_;obtain⟨⟨⟨hh,tk,rfl⟩,EO,qc,Hn⟩,hcell,QN,QO⟩:=x;apply au;rw[wi.heap]at qc Hn
 have nw:∀a,env.locals<=a->p.h.get? a=none:=fun a ha=>by
  generalize e:p.h.get? a=zV
  induction zV using Oc with
  |none=>rfl
  |some o=>exact absurd (fk e) (mh.mpr (aI Hn ha))
 have nL:=nw _ (fB _)
 have nC:∀y a,env.cells.lookup (g.nm y)=some a->p.h.get? a=none/\a≠env.locals:=fun y a e=>by
  have:=QO _ _ (mem_of_lookup e);exact⟨nw a (pR this),fun z=>mD _ (z▸this)⟩
 haveI Va:eY p.led g.nm env.locals m env.cells cm env.locals=some ⟨.frame,.ns m⟩:=if_pos rfl
 have QP:∀y a,env.cells.lookup (g.nm y)=some a->eY p.led g.nm env.locals m env.cells cm a=some ⟨.aW y,.cell (cm (g.nm y))⟩:=fun y a e=>by
  have hex:∃x,env.cells.lookup (g.nm x)=some a:=⟨y,e⟩;unfold eY;rw[aw (nC y a e).2,dif_pos hex]
  haveI:hex.choose=y:=go.inj _ _ (name_of_addr QN (mem_of_lookup hex.choose_spec) (mem_of_lookup e))
  refine Rw this ?_;rfl
 have Vb:∀a o,p.h.get? a=some o->eY p.led g.nm env.locals m env.cells cm a=p.led a:=fun a o e=>by
  exact(aw (fun z=>by rw[z,nL]at e;cases e)).trans (dif_neg (fun⟨y,z⟩=>by rw[(nC y a z).1]at e;cases e))
 have Vc:∀a cl,eY p.led g.nm env.locals m env.cells cm a=some cl->(a=env.locals/\cl=⟨.frame,.ns m⟩)\/(∃y,env.cells.lookup (g.nm y)=some a/\cl=⟨.aW y,.cell (cm (g.nm y))⟩)\/p.led a=some cl:=fun a cl e=>by
  by_cases ha:a=env.locals
  ·subst ha;obtain rfl:=dS (Va▸e);exact .inl ⟨rfl,rfl⟩
  ·by_cases hb:∃y,env.cells.lookup (g.nm y)=some a
   ·obtain⟨y,hy⟩:=hb;obtain rfl:=dS ((QP y a hy)▸e);exact .inr (.inl ⟨y,hy,rfl⟩)
   ·delta eY at e
    exact .inr (.inr (((aw ha).trans (dif_neg hb)).symm.trans e))
 have im:∀a o,¬p.V a->p.h.get? a=some o->¬(p.V a\/a=env.locals\/ ∃x,env.cells.lookup (g.nm x)=some a)/\hh.get? a=some o:=fun a o nv e=>⟨fun z=>(by
  rcases z with z|z|⟨y,z⟩
  ·exact nv z
  ·exact Ns nL (z▸e)
  ·rw[(nC y a z).1]at e;cases e),qc a o e⟩
 have bn:∀a,p.h.get? a=none->g.base.get? a=none:=fun a e=>by
  generalize z:g.base.get? a=zV
  induction zV using Oc with
  |none=>rfl
  |some o=>exact Ns e (wi.ok.stays a o z)
 have lv:∀{tag:Tag} {v:Value} {r:LV},(∀ds,r≠ .own ds)->(∀tag,bw g p tag v r)->bw g ⟨fun a=>p.V a\/a=env.locals\/ ∃x,env.cells.lookup (g.nm x)=some a,eY p.led g.nm env.locals m env.cells cm,p.W,hh⟩ tag v r:=fun{tag v r} hr z=>by
  induction r with
  |dat d=>exact aU.imp im (z tag)
  |ref k=>exact z tag
  |own ds=>exact((hr ds) rfl).elim
 refine⟨rfl,wi.gens,wi.os,⟨fun b o e=>qc b o (wi.ok.stays b o e),fun a v=>?_,fun a v=>?_,fun a cl e=>?_,fun a cl e z=>?_,fun a f=>?_,?_⟩,⟨Va,fun y fh e=>?_⟩,h1,fun y fh e a ha=>?_,fun ω y a ha=>⟨_,QP y a ha⟩,Rw h2 wi.len,fun k o e1 e2=>?_⟩
 ·rcases v with v|v|⟨y,v⟩
  ·exact wi.ok.low a v
  ·exact bn _ (v▸nL)
  ·exact bn _ (nC y a v).1
 ·rcases v with v|v|⟨y,v⟩
  ·obtain⟨o,e⟩:=wi.ok.all a v;exact⟨o,qc a o e⟩
  ·exact Rw v (Kind.At.some (k:=.ns m) EO)
  ·obtain⟨o,e,_⟩:=hcell _ _ v;exact⟨o,e⟩
 ·rcases Vc a cl e with⟨rfl,rfl⟩|⟨y,hy,rfl⟩|e'
  ·exact⟨.inr (.inl rfl),EO⟩
  ·exact⟨.inr (.inr ⟨y,hy⟩),hcell _ _ hy⟩
  ·exact⟨.inl (wi.ok.led a cl e').1,(wi.ok.led a cl e').2.at fun o z=>qc a o z⟩
 ·rcases Vc a cl e with⟨rfl,rfl⟩|⟨y,hy,rfl⟩|e'
  ·exact Nf rfl z
  ·exact Nf rfl z
  ·intro f
   delta aK at f
   simp only[wX,hL]at f;rcases cL.mp f with f|f
   ·obtain⟨o,w⟩:=(wi.ok.led a cl e').2.some;exact Ns nL (f▸w)
   ·exact wi.ok.oZ a cl e' z f
 ·unfold aK at f;simp only[wX,hL]at f;rcases cL.mp f with f|f
  ·exact .inr (.inl f)
  ·exact .inl (wi.ok.de a f)
 ·exact Heap.FunFrames.cons (by refine Rw hkind ?_;decide) hL EO rfl (wi.ok.f9.of_keeps fun b o e ω=>⟨o,qc b o e,rfl⟩)
 ·obtain⟨v,f1,f2⟩:=hl y fh e;exact⟨v,f1,lv (Aa y fh (.inl e)) f2⟩
 ·obtain⟨v,z79⟩:=hc y fh e
  haveI f1:=z79.1
  haveI f2:=z79.2
  exact⟨v,.inr (.inr ⟨y,ha⟩),f1▸hcell _ _ ha,lv (Aa y fh (.inr e)) f2,nofun,fun ω=>by dsimp only;rw[QP y a ha,f1]⟩
 ·rw[h2]at e1;obtain⟨y,d,C,m',f1,f2,f3,f4,f5,f6,f7⟩:=wi.objs k o e1 e2;obtain⟨od,ed⟩:=(wi.ok.led d _ f5).2.some;refine⟨y,d,C,m',f1,f2,(im y _ f4 f3).2,(im y _ f4 f3).1,(Vb d od ed).trans f5,f6,fun f fh e=>?_⟩;obtain⟨w1,u,XF⟩:=f7 f fh e;refine⟨w1,u,XF.1,?_⟩
  induction fh with
  |dat d=>exact aU.imp im XF.2
  |ref k=>exact XF.2
  |own ds=>
   refine Bc fun au=>?_;obtain⟨a,us,Vd⟩:=XF.2;obtain⟨oa,ea⟩:=(wi.ok.led a _ Vd.2.1).2.some;exact au ⟨a,us,Vd.1,(Vb a oa ea).trans Vd.2.1,Vd.2.2.imp im⟩
end
section
def Snap.bu(q:Snap):Snap:={q with led:=fun a=>match q.led a with|some cl=>if cl.tag.bu then some cl else none|none=>none}
set_option tactic.hygienic true in
theorem fJ{q:Snap}(h:q.bu.led a=some cl):q.led a=some cl/\cl.tag.bu=true:=by
 unfold Snap.bu at h;dsimp only at h;split at h
 ·rename_i cl' e;split at h
  ·rename_i w;cases h;exact⟨e,w⟩
  ·cases h
 ·cases h
theorem uC{q:Snap}(h:q.led a=some cl)(w:cl.tag.bu=true):q.bu.led a=some cl:=by
 unfold Snap.bu;dsimp only;rw[h];dsimp only;exact(if_pos w)
theorem uD(x:gc g q k o):gc g q.bu k o:=by
 obtain⟨y,d,C,m,f1,f2,f3,f4,f5,f6,f7⟩:=x;refine⟨y,d,C,m,f1,f2,f3,f4,uC f5 rfl,f6,fun f lv e=>?_⟩;obtain⟨a,u,b,z⟩:=f7 f lv e;refine⟨a,u,b,?_⟩
 induction lv with
 |dat d=>exact z
 |ref k=>exact z
 |own ds=>obtain⟨a,vs,z1,z2,z3⟩:=z;exact⟨a,vs,z1,uC z2 rfl,z3⟩
theorem vM(wi:qD g envs objs p s)(hL:env.frame=some L)(nL:p.h.get? L=none)(keep:∀b o,p.h.get? b=some o->h.get? b=some o)(hV:∀a,V a->p.V a\/p.h.get? a=none)(hV':∀a,p.V a->V a)(ho:∀a o,p.h.get? a=some o->led a=p.led a)(m:af (aK (env::envs)) ⟨V,led,p.W,h⟩ q)(iv:Inv g ⟨A,env,false,env::envs,m3⟩ gB q s'):
  af (aK envs) p q.bu/\qD g envs gB.objs q.bu s':=by
 have KQ:∀b,b∈aK (env::envs)->b=L\/b∈aK envs:=fun b hb=>by
  delta aK at hb
  rw[wX,hL]at hb;exact cL.mp hb
 have hfr':∀b,b∈aK envs->b∈aK (env::envs):=fun b hb=>by
  unfold aK;simp only[wX,hL];exact .tail _ hb
 refine⟨⟨fun b o e l f=>?_,fun b o e l=>m.de b o (keep b o e) ((ho b o e).trans l),fun b o e=>m.ext b o (keep b o e),fun a v=>?_,fun a cl e=>?_,fun a v l=>?_,m.pre⟩,⟨iv.heap,iv.gens,iv.os,⟨iv.ok.stays,iv.ok.low,iv.ok.all,fun a cl e=>iv.ok.led a cl (fJ e).1,fun a cl e z f=>iv.ok.oZ a cl (fJ e).1 z (hfr' a f),fun a f=>iv.ok.de a (hfr' a f),iv.ok.f9.2.2⟩,iv.len,fun k o e1 e2=>uD (iv.objs k o e1 e2),fun a cl e=>(fJ e).2⟩⟩
 ·refine m.keep b o (keep b o e) ((ho b o e).trans l) fun z=>?_;rcases KQ b z with z|z
  ·exact Ns nL (z▸e)
  ·exact f z
 ·rcases m.qC a v with z|z
  ·exact hV a z
  ·refine .inr ?_;generalize e:p.h.get? a=zV
   induction zV using Oc with
   |none=>rfl
   |some o=>dsimp only at z;exact Ns z (keep a o e)
 ·rcases m.rO a cl (fJ e).1 with z|z
  ·generalize e':p.h.get? a=zV
   induction zV using Oc with
   |none=>exact .inr rfl
   |some o=>dsimp only at z;exact .inl ((ho a o e')▸z)
  ·refine .inr ?_;generalize e':p.h.get? a=zV
   induction zV using Oc with
   |none=>rfl
   |some o=>dsimp only at z;exact Ns z (keep a o e')
 ·obtain⟨o,e⟩:=wi.ok.all a v;exact m.cls a (hV' a v) ((ho a o e).trans l)
theorem yk(x:iK g q v r):iK g q.bu v r:=by induction r<;>exact x
theorem yl:∀(ps:List (Nat×Bool)) (rs:List RV) (mK st:St),ky ps rs mK=some st->(∀x lv,look x mK.loc=some lv\/look x mK.aW=some lv->∀ds,lv≠ .own ds)->∀x lv,look x st.loc=some lv\/look x st.aW=some lv->∀ds,lv≠ .own ds:=by
 intro zV
 induction zV with
 |nil=>
  intro zV;rcases zV with _|⟨r,rs⟩
  ·exact @fun mK st e h=>Rl (dS e) h
  ·exact @fun ω ω e ω=>Ns rfl e
 |cons zH ps zI=>
  obtain⟨x,b⟩:=zH;intro zV;rcases zV with _|⟨r,rs⟩
  ·exact @fun ω ω e ω=>Ns rfl e
  ·exact @fun mK st e h=>by
    have hr:∀ds,r.lv≠ .own ds:=fun ds z=>by induction r<;>cases z
    have ap:∀(l:List (Nat×LV)) (y:Nat) (lv:LV),look y (l++ [(x,r.lv)])=some lv->look y l=some lv\/lv=r.lv:=fun l y lv z=>by
     rw[iO]at z;generalize w:look y l=zV
     induction zV using Oc with
     |some u=>rw[w]at z;exact .inl z
     |none=>
      rw[w]at z;simp only[dh,cu]at z;split at z
      ·cases z;exact .inr rfl
      ·cases z
    induction b with
    |false=>
     refine zI rs _ st e fun y lv z=>?_;rcases z with z|z
     ·rcases ap _ y lv z with w|rfl
      ·exact h y lv (.inl w)
      ·exact hr
     ·exact h y lv (.inr z)
    |true=>
     refine zI rs _ st e fun y lv z=>?_;rcases z with z|z
     ·exact h y lv (.inl z)
     ·rcases ap _ y lv z with w|rfl
      ·exact h y lv (.inr w)
      ·exact hr
set_option backward.match.sparseCases true in
theorem QQ(go:g.Ok fA)(ha:FnAt g fd a)(hp:QM fd.kinds fd.params=true)(hb:∀c,c.Ok g fd.kinds n->c.comp=false->rY g c (nB g.nm fd.body) (execs g.P cf fd.body))(rs)(objs)(eT:mr g.P cf fd rs objs≠ .bad)(A)(envs)(p)(s)(vs)(hA:A.frames=some envs)(hh:A.handled=none)(Ph:A.depth+4*n+10<recursionLimit)(hun:A.units+20*n+130<cLine)(wi:qD g envs objs p s)(hr:cB g p vs rs):
  codeAny g.M A (.call (.ref a) ⟨vs,[]⟩) (fun r s'=>match r with|.ok (.ret v)=>ZS g envs p (mr g.P cf fd rs objs) v s'|.ok _=>False|.error e=>ZT g envs p (mr g.P cf fd rs objs) e s') s:=by
 obtain⟨o,f0,e1,e2,e3,e4,e5,e6,e7,e8,e9⟩:=ha;simp only[QM,dg,jL,iZ]at hp;have QR:g.base.StaysIn s.heap:=Rw wi.heap wi.ok.stays;generalize hR:mr g.P cf fd rs objs=R at eT⊢;generalize XG:ky fd.params rs ⟨[],[],[],objs⟩=zV
 induction zV using Oc with
 |none=>exact absurd (hR.symm.trans (by delta mr;rw[XG])) eT
 |some st2=>
  rw[qN XG]at hR
  have U9:∀x,(callEnvC f0 s.heap.objs.size a).kindOf (g.nm x)=look x fd.kinds:=fun x=>by
   show f0.scope.names.lookup (g.nm x)=_;refine Rw e4 ?_;exact fH go.inj x fd.kinds
  haveI Ho:=(Hl (p:=p) go.inj U9 fd.params rs vs _ st2 (fun ω=>none) (fun ω=>none) XG hr hp.1 hp.2 (fun ω ω=>⟨rfl,rfl⟩) (fun ω ω z=>nomatch z) (fun ω ω z=>nomatch z))
  haveI b1:=Ho.1
  haveI b2:=Ho.2.1
  haveI b3:=Ho.2.2.1
  haveI b4:=Ho.2.2.2.1
  haveI b5:=Ho.2.2.2.2
  have Aa:=yl fd.params rs _ st2 XG (fun x lv z=>by rcases z with z|z<;>cases z);refine(codeAny_call_cells (body:=nB g.nm fd.body) (fj (aI (fy ..) (fy ..)) Ph) (QR _ _ e1) e2 (go.nolimit.keeps QR) (e8.keeps QR) e3 (e9 vs b3.symm) e7 (fun x hx=>?_) (fun jR x=>?_) (bz _ e4) (bz _ e4) (bz _ e4))
  ·obtain⟨y,hy,hye⟩:=bU.mp ((List.of_mem_zip hx).1);have hk:=hp.1 y hy;have hkn:f0.scope.names.lookup x.1=look y.1 fd.kinds:=Rl hye (Rw e4 (fH go.inj y.1 fd.kinds));refine Rw hkn (Rw hk ?_);generalize hyb:y.2=zV
   induction zV using Tc with
   |false=>exact .inl rfl
   |true=>
    refine .inr ⟨rfl,cellsFrom_some _ _ _ (.inr ?_)⟩;exact Rw hkn (Rw hk (Rw hyb rfl))
  ·generalize Aw:callEnvC f0 s.heap.objs.size a=env at x U9 b4 b5⊢;have hL:env.frame=some env.locals:=Rl Aw rfl;have hLs:env.locals=s.heap.objs.size:=Rl Aw rfl;have Ar:env.scope.kind= .function:=by refine Rl Aw ?_;exact bz _ e4
   have nL:p.h.get? env.locals=none:=by
    generalize e:p.h.get? env.locals=zV
    induction zV using Oc with
    |none=>rfl
    |some o=>exact absurd (fk (wi.heap.symm▸hLs▸e)) (mD _)
   have iv:=Hm (A:=A.deeper env) go wi hL Ar x b4 b5 b1 b2 Aa
   have co:∀m,(⟨A.deeper env,env,false,env::envs,m⟩:Cx).Ok g fd.kinds n:=fun m=>by
    refine⟨Around.frames_deeper hA,hh,?_,?_,?_,?_,Ar,?_,fun x hx=>?_,⟨env,envs,rfl,rfl,fun ω=>⟨rfl,hL⟩⟩⟩
    ·exact Rw (nr A.depth 1 ..) (Fx Ph)
    ·exact Rw (nr A.units 3 ..) (fj (iY (Dn (a:=123) rfl) _) hun)
    ·exact Rl Aw e5
    ·exact Rl Aw e6
    ·refine Rl Aw ?_;exact bz _ e4
    ·have:((cellsFrom (s.heap.objs.size+1) f0.scope.names []).lookup (g.nm x)).isSome=true:=cellsFrom_some _ _ _ (.inr (by refine Rw e4 ?_;exact Rw (show(bh g.nm fd.kinds fd.fast).names=fd.kinds.map fun p=>(g.nm p.1,p.2)from rfl) (Rw (fH go.inj ..) hx)));exact Rl Aw (rk.mp this)
   obtain⟨hk,hk',hk''⟩:(∀b o,p.h.get? b=some o->jR.heap.get? b=some o)/\(∀y c,env.cells.lookup (g.nm y)=some c->p.h.get? c=none)/\True:=by
    refine⟨fun b o e=>x.toInCall.keep b o (Rw wi.heap e),fun y c hc=>?_,trivial⟩;have:=x.above _ _ (mem_of_lookup hc);generalize e:p.h.get? c=zV
    induction zV using Oc with
    |none=>rfl
    |some o=>rw[<-wi.heap]at e;have h1:=fk e;exact absurd (BO h1 (hLs▸this)) (mD _)
   have hV:∀a,(p.V a\/a=env.locals\/ ∃x,env.cells.lookup (g.nm x)=some a)->p.V a\/p.h.get? a=none:=fun a v=>by
    rcases v with v|v|⟨y,v⟩
    ·exact .inl v
    ·exact .inr (v▸nL)
    ·exact .inr (hk' y a v)
   have hO:∀b o,p.h.get? b=some o->eY p.led g.nm env.locals (bindL env.kindOf ((fd.params.map fun q=>g.nm q.1).zip vs) fun ω=>none) env.cells (bindC env.kindOf ((fd.params.map fun q=>g.nm q.1).zip vs) fun ω=>none) b=p.led b:=fun b o e=>by
    exact(aw (fun z=>by rw[z,nL]at e;cases e)).trans (dif_neg (fun⟨y,z⟩=>by rw[hk' y b z]at e;cases e))
   refine bA (hb _ (co _) rfl st2 _ jR iv (fun z=>eT (hR.symm.trans (bz Dk z)))) (fun fl s2 z=>?_) fun e s2 z=>?_
   ·obtain⟨m3,w,gB,q,ee,mm,ii,rr⟩:=z;obtain⟨mw,ww⟩:=vM wi hL nL hk hV (fun a v=>.inl v) hO mm ii;replace hR:=ee▸hR
    induction fl with
    |next=>cases w<;>first|exact rr.elim|exact⟨_,_,_,hR.symm,mw,ww,aU.none⟩
    |cont=>cases w<;>first|exact rr.elim|exact absurd hR.symm eT
    |brk=>cases w<;>exact rr.elim
    |ret v=>induction w<;>first|exact rr.elim|exact⟨_,_,_,hR.symm,mw,ww,yk rr⟩
   ·obtain⟨m3,xx,gB,q,ee,mm,ii,ex⟩:=z;refine Hk (c:=⟨A.deeper env,env,false,env::envs,m3⟩) (co m3) rfl (Around.frames_deeper hA) iv.ok mm ii ex fun q' s3 mm' ii' Ve=>?_;replace hR:=ee▸hR;refine⟨xx,gB.objs,q'.bu,hR.symm,(vM wi hL nL hk hV (fun a v=>.inl v) hO mm' ii').1,(vM wi hL nL hk hV (fun a v=>.inl v) hO mm' ii').2,?_⟩;obtain⟨a',oe,vs',cl,w1,w2,w3,w4,w5,w6,w7,w8⟩:=Ve
    have bk:∀b,jR.heap.get? b=none->p.h.get? b=none:=fun b e=>by
     generalize z:p.h.get? b=zV
     induction zV using Oc with
     |none=>rfl
     |some o=>exact Ns e (hk b o z)
    refine⟨a',oe,vs',cl,w1,bk _ w2,w3,w4,w5,w6,w7,?_⟩;rcases w8 with w8|⟨T,oT,ts,v1,v2,v3,v4,v5,v6⟩
    ·exact .inl w8
    ·exact .inr ⟨T,oT,ts,v1,v2,bk _ v3,v4,v5,v6⟩
end
section
noncomputable def Snap.bare(p:Snap):Snap:=⟨p.V,fun ω=>none,[],p.h⟩
theorem Hp{st:St}(iv:Inv g c st p s):qD g c.envs [] p.bare s:=
 ⟨iv.heap,iv.gens,iv.os,⟨iv.ok.stays,iv.ok.low,iv.ok.all,(fun ω ω e=>nomatch e),(fun ω ω e=>nomatch e),iv.ok.de,iv.ok.f9⟩,rfl,(fun ω ω e=>nomatch e),(fun ω ω e=>nomatch e)⟩
theorem uE{st:St}{os:List bt}(iv:Inv g c st p s)(m:af (aK c.envs) p.bare q)(wi:qD g c.envs os q s'):Inv g c st ⟨q.V,p.led,p.W,s'.heap⟩ s'/\af (aK c.envs) p ⟨q.V,p.led,p.W,s'.heap⟩:=by
 refine Inv.quiet (wr:=[]) iv.ok (af.refl _ _) (fun ω z=>nomatch z) iv ⟨fun b o e f ω=>?_,fun b o e ω=>?_,m.qC,fun a v=>m.cls a v rfl,fun a v=>?_⟩ (wi.gens.trans iv.gens.symm) (wi.os.trans iv.os.symm) (Rw wi.heap wi.ok.f9)
 ·exact Rw wi.heap (m.keep b o e rfl f)
 ·exact Rw wi.heap (m.de b o e rfl)
 ·exact Rw wi.heap (wi.ok.all a v)
theorem uF{st:St}(iv:Inv g c st p s):qD g c.envs st.objs p.bu s:=
 ⟨iv.heap,iv.gens,iv.os,⟨iv.ok.stays,iv.ok.low,iv.ok.all,fun a cl e=>iv.ok.led a cl (fJ e).1,fun a cl e=>iv.ok.oZ a cl (fJ e).1,iv.ok.de,iv.ok.f9⟩,iv.len,fun k o e1 e2=>uD (iv.objs k o e1 e2),fun a cl e=>(fJ e).2⟩
def Snap.join(p q:Snap):Snap:=⟨q.V,fun a=>match p.led a with|some cl=>if cl.tag.bu then q.led a else some cl|none=>q.led a,q.W,q.h⟩
theorem kH{p:Snap}(e:p.led a=some cl)(w:cl.tag.bu=false):(p.join q).led a=some cl:=by
 unfold Snap.join;dsimp only;rw[e];dsimp only;exact(aw (by rw[w];decide))
set_option tactic.hygienic true in
theorem mO{st:St}{os:List bt}(iv:Inv g c st p s)(m:af (aK c.envs) p.bu q)(wi:qD g c.envs os q s'):Inv g c {st with objs:=os} (p.join q) s'/\af (aK c.envs) p (p.join q):=by

 have DH:∀a cl,p.led a=some cl->cl.tag.bu=false->p.bu.led a=none:=fun a cl e w=>by
  unfold Snap.bu;dsimp only;rw[e];dsimp only;exact(aw (by rw[w];decide))
 have ZU:∀a cl,p.led a=some cl->cl.tag.bu=false->q.led a=none:=fun a cl e w=>by
  generalize z:q.led a=zV
  induction zV using Oc with
  |none=>rfl
  |some cl'=>
   rcases m.rO a cl' z with y|y
   ·exact(y (DH a cl e w)).elim
   ·obtain⟨o,e'⟩:=(iv.ok.led a cl e).2.some;exact Ns y ((show p.bu.h=p.h from rfl)▸e')
 have jq:∀a cl,q.led a=some cl->(p.join q).led a=some cl:=fun a cl e=>by
  unfold Snap.join;dsimp only;split
  ·rename_i cl' e';split
   ·exact e
   ·rename_i w;exact Ns (ZU a cl' e' (by simpa using w)) e
  ·exact e
 have jc:∀a cl,(p.join q).led a=some cl->(p.led a=some cl/\cl.tag.bu=false)\/q.led a=some cl:=fun a cl e=>by
  delta Snap.join at e;dsimp only at e
  split at e
  ·rename_i cl' e';split at e
   ·exact .inr e
   ·rename_i w;cases e;exact .inl ⟨e',by simpa using w⟩
  ·exact .inr e
 have XH:∀b,p.led b=none->p.bu.led b=none:=fun b l=>by unfold Snap.bu;dsimp only;rw[l]
 have mv:af (aK c.envs) p (p.join q):=by
  refine⟨fun b o e l f=>m.keep b o e (XH b l) f,fun b o e l=>m.de b o e (XH b l),m.ext,m.qC,fun a cl e=>?_,fun a v l=>m.cls a v (XH a l),m.pre⟩;rcases jc a cl e with⟨z,_⟩|z
  ·exact .inl (Rw z (fun z=>by injection z))
  ·rcases m.rO a cl z with y|y
   ·refine .inl fun w=>y (XH a w)
   ·exact .inr y
 have at_:∀a cl,p.led a=some cl->cl.tag.bu=false->(p.join q).V a/\cl.kind.At q.h a:=fun a cl e w=>by
  refine⟨m.cls a (iv.ok.led a cl e).1 (DH a cl e w),?_⟩;by_cases hf:a∈aK c.envs
  ·refine(iv.ok.led a cl e).2.slots (fun o z=>m.de a o z (DH a cl e w)) ?_;generalize z:cl.kind.iI=zV
   induction zV using Tc with
   |false=>rfl
   |true=>exact((iv.ok.oZ a cl e z) hf).elim
  ·exact(iv.ok.led a cl e).2.at fun o z=>m.keep a o z (DH a cl e w) hf
 have kg:(p.join q).Ok g.base c.envs:=by
  refine⟨wi.ok.stays,wi.ok.low,wi.ok.all,fun a cl e=>?_,fun a cl e z=>?_,wi.ok.de,wi.ok.f9⟩
  ·rcases jc a cl e with⟨z,w⟩|z
   ·exact at_ a cl z w
   ·exact wi.ok.led a cl z
  ·rcases jc a cl e with⟨z',w⟩|z'
   ·exact iv.ok.oZ a cl z' z
   ·exact wi.ok.oZ a cl z' z
 refine⟨⟨wi.heap,wi.gens,wi.os,kg,?_,iv.emp,fun y fh e=>?_,fun hc y b e=>?_,wi.len,fun k o e1 e2=>?_⟩,mv⟩
 ·haveI e1:=iv.ns'.1
  have e2:=iv.ns'.2
  have hw:=by
   show c.tag.bu=false;unfold Cx.tag;cases c.comp<;>rfl
  exact⟨kH e1 hw,fun y fh e=>(e2 y fh e).elim fun u zL=>zL.elim fun a b=>⟨u,a,mv.lv iv.ok (fun a vs z=>kH z rfl) b⟩⟩
 ·refine mx.moves mv iv.ok kg (fun ω a v z=>kH z rfl) (fun a vs z=>kH z rfl) (iv.aW y fh e)
 ·obtain⟨v,w⟩:=iv.jP hc y b e;exact⟨v,kH w rfl⟩
 ·obtain⟨y,d,C,mm,f1,f2,f3,f4,f5,f6,f7⟩:=wi.objs k o e1 e2;refine⟨y,d,C,mm,f1,f2,f3,f4,jq _ _ f5,f6,fun f fh e=>?_⟩;obtain⟨a,u,b,z⟩:=f7 f fh e;refine⟨a,u,b,?_⟩
  induction fh with
  |dat d=>exact z
  |ref k=>exact z
  |own ds=>obtain⟨a,vs,z1,z2,z3⟩:=z;exact⟨a,vs,z1,jq _ _ z2,z3⟩
theorem rZ:∀{vs:List Value} {rs:List RV} {ds:List D},oO rs=some ds->cB g p vs rs->cB g p.bare vs rs
 | [],[],_,_,_=>trivial
 | [],_::_,_,_,x=>x.elim
 |_::_,[],_,_,x=>x.elim
 |v::vs,r::rs,ds,e,⟨a,b⟩=>by
  induction r with
  |ref k=>cases e
  |dat d=>
   haveI e':=(Cs (iu.mp e)).1
   exact⟨a,rZ e' b⟩
theorem o8:∀{vs:List Value} {rs:List RV},cB g p vs rs->cB g p.bu vs rs
 | [],[],_=>trivial
 | [],_::_,x=>x.elim
 |_::_,[],x=>x.elim
 |_::_,_::_,⟨a,b⟩=>⟨yk a,o8 b⟩
theorem ExcAt.base(z:ExcAt g h₁ h e x)(hb:∀b,h₁.get? b=none->h₀.get? b=none):ExcAt g h₀ h e x:=by
 obtain⟨a,oe,vs,cl,e1,e2,e3,e4,e5,e6,e7,e8⟩:=z;refine⟨a,oe,vs,cl,e1,hb _ e2,e3,e4,e5,e6,e7,?_⟩;rcases e8 with e8|⟨T,oT,ts,f1,f2,f3,f4,f5,f6⟩
 ·exact .inl e8
 ·exact .inr ⟨T,oT,ts,f1,f2,hb _ f3,f4,f5,f6⟩
theorem ym{st:St}(co:c.Ok g ks n)(sp:Spec g fA n cf)(hf:g.P.fn f=some fd)(ha:fA f=some a)(iv:Inv g c st p s)(hr:cB g p vs rs)(hb:bM cf f rs st≠ .bad):
  wpAny g.M c.A (PySem.call (.ref a) vs) (mJ g c p (iK g) (bM cf f rs st)) (je g c p (bM cf f rs st)) s:=by
 unfold bM at hb⊢;refine bA (BV (sp f fd a hf ha rs st.objs (fun z=>(z▸hb) rfl) c.A c.envs p.bu s vs co.frames co.handled (fj (iY (Dn rfl) _) co.depth) (fj (iY (Dn rfl) _) co.units) (uF iv) (o8 hr))) (fun v s2 z=>?_) fun e s2 z=>?_
 ·obtain⟨r,os,q,e1,m1,w1,r1⟩:=z;obtain⟨i2,m2⟩:=mO iv m1 w1;exact⟨r,_,_,Rw e1 rfl,m2,i2,by induction r<;>exact r1⟩
 ·obtain⟨x,os,q,e1,m1,w1,r1⟩:=z;obtain⟨i2,m2⟩:=mO iv m1 w1;exact⟨x,_,_,Rw e1 rfl,m2,i2,r1⟩
theorem KR{st:St}(co:c.Ok g ks n)(sp:Spec g fA n cf)(hf:g.P.fn f=some fd)(ha:fA f=some a)(iv:Inv g c st p s)(hr:cB g p vs rs)(hb:g5 cf f rs st≠ .bad):
  wpAny g.M c.A (PySem.call (.ref a) vs) (mJ g c p (iK g) (g5 cf f rs st)) (je g c p (g5 cf f rs st)) s:=by
 unfold g5 at hb⊢;generalize hd:oO rs=zV
 induction zV using Oc with
 |none=>
  rw[hd]at hb;exact ym co sp hf ha iv hr hb
 |some ds=>
  replace hb:=hd▸hb;dsimp only at hb⊢;refine bA (BV (sp f fd a hf ha rs [] (fun z=>(z▸hb) rfl) c.A c.envs p.bare s vs co.frames co.handled (fj (iY (Dn rfl) _) co.depth) (fj (iY (Dn rfl) _) co.units) (Hp iv) (rZ hd hr))) (fun v s2 z=>?_) fun e s2 z=>?_
  ·obtain⟨r,os,q,e1,m1,w1,r1⟩:=z;obtain⟨i2,m2⟩:=uE iv m1 w1;rw[e1]at hb⊢
   induction r with
   |ref k=>exact(hb rfl).elim
   |dat d=>exact⟨_,_,_,rfl,m2,i2,Rw w1.heap r1⟩
  ·obtain⟨x,os,q,e1,m1,w1,r1⟩:=z;obtain⟨i2,m2⟩:=uE iv m1 w1;exact Rw e1 ⟨x,_,_,rfl,m2,i2,by show ExcAt g p.h s2.heap e x;rw[w1.heap];exact r1⟩
theorem plain_any(nm:Nat->Str)(env)(pos):∀ms:List ME,(backTo pos (starEach (ba nm ms) env)).any (·.1)=false
 | []=>rfl
 |m::ms=>by
  haveI:=plain_any nm env pos ms
  simp only[rD,rE];refine Rw (bL ..) ?_;exact this
theorem iP:∀(ms:List ME),wpAny M A (spliced (backTo pos (starEach (ba nm ms) env))) (fun vs s'=>Q ⟨vs,[]⟩ s') E s->wpAny M A (evalArgs f true (backTo pos (starEach (ba nm ms) env)) []) Q E s
 | []=>@fun h=>by
  refine aF (bA h (fun vs s' h'=>?_) fun ω ω x=>x)
  first
   |exact aF (bY (ix (aF (bY (aF (bY (bY h')))))))
   |exact ix (aF (bY (aF (bY (bY h')))))
 |m::ms=>@fun h=>by
  simp only[rD,rE]at h⊢;rw[bL]at h⊢;exact Calls.evalArgs_plain h
end
section
theorem Hq(go:g.Ok fA)(co:c.Ok g ks n)(sp:Spec g fA n cf)(hf:g.P.fn f=some fd)(oI:f<1000)(hk:look f ks=some .globalImplicit)(h:∀m∈args,aA g c (aB g.nm m) (ev g.P cf m)):
  SVal g c (.Call (.Name (g.nm f) np) (ba g.nm args) [] pos) fun st=>(g4 (bS g.P cf args) st).bind fun rs st=>g5 cf f rs st:=by
 intro st p s iv hb;refine Bc fun au=>?_;obtain⟨a,ha,⟨o,f0,e1,e2,_⟩⟩:=go.fn f fd hf;apply au;refine BW rfl (jo (gd co ((co.kindOf go.inj ..).trans (hk ..)) (Rw iv.heap iv.ok.stays) (go.gfn f a oI ha) (Nc (o:=o) (fd:=f0) (iP args ?_))) (go.o4 f));refine step (qS args h st p s iv (ah hb)) iv.ok (af.refl _ _) (fun x aE e=>ar e) fun rs st1 q1 s1 vs e3 m1 ω i1 r1=>⟨⟨?_,e2⟩,?_⟩
 ·exact Rw i1.heap (i1.ok.stays _ _ e1)
 ·exact bA (KR co sp hf ha i1 r1 (fun z=>hb ((aa e3).trans z))) (fun v s2 z=>z.eS iv.ok m1 (aa e3)) fun v s2 z=>z.eS iv.ok m1 (aa e3)
theorem vN(nm:Nat->Str)(env)(pos)(args)(hl:args.length<30):methodCallForm ((ba nm args).length+([]:List Keyword).length) (backTo pos (starEach (ba nm args) env)) []=true:=by
 delta methodCallForm
 haveI h1:(backTo pos (starEach (ba nm args) env)).all (!·.1)=true:=by
  haveI:=plain_any nm env pos args
  rw[Fw]at this;rw[jL];intro x hx
  haveI:=this x hx
  simpa using this
 refine Rw h1 (Rw (pY ..) ?_);simp[hl]
def yn(P:dH)(cf:Call)(args:List Ev)(m:Nat)(r:RV)(st:St):Res RV:=match r with
  |.dat _=>.bad
  |.ref k=>match st.objs[k]? with
   |none=>.bad
   |some ob=>if ob.live then(match P.gv ob.cls m with
    |none=>.bad
    |some f=>(g4 args st).bind fun rs st=>bM cf f (.ref k::rs) st)else .bad
theorem DI{st:St}(hb:yn P cf args m r st≠ .bad):∃k ob f,r= .ref k/\st.objs[k]?=some ob/\ob.live=true/\P.gv ob.cls m=some f/\yn P cf args m r st=(g4 args st).bind fun rs st=>bM cf f (.ref k::rs) st:=by
 induction r with
 |dat d=>exact(hb rfl).elim
 |ref k=>
  generalize hR:yn P cf args m (.ref k) st=R at*;refine Bc fun au=>?_
  delta yn at hR
  dsimp only at hR;generalize EP:st.objs[k]?=zV
  induction zV using Oc with
  |none=>exact absurd (EP▸hR).symm hb
  |some ob=>
   replace hR:=EP▸hR;dsimp only at hR;generalize yo:ob.live=zV
   induction zV using Tc with
   |false=>exact absurd (yo▸hR).symm hb
   |true=>
    rw[yo,if_pos rfl]at hR;generalize hm:P.gv ob.cls m=zV
    induction zV using Oc with
    |none=>exact absurd (hm▸hR).symm hb
    |some f=>refine au ?_;exact⟨k,ob,f,rfl,EP,yo,hm,(hm▸hR).symm⟩
theorem Hr(go:g.Ok fA)(co:c.Ok g ks n)(sp:Spec g fA n cf)(fx:gy o=true)(o9:ap.endLine=pos.line)(hlen:args.length<30)(hfn:∀cl f,g.P.gv cl m=some f->∃fd,g.P.fn f=some fd)(ho:aA g c (aB g.nm o) (ev g.P cf o))(h:∀m∈args,aA g c (aB g.nm m) (ev g.P cf m)):
  SVal g c (.Call (.Attribute (aB g.nm o) (g.nm m) ap) (ba g.nm args) [] pos) fun st=>((ev g.P cf o).val st).bind (yn g.P cf (bS g.P cf args) m):=by
 intro st p s iv hb
 have he:eval (.Call (.Attribute (aB g.nm o) (g.nm m) ap) (ba g.nm args) [] pos) c.env=(do
   let ov<-eval (aB g.nm o) c.env
   standAt ap.atName
   methodCall (aB g.nm o) (g.nm m) ap pos c.env ov ((ba g.nm args).length+([]:List Keyword).length) (backTo pos (starEach (ba g.nm args) c.env)) (backToKw pos (keywordEach [] c.env))):=by
  refine Rl (qT (nm:=g.nm) (o:=o) (attr:=g.nm m) (env:=c.env) (whole:=eval (aB g.nm o) c.env) fx) ?_
  with_unfolding_all rfl
 refine Rw he ?_;refine aF (step (ho.val st p s iv (ah hb)) iv.ok (af.refl _ _) (fun x aE e=>ar e) fun r st1 q1 s1 vo e1 m1 ω i1 r1=>aF (jM ?_));refine Bc fun au=>?_;have hb1:=fun z=>hb ((aa e1).trans z);obtain⟨k,ob,f,rfl,EP,yo,hm,hG⟩:=DI hb1;obtain⟨xd,w1,rfl⟩:=r1;rw[hG]at hb1;obtain⟨x,d,C,mm,od,B7⟩:=i1.inst EP yo
 haveI f1:=B7.1
 haveI B7:=B7.2
 rw[w1]at f1;cases f1;obtain⟨nf,a,ha,O5⟩:=go.gv _ _ _ _ hm B7.1;obtain⟨fd,Pj⟩:=hfn _ _ hm;obtain⟨a',ha',⟨oo,f0,g1,g2,_⟩⟩:=go.fn f fd Pj;rw[ha]at ha';cases ha'
 haveI o7:=(go.cls _ _ B7.1)
 haveI a2:=o7.2.1
 haveI a3:=o7.2.2.1
 have hsh:shadowIn (some od) (g.nm m)=some false:=by
  unfold shadowIn;dsimp only;rw[B7.2.2.2.2.1];generalize z:mm (g.nm m)=zV
  induction zV using Oc with
  |none=>rfl
  |some v=>
   obtain⟨y,y1,y2⟩:=B7.2.2.2.2.2.1 (g.nm m) (Rw z (fun z=>by injection z));rw[<-go.inj _ _ y1]at y2;exact Nf nf y2
 refine au ?_
 delta methodCall
 refine Rw (show backToKw pos (keywordEach [] c.env)= []from rfl) (Rw (vN g.nm c.env pos args hlen) ?_);refine aF (ix ?_);refine method_fn (i1.O7 go) B7.2.1 a2 a3 O5.1 O5.2 hsh ?_;dsimp only;unfold methodCallPos;rw[if_pos (by rw[o9];simp)];refine aF (bY (Nc (o:=oo) (fd:=f0) (iP args ?_)));refine step (qS args h st1 q1 s1 i1 (ah hb1)) iv.ok m1 (fun x aE e=>(aa e1).trans (hG.trans (ar e))) fun rs st2 q2 s2 vs e3 m2 qQ i2 r2=>⟨⟨?_,g2⟩,?_⟩
 ·exact Rw i2.heap (i2.ok.stays _ _ g1)
 ·haveI iM:=fun z=>hb1 ((aa e3).trans z)
  haveI hr:cB g q2 (.ref x::vs) (.ref k::rs):=⟨⟨(x,d),lD qQ.pre w1,rfl⟩,r2⟩
  haveI eW:=(aa e1).trans (hG.trans (aa e3))
  exact bA (ym co sp Pj ha i2 hr iM) (fun v s3 z=>z.eS iv.ok m2 eW) fun v s3 z=>z.eS iv.ok m2 eW
theorem Inv.QS{st:St}(iv:Inv g c st p s)(hk:k=st.objs.length)(hC:g.cA cl=some C)(hx:p.h.get? x=some (instObj C d))(nx:¬p.V x)(hd:p.led d=some ⟨.dict k,.sX fun ω=>none⟩):
  Inv g c {st with objs:=st.objs++ [⟨true,cl,[]⟩]} {p with W:=p.W++ [(x,d)]} s/\af (aK c.envs) p {p with W:=p.W++ [(x,d)]}:=by
 have mv:af (aK c.envs) p {p with W:=p.W++ [(x,d)]}:=⟨fun ω ω e ω ω=>e,fun ω o e ω=>⟨o.slots,e⟩,fun ω o e=>⟨o,e⟩,fun ω v=>.inl v,fun a c e=>.inl (Rw (show p.led a=some c from e) (fun z=>by injection z)),fun ω v ω=>v,List.prefix_append _ _⟩;have kg:({p with W:=p.W++ [(x,d)]}:Snap).Ok g.base c.envs:=⟨iv.ok.stays,iv.ok.low,iv.ok.all,iv.ok.led,iv.ok.oZ,iv.ok.de,iv.ok.f9⟩;refine⟨⟨iv.heap,iv.gens,iv.os,kg,?_,iv.emp,fun y lv e=>mx.moves mv iv.ok kg (fun ω a v z=>z) (fun a vs z=>z) (iv.aW y lv e),iv.jP,?_,fun j o e1 e2=>?_⟩,mv⟩
 ·haveI Vf:=iv.ns'
  haveI e1:=Vf.1
  haveI e2:=Vf.2
  exact⟨e1,fun y v e=>(e2 y v e).elim fun u zL=>⟨u,zL.1,mv.lv iv.ok (fun ω ω z=>z) zL.2⟩⟩
 ·simp only[cZ,List.length_cons,List.length_nil,iv.len]
 ·by_cases hj:j<st.objs.length
  ·rw[E5 hj]at e1;exact gc.moves mv iv.ok (fun d m z=>z) (fun f a vs z=>z) (iv.objs j o e1 e2)
  ·rw[Bm (kl hj)]at e1
   have hj0:j-st.objs.length=0:=by
    generalize h:j-st.objs.length=zV
    induction zV using Nat.casesAuxOn with
    |zero=>rfl
    |succ i=>rw[h]at e1;simp at e1
   have hjk:j=k:=(xk (Bn hj0) (kl hj)).trans hk.symm;rw[hj0]at e1;simp only[List.getElem?_cons_zero,Fg]at e1;subst e1;refine⟨x,d,C,fun ω=>none,?_,hC,hx,nx,Rw hjk hd,fun y hy=>absurd rfl hy,fun f lv e=>nomatch e⟩;simp only[hjk,hk,iv.len];simp
theorem dp6{a b n L:Nat}(h:a=b+1)(k:b+4*n+8<L):a+4*n+6<L:=by
 subst h;rw[nr b 1];exact Fx k
theorem ZV{a b n L:Nat}(h:a<=b+5)(k:b+20*n+120<L):a+20*n+110<L:=by
 refine fj (l4 (l4 h _) 110) ?_;rw[nr b 5];exact fj (iY (Dn rfl:5+110<=120) _) k
theorem KS{g:Gl}{fA:Nat->Option Addr}{ks:List (Nat×NameKind)}{n:Nat}{c:Cx}{cf:Call}(go:g.Ok fA)(co:c.Ok g ks n)(sp:Spec g fA n cf){cl f:Nat}{fd:FD}{args:List ME}{np pos:Pos}(hi:g.P.init cl=some f)(Pj:g.P.fn f=some fd)(hk:look cl ks=some .globalImplicit)(qc:∀C,g.cA cl=some C->keepIn g.K (.ref C)=true)(h:∀m∈args,aA g c (aB g.nm m) (ev g.P cf m)):
  SVal g c (.Call (.Name (g.nm cl) np) (ba g.nm args) [] pos) fun st=>(g4 (bS g.P cf args) st).bind fun rs st=>match g.P.init cl with
  |none=>.bad
  |some f=>(match cf f (.ref st.objs.length::rs) (st.objs++ [⟨true,cl,[]⟩])with
   |.ok (.dat .none) os=>.ok (.ref st.objs.length) {st with objs:=os}
   |_=>.bad):=by
 intro st p s iv hb;refine Bc fun au=>?_;obtain⟨C,a,hC,z9⟩:=go.init cl f hi
 haveI hlk:=(go.cls _ _ hC).1
 haveI a7:=(go.cls _ _ hC).2.2.2.2.2.2
 apply au;refine BW rfl (jo (gd co ((co.kindOf go.inj ..).trans (hk ..)) (Rw iv.heap iv.ok.stays) hlk (callWith_of (P:=fun h=>g.K.In h) (Rw (plain_any ..) rfl) (fun h X=>keeps_K (qc C hC) h X) (iP args ?_))) (go.o4 cl));refine step (qS args h st p s iv (ah hb)) iv.ok (af.refl _ _) (fun x aE e=>ar e) fun rs st1 q1 s1 vs e3 m1 ω i1 r1=>⟨i1.O7 go,?_⟩
 haveI hb1:=fun z=>hb ((aa e3).trans z)
 replace hb1:=hi▸hb1;dsimp only at hb1;refine Rw (t6 vs) ?_;apply BV;obtain⟨hh,gg,dd,tt,oss⟩:=s1;have X:=i1.O7 go;have Hs:hh=q1.h:=i1.heap;refine make_core (makes_of X a7) (looks_findIn X z9.2.1) (fun self=>bind_fn X self z9.2.2) (.inl rfl) ?_
 haveI hu1:(c.A.under (.builtin "type.__call__" ⟨.ref C::vs,[]⟩)).depth=c.A.depth+1:=rfl
 haveI hu2:(c.A.under (.builtin "type.__call__" ⟨.ref C::vs,[]⟩)).units<=c.A.units+5:=iY (show Code.cUnits (.builtin "type.__call__" ⟨.ref C::vs,[]⟩)<=5 by exact bR rfl) _
 haveI hu3:(c.A.under (.builtin "type.__call__" ⟨.ref C::vs,[]⟩)).frames=some c.envs:=co.frames
 haveI hu4:(c.A.under (.builtin "type.__call__" ⟨.ref C::vs,[]⟩)).handled=none:=co.handled
 generalize c.A.under (.builtin "type.__call__" ⟨.ref C::vs,[]⟩)=A' at hu1 hu2 hu3 hu4⊢;refine Bc fun au=>?_
 haveI hd0:q1.h.get? hh.objs.size=none:=by
  generalize e:q1.h.get? hh.objs.size=zV
  induction zV using Oc with
  |none=>rfl
  |some o=>exact absurd (fk (Hs.symm▸e)) (mD _)
 haveI EO:((hh.push emptyDict).push (instObj C hh.objs.size)).Ns1 hh.objs.size fun ω=>none:=
  ⟨_,#[],0,il _ (fX _ rfl),rfl,(fun ω he=>by simp at he),(List.Pairwise.nil),fun ω=>rfl⟩
 obtain⟨i2,m2⟩:=i1.Ch (s':=⟨(hh.push emptyDict).push (instObj C hh.objs.size),gg,dd,tt,oss⟩) (cl:=⟨.dict st1.objs.length,.sX fun ω=>none⟩) hd0 (fun b o e=>il _ (il _ (Rw Hs e))) EO rfl rfl
 haveI hx:=by
  haveI:=fX (hh.push emptyDict) (o:=instObj C hh.objs.size) rfl
  rwa [t9]at this
 haveI nx:¬(q1.openAt hh.objs.size ⟨.dict st1.objs.length,.sX fun ω=>none⟩ ((hh.push emptyDict).push (instObj C hh.objs.size))).V (hh.objs.size+1):=fun z=>by
  rcases z with z|z
  ·obtain⟨o,e⟩:=i1.ok.all _ z;exact mD _ (Fx (fk (Hs.symm▸e)))
  ·exact(Nat.succ_ne_self _) z
 obtain⟨i3,m3⟩:=i2.QS (k:=st1.objs.length) rfl hC hx nx (if_pos rfl)
 haveI XI:=(m1.trans iv.ok m2).trans iv.ok m3
 have hW:(q1.W++ [(hh.objs.size+1,hh.objs.size)])[st1.objs.length]?=some (hh.objs.size+1,hh.objs.size):=by rw[i1.len];simp
 generalize uG:cf f (.ref st1.objs.length::rs) (st1.objs++ [⟨true,cl,[]⟩])=zV
 induction zV using gu.casesOn with
 |bad=>exact absurd rfl (uG▸hb1)
 |exc x os=>replace hb1:=uG▸hb1;exact hb1 rfl
 |ok r os=>
  replace hb1:=uG▸hb1
  haveI Vg:r= .dat .none:=by
   induction r with
   |ref k=>exact(hb1 rfl).elim
   |dat d=>induction d using PyData.casesOn<;>first|rfl|exact absurd rfl hb1
  subst Vg
  haveI hsp:=sp f fd a Pj z9.1 (.ref st1.objs.length::rs) (st1.objs++ [⟨true,cl,[]⟩]) (by rw[uG];exact(fun z=>by injection z)) A' c.envs _ _ (.ref (hh.objs.size+1)::vs) hu3 hu4 (dp6 hu1 co.depth) (ZV hu2 co.units) (uF i3)
   ⟨⟨(hh.objs.size+1,hh.objs.size),hW,rfl⟩,o8 ((m2.trans i1.ok m3).Ks i1.ok r1)⟩
  refine au ?_;refine codeAny_mono hsp fun rr s2 z=>?_;rw[uG]at z
  cases rr with
  |error e=>obtain⟨x,QT,q,e1,_⟩:=z;cases e1
  |ok fl=>
   induction fl with
   |ret v=>
    obtain⟨r,QT,q,e1,mq,wq,rq⟩:=z;cases e1;refine⟨(by cases rq;rfl),?_⟩
    haveI Vh:=(mO i3 mq wq)
    haveI i4:=Vh.1
    haveI m4:=Vh.2
    refine⟨.ref st1.objs.length,_,_,(aa e3).trans (by rw[hi];dsimp only;rw[uG]),XI.trans iv.ok m4,i4,_,lD m4.pre hW,rfl⟩
   |_=>exact z.elim
end
section
def gf(g:Gl)(c:Cx)(ss:Stmt)(f:St->Res dJ):Prop:=
 ∀st p s,Inv g c st p s->f st≠ .bad->wpAny g.M c.A (PySem.exec ss c.env) (Cm g c p (yj g) (f st)) (rW g c p (f st)) s
theorem je.toS(z:je g c p res e s):rW g c p res e s:=⟨c.m,z⟩
theorem rW.lift{res:Res α}{whole:Res β}(ok:p.Ok g.base c.envs)(m:af (aK c.envs) p q)(hx:∀x aE,res= .exc x aE->whole= .exc x aE)(z:rW g c q res e s):rW g c p whole e s:=by
 letI mm:=Ce z
 haveI z:=(Cs z)
 exact⟨mm,je.lift (c:=c.at mm) ok m hx z⟩
theorem Cm.lift(ok:p.Ok g.base c.envs)(m:af (aK c.envs) p q)(e:GP=res)(z:Cm g c q R res v s):Cm g c p R GP v s:=by
 obtain⟨mm,z⟩:=z;exact⟨mm,Rw e (mJ.lift (c:=c.at mm) ok m z)⟩
theorem rW.eS(ok:p.Ok g.base c.envs)(m:af (aK c.envs) p q)(e:GP=res)(z:rW g c q res v s):rW g c p GP v s:=
 rW.lift ok m (fun x aE h=>e.trans h) z
theorem iQ{R:Snap->γ->α->Prop}{res:Res α}{whole:Res β}{t:Sem γ}{Q:γ->Shared->Prop}(hw:wpAny M A t (mJ g c q R res) (je g c q res) s)(ok:p.Ok g.base c.envs)(m:af (aK c.envs) p q)(hx:∀x aE,res= .exc x aE->whole= .exc x aE)(k:∀a st1 r s1 v,res= .ok a st1->af (aK c.envs) p r->af (aK c.envs) q r->Inv g c st1 r s1->R r v a->Q v s1):wpAny M A t Q (rW g c p whole) s:=
 bA (step hw ok m hx k) (fun ω ω z=>z) fun ω ω z=>z.toS
theorem Vi{R:Snap->γ->α->Prop}{res:Res α}{whole:Res β}{t:Sem γ}{Q:γ->Shared->Prop}(hw:wpAny M A t (Cm g c q R res) (rW g c q res) s)(ok:p.Ok g.base c.envs)(m:af (aK c.envs) p q)(hx:∀x aE,res= .exc x aE->whole= .exc x aE)(k:∀a st1 r s1 v mm,res= .ok a st1->af (aK c.envs) p r->af (aK c.envs) q r->Inv g (c.at mm) st1 r s1->R r v a->Q v s1):wpAny M A t Q (rW g c p whole) s:=
 bA hw (fun v s1 z=>by
  obtain⟨mm,a,st1,r,e1,e2,e3,e4⟩:=z
  exact k a st1 r s1 v mm e1 (m.trans ok e2) e2 e3 e4) fun e s1 z=>rW.lift ok m hx z
theorem KU:rY g c [] fun st=>.ok .next st:=fun st p s iv ω=>BD ⟨c.m,.next,st,p,rfl,af.refl _ _,iv,trivial⟩
theorem Ht(hx:gf g c x f)(hs:∀m,rY g (c.at m) xs fs):rY g c (x::xs) fun st=>(f st).bind fun fl st=>match fl with|.next=>fs st|fl=>.ok fl st:=by
 intro st p s iv hb;refine t5 (Vi (hx st p s iv (ah hb)) iv.ok (af.refl _ _) (fun x aE e=>ar e) fun fl st1 q1 s1 v mm e1 m1 ω i1 r1=>?_)
 induction v with
 |next=>
  induction fl with
  |next=>exact bA (hs mm st1 q1 s1 i1 (fun z=>hb ((aa e1).trans z))) (fun v s2 z=>Cm.lift (c:=c.at mm) iv.ok m1 (aa e1) z) fun v s2 z=>rW.eS (c:=c.at mm) iv.ok m1 (aa e1) z
  |_=>exact r1.elim
 |cont=>
  induction fl with
  |cont=>exact⟨mm,.cont,st1,q1,aa e1,m1,i1,trivial⟩
  |_=>exact r1.elim
 |ret v=>
  induction fl with
  |ret r=>exact⟨mm,.ret r,st1,q1,aa e1,m1,i1,r1⟩
  |_=>exact r1.elim
 |brk=>induction fl<;>exact r1.elim
theorem KW(ht:aA g c t v)(hb':rY g c b fb)(ho:rY g c o fo):gf g c (.If t b o pos) fun st=>(v.gw st).bind fun x st=>if x then fb st else fo st:=by
 intro st p s iv hb;refine wpAny_If (iQ (ht.gw st p s iv (ah hb)) iv.ok (af.refl _ _) (fun x aE e=>ar e) fun x st1 q1 s1 vx e1 m1 ω i1 r1=>?_);cases r1
 induction x with
 |true=>exact bA (hb' st1 q1 s1 i1 (fun z=>hb ((aa e1).trans z))) (fun v s2 z=>z.lift iv.ok m1 (aa e1)) fun v s2 z=>z.eS iv.ok m1 (aa e1)
 |false=>exact bA (ho st1 q1 s1 i1 (fun z=>hb ((aa e1).trans z))) (fun v s2 z=>z.lift iv.ok m1 (aa e1)) fun v s2 z=>z.eS iv.ok m1 (aa e1)
theorem KY(h:aA g c e v):gf g c (.Return (some e) pos) fun st=>(v.val st).bind fun r st=>.ok (.ret r) st:=by
 intro st p s iv hb;exact wpAny_Return_some (iQ (h.val st p s iv (ah hb)) iv.ok (af.refl _ _) (fun x aE e=>ar e) fun r st1 q1 s1 vx e1 m1 ω i1 r1=>⟨c.m,_,st1,q1,aa e1,m1,i1,r1⟩)
theorem Hu:gf g c (.Return none pos) fun st=>.ok (.ret (.dat .none)) st:=fun st p s iv ω=>wpAny_Return_none ⟨c.m,_,st,p,rfl,af.refl _ _,iv,aU.none⟩
theorem Hv:gf g c (.Continue pos) fun st=>.ok .cont st:=fun st p s iv ω=>wpAny_Continue ⟨c.m,_,st,p,rfl,af.refl _ _,iv,trivial⟩
theorem Hw:gf g c (.Pass pos) fun st=>.ok .next st:=fun st p s iv ω=>wpAny_Pass ⟨c.m,_,st,p,rfl,af.refl _ _,iv,trivial⟩
noncomputable def fK:ME->Bool
 |.comp ..=>true
 |_=>false
theorem Cn{c:Cx}(co:c.Ok g ks n):interactive c.env=false:=by
 unfold interactive;refine Rw co.kind ?_;rfl
theorem kI(h:fK e=false)(t)(l)(env):swapsWith (aB nm e) t l env=pure false:=by
 induction e using ME.casesOn<;>first|(cases h;done)|rfl
theorem Hx(co:c.Ok g ks n)(hc:fK e=false)(h:aA g c (aB g.nm e) v):gf g c (.Expr (aB g.nm e) pos) fun st=>(v.val st).bind fun ω st=>.ok .next st:=by
 intro st p s iv hb;exact OH (iQ (h.val st p s iv (ah hb)) iv.ok (af.refl _ _) (fun x aE e=>ar e) fun r st1 q1 s1 vx e1 m1 ω i1 r1=>⟨c.m,_,st1,q1,aa e1,m1,i1,trivial⟩) (Cn co) (kI hc _ _ _)
theorem jg(h1:swapsWith v (some t) pos.line env=pure false)(h2:swappedStores [t] v env=pure none)(hs:(assignEach [t] env).map (·.2)= [assign t env])(h:wpAny M A (eval v env) (fun x s1=>wpAny M A (assign t env x) (fun ω s2=>Q .next s2) E s1) E s):wpAny M A (PySem.exec (.Assign [t] v pos) env) Q E s:=by
 have e:PySem.exec (.Assign [t] v pos) env=(do
  standAt pos
  if<-swapsWith v (some t) pos.line env then do
   evalThenUse v env fun x=>assignAll x ((assignEach [t] env).map (·.2))
   pure .next
  else do
   let x<-eval v env
   assignStores env x (<-swappedStores [t] v env) ((assignEach [t] env).map (·.2))):=rfl
 refine Rw e (Rw h1 (Rw hs ?_));refine aF (jM (aF (bY ?_)));refine aF (bA h (fun x s1 z=>?_) fun ω ω z=>z);refine Rw h2 (aF (bY ?_));exact aF (bA z (fun ω s2 z2=>bY z2) fun ω ω z=>z)
end
section
def Snap.hide(p:Snap):Snap:={p with led:=fun a=>match p.led a with|some cl=>if cl.tag.bu then none else some cl|none=>none}
set_option tactic.hygienic true in
theorem yp{p:Snap}(h:p.hide.led a=some cl):p.led a=some cl/\cl.tag.bu=false:=by
 unfold Snap.hide at h;dsimp only at h;split at h
 ·rename_i cl' e;split at h
  ·cases h
  ·rename_i w;cases h;exact⟨e,by simpa using w⟩
 ·cases h
theorem nW{p:Snap}(h:p.led a=some cl)(w:cl.tag.bu=false):p.hide.led a=some cl:=by
 unfold Snap.hide;dsimp only;rw[h];dsimp only;exact(aw (by rw[w];decide))
theorem jx{p:Snap}(h:p.led a=none):p.hide.led a=none:=by
 unfold Snap.hide;dsimp only;refine Rw h ?_;rfl
theorem ia{p:Snap}(h:p.led a=some cl)(w:cl.tag.bu=true):p.hide.led a=none:=by
 unfold Snap.hide;dsimp only;rw[h];dsimp only;exact(if_pos w)
theorem DJ(c:Cx)(k):(⟨c.tag,k⟩:Cell).tag.bu=false:=by
 unfold Cx.tag;cases c.comp<;>rfl
theorem r7{st:St}(iv:Inv g c st p s):Inv g c {st with objs:=hidden st.objs} p.hide s:=by
 have lv:∀{tag:Tag} {v:Value} {x:LV},tag.bu=false->bw g p tag v x->bw g p.hide tag v x:=fun{tag v x} hw z=>by
  induction x with
  |dat d=>exact z
  |ref k=>exact z
  |own ds=>obtain⟨a,vs,e1,e2,e3⟩:=z;exact⟨a,vs,e1,nW e2 hw,e3⟩
 refine⟨iv.heap,iv.gens,iv.os,⟨iv.ok.stays,iv.ok.low,iv.ok.all,fun a cl e=>iv.ok.led a cl (yp e).1,fun a cl e=>iv.ok.oZ a cl (yp e).1,iv.ok.de,iv.ok.f9⟩,?_,iv.emp,fun y v e a ha=>?_,fun hc y a e=>?_,?_,fun k o e1 e2=>?_⟩
 ·haveI Vj:=iv.ns'
  haveI e1:=Vj.1
  haveI e2:=Vj.2
  exact⟨nW e1 (DJ c _),fun y v e=>(e2 y v e).elim fun u zL=>⟨u,zL.1,lv rfl zL.2⟩⟩
 ·refine Bc fun au=>?_;obtain⟨u,l5⟩:=iv.aW y v e a ha;exact au ⟨u,l5.1,l5.2.1,lv rfl l5.2.2.1,fun z=>jx (l5.2.2.2.1 z),fun z=>nW (l5.2.2.2.2 z) rfl⟩
 ·obtain⟨v,w⟩:=iv.jP hc y a e;exact⟨v,nW w rfl⟩
 ·exact(cn ..).trans iv.len
 ·exfalso;unfold hidden at e1;rw[jK]at e1;generalize z:st.objs[k]?=zV
  induction zV using Oc with
  |none=>rw[z]at e1;cases e1
  |some o'=>rw[z]at e1;cases e1;cases e2
def Snap.bx(p r:Snap):Snap:=⟨r.V,fun a=>match p.led a with|some cl=>if cl.tag.bu then some cl else r.led a|none=>r.led a,r.W,r.h⟩
theorem gI{p:Snap}(e:p.led a=some cl)(w:cl.tag.bu=true):(p.bx r).led a=some cl:=by
 unfold Snap.bx;dsimp only;rw[e];dsimp only;exact(if_pos w)
set_option tactic.hygienic true in
theorem mP{st:St}(iv:Inv g c st p s)(m:af (aK c.envs) p.hide r)(i3:Inv g (c.at m3) gB r s')(hl:gB.objs.length=st.objs.length)(J1:c.comp=false):
  Inv g (c.at m3) {gB with objs:=st.objs} (p.bx r) s'/\af (aK c.envs) p (p.bx r):=by
 have DH:∀a cl,p.led a=some cl->cl.tag.bu=true->r.led a=none:=fun a cl e w=>by
  generalize z:r.led a=zV
  induction zV using Oc with
  |none=>rfl
  |some cl'=>
   rcases m.rO a cl' z with y|y
   ·exact(y (ia e w)).elim
   ·obtain⟨o,e'⟩:=(iv.ok.led a cl e).2.some;exact Ns y ((show p.hide.h=p.h from rfl)▸e')
 have jq:∀a cl,r.led a=some cl->(p.bx r).led a=some cl:=fun a cl e=>by
  unfold Snap.bx;dsimp only;split
  ·rename_i cl' e';split
   ·rename_i w;exact Ns (DH a cl' e' w) e
   ·exact e
  ·exact e
 have jc:∀a cl,(p.bx r).led a=some cl->(p.led a=some cl/\cl.tag.bu=true)\/r.led a=some cl:=fun a cl e=>by
  delta Snap.bx at e;dsimp only at e
  split at e
  ·rename_i cl' e';split at e
   ·rename_i w;cases e;exact .inl ⟨e',w⟩
   ·exact .inr e
  ·exact .inr e
 have mv:af (aK c.envs) p (p.bx r):=by
  refine⟨fun b o e l f=>m.keep b o e (jx l) f,fun b o e l=>m.de b o e (jx l),m.ext,m.qC,fun a cl e=>?_,fun a v l=>m.cls a v (jx l),m.pre⟩;rcases jc a cl e with⟨z,_⟩|z
  ·exact .inl (Rw z (fun z=>by injection z))
  ·rcases m.rO a cl z with y|y
   ·refine .inl fun w=>y (jx w)
   ·exact .inr y
 have at_:∀a cl,p.led a=some cl->cl.tag.bu=true->(p.bx r).V a/\cl.kind.At r.h a:=fun a cl e w=>by
  refine⟨m.cls a (iv.ok.led a cl e).1 (ia e w),?_⟩;by_cases hf:a∈aK c.envs
  ·refine(iv.ok.led a cl e).2.slots (fun o z=>m.de a o z (ia e w)) ?_;generalize z:cl.kind.iI=zV
   induction zV using Tc with
   |false=>rfl
   |true=>exact((iv.ok.oZ a cl e z) hf).elim
  ·exact(iv.ok.led a cl e).2.at fun o z=>m.keep a o z (ia e w) hf
 haveI kg:(p.bx r).Ok g.base c.envs:=by
  refine⟨i3.ok.stays,i3.ok.low,i3.ok.all,fun a cl e=>?_,fun a cl e z=>?_,i3.ok.de,i3.ok.f9⟩
  ·rcases jc a cl e with⟨z,w⟩|z
   ·exact at_ a cl z w
   ·exact i3.ok.led a cl z
  ·rcases jc a cl e with⟨z',w⟩|z'
   ·exact iv.ok.oZ a cl z' z
   ·exact i3.ok.oZ a cl z' z
 have lv:∀{tag:Tag} {v:Value} {x:LV},bw g r tag v x->bw g (p.bx r) tag v x:=fun{tag v x} z=>by
  induction x with
  |dat d=>exact z
  |ref k=>exact z
  |own ds=>obtain⟨a,vs,e1,e2,e3⟩:=z;exact⟨a,vs,e1,jq _ _ e2,e3⟩
 refine⟨⟨i3.heap,i3.gens,i3.os,kg,?_,i3.emp,fun y v e a ha=>?_,fun hc y a e=>?_,?_,fun k o e1 e2=>?_⟩,mv⟩
 ·haveI Vk:=i3.ns'
  haveI e1:=Vk.1
  haveI e2:=Vk.2
  exact⟨jq _ _ e1,fun y v e=>(e2 y v e).elim fun u zL=>⟨u,zL.1,lv zL.2⟩⟩
 ·letI u:=Ce (i3.aW y v e a ha)
  haveI KZ:=(Cs (i3.aW y v e a ha))
  haveI f1:=KZ.1
  haveI f2:=KZ.2.1
  haveI f3:=KZ.2.2.1
  haveI f5:=KZ.2.2.2.2
  refine⟨u,f1,f2,lv f3,fun z=>?_,fun z=>jq _ _ (f5 z)⟩;exact nomatch(J1▸z:false=true)
 ·obtain⟨v,w⟩:=i3.jP hc y a e;exact⟨v,jq _ _ w⟩
 ·exact Rl hl i3.len
 ·exact gc.moves mv iv.ok (fun d mm z=>gI z rfl) (fun f a vs z=>gI z rfl) (iv.objs k o e1 e2)
end
section
def okN(ks:List (Nat×NameKind)):MT->Bool
 |.loc x _=>decide (look x ks=some .local)
 |.aW x _=>decide (look x ks=some .cell)
 |_=>false
def ET(ks:List (Nat×NameKind)):MT->Bool
 |.loc x _=>decide (look x ks=some .local)
 |.aW x _=>decide (look x ks=some .cell)
 |.tup ts _ _=>ts.all (okN ks)
 |_=>false
theorem kJ{st:St}(go:g.Ok fA)(co:c.Ok g ks n)(hc:c.comp=false)(iv:Inv g c st p s)(hr:∀tag,bw g p tag v lv)(Aa:∀ds,lv≠ .own ds)(hok:okN ks t=true)(hs:th t lv st=some aE)(h:∀m q s',Inv g (c.at m) aE q s'->af (aK c.envs) p q->Q () s'):wpAny g.M A (assign (toT g.nm t) c.env v) Q E s:=by
 induction t using MT.casesOn with
 |loc x pos=>
  cases hs;exact tV (gP (lv:=lv) go co iv hc (bR hok) (hr _) h)
 |aW x pos=>
  cases hs;have e:lv.shut=lv:=by induction lv<;>first|rfl|exact absurd rfl (Aa _)
  exact tV (DD (lv:=lv) go co iv hc (bR hok) (hr _) (fun q s' i m=>(e▸h) c.m q s' i m))
 |_=>cases hok
theorem iR{st:St}(h:eL (t::ts) (v::vs) st=some aE):∃st1,th t v st=some st1/\eL ts vs st1=some aE:=w9.mp h
theorem QU{st:St}(h:fu (.tup ts k p) d st=some aE):∃ds,rB d=some ds/\eL ts (ds.map .dat) st=some aE:=w9.mp h
set_option tactic.hygienic true in
theorem DK{c:Cx}(go:g.Ok fA)(co:c.Ok g ks n)(hc:c.comp=false):∀(ts:List MT) (vs:List Value) (ds:List D) (st aE:St) (p:Snap) (s:Shared) (m0:Str->Option Value),Inv g (c.at m0) st p s->ak g.w p.V p.h vs ds->eL ts (ds.map .dat) st=some aE->ts.all (okN ks)=true->
  (∀m q s',Inv g (c.at m) aE q s'->af (aK c.envs) p q->Q () s')->wpAny g.M A (assignInOrder (ts.map fun t=>assign (toT g.nm t) c.env) vs) Q E s:=by
 intro zV
 induction zV with
 |nil=>
  exact @fun vs ds st aE p s m0 iv hr hs ω h=>by
   induction ds using Lc with
   |cons _ _=>cases hs
   |nil=>cases hs;cases hr;exact Ny (h m0 p s iv (af.refl _ _))
 |cons t ts zI=>
  exact @fun vs ds st aE p s m0 iv hr hs hok h=>by
   cases hr with
   |nil=>cases hs
   |cons r rs=>
    rename_i v vs d ds;simp only[ny,dg]at hok;obtain⟨st1,l5⟩:=iR hs;refine Fb (kJ (c:=c.at m0) (lv:=.dat d) go (co.at m0) hc iv (fun ω=>r) (fun ω z=>nomatch z) hok.1 l5.1 fun m q s' i mv=>?_);exact zI vs ds st1 aE q s' m i (mv.jd iv.ok rs) l5.2 hok.2 fun m2 q2 s2 i2 Vl=>h m2 q2 s2 i2 (mv.trans iv.ok Vl)
theorem nY:∀(ts:List MT) (vs:List LV) (st aE:St),eL ts vs st=some aE->ts.length=vs.length:=by
 intro zV
 induction zV with
 |nil=>
  intro zV;rcases zV with _|⟨v,vs⟩
  ·exact @fun ω ω ω=>rfl
  ·exact @fun ω ω h=>by cases h
 |cons t ts zI=>
  intro zV;rcases zV with _|⟨v,vs⟩
  ·exact @fun ω ω h=>by cases h
  ·exact @fun st aE h=>by
    letI st1:=Ce (iR h)
    haveI h2:=(Cs (iR h)).2
    simp only[List.length_cons,List.length_cons,zI vs st1 aE h2]
theorem QV{d:D}{ds:List D}(h:rB d=some ds):d= .tuple ds:=by
 induction d using PyData.casesOn with
 |tuple xs=>exact bz PyData.tuple (dS h)
 |_=>exact ax h
theorem yq{st:St}(go:g.Ok fA)(co:c.Ok g ks n)(hc:c.comp=false)(hh:A.handled=none)(iv:Inv g c st p s)(hr:aU g.w p.V p.h v d)(hok:ET ks t=true)(hs:fu t d st=some aE)(h:∀m q s',Inv g (c.at m) aE q s'->af (aK c.envs) p q->Q () s'):wpAny g.M A (assign (toT g.nm t) c.env v) Q E s:=by
 induction t using MT.casesOn with
 |loc x pos=>exact kJ (lv:=.dat d) go co hc iv (fun ω=>hr) (fun ω z=>nomatch z) hok hs h
 |aW x pos=>exact kJ (lv:=.dat d) go co hc iv (fun ω=>hr) (fun ω z=>nomatch z) hok hs h
 |tup ts k pos=>
  obtain⟨ds,h1,h2⟩:=QU hs;clear hs;obtain rfl:=QV h1;obtain⟨a,vs,rfl,nv,pt,Vm⟩:=hr.dF
  haveI hlen:=nY _ _ _ _ h2
  rw[cn]at hlen;refine assign_Tuple_tuple hh (Rw iv.heap pt.isTup) ?_ ?_ fun h' hx=>?_
  ·simp only[eX,cn,hlen,<-Vm.length,gT]
  ·exact Rw (eX ..) (KJ _ _)
  ·refine Rw (eX ..) (Rw (KL ..) ?_)
   haveI kp:Keeps s {s with heap:=h'}:=⟨h',s.toks,rfl,fun b o e=>hx b o (rn (fk e)) e⟩
   obtain⟨i2,m2⟩:=iv.grow kp;exact DK go co hc ts vs.toList ds st aE _ _ c.m i2 (m2.jd iv.ok Vm) h2 hok fun mm q s' i m=>h mm q s' i (m2.trans iv.ok m)
 |_=>cases hok
theorem vO{st:St}(gH:p.Ok g.base c.envs)(m:af (aK c.envs) p q)(iv:Inv g c st q s)(ex:ExcAt g p.h q.h e x)(sn:∀a,e= .ref a->Seen q.h a)(h:∀q' s',af (aK c.envs) p q'->Inv g c st q' s'->ExcAt g p.h q'.h e x->E e s'):cameBackBy g.M A c.env E e s:=by
 haveI Ve:=ex
 obtain⟨a,oe,vs,cl,rfl,e2,e3,e4,e5,e6,z4⟩:=Ve;obtain⟨T,QL,vs',f1,f2,f3⟩:=sn a rfl;rw[e3]at f1;cases f1;rw[e6]at f2;cases f2;refine aF (gV (Rw iv.heap e3) e6 f3 ?_);exact uB gH m iv ex h
theorem mQ{c:Cx}{wr:List Addr}(m:af (aK c.envs) p q)(hw:∀b∈wr,p.h.get? b=none)(k:∀b o,b∉wr->q.h.get? b=some o->h.get? b=some o):af (aK c.envs) p {q with h:=h}:=by
 have nw:∀b o,p.h.get? b=some o->b∉wr:=fun b o e z=>Ns (hw b z) e;exact⟨fun b o e l f=>k b o (nw b o e) (m.keep b o e l f),fun b o e l=>(m.de b o e l).elim fun sl z=>⟨sl,k b _ (nw b o e) z⟩,fun b o e=>(m.ext b o e).elim fun o' z=>⟨o',k b o' (nw b o e) z⟩,m.qC,m.rO,m.cls,m.pre⟩
structure Ax(g:Gl)(c:Cx)(p:Snap)(GK:Expr)(I:Addr)(J:List D->Snap->Prop):Prop where
 done:∀{st q s m0} (Q:Option Value->Shared->Prop) E,J [] q->af (aK c.envs) p q->Inv g (c.at m0) st q s->(∀q' s',Inv g (c.at m0) st q' s'->af (aK c.envs) p q'->Q none s')->wpAny g.M c.A (pyNext (.ref I)) Q E s
 item:∀{d items st q s m0} (Q:Value->Shared->Prop) E,J (d::items) q->af (aK c.envs) p q->Inv g (c.at m0) st q s->(∀v q' s',Inv g (c.at m0) st q' s'->af (aK c.envs) p q'->aU g.w q'.V q'.h v d->J items q'->Q v s')->
  wpAny g.M c.A (pyNext (.ref I)) (fun r s1=>∃v,r=some v/\wpAny g.M c.A (letOwnedTupleGo GK (.ref I) v) (fun ω s2=>Q v s2) E s1) E s
 move:∀{items q r},J items q->q.Ok g.base c.envs->r.Ok g.base c.envs->af (aK c.envs) q r->J items r
theorem yr(GK)(hwp:∀b∈wr,p.h.get? b=none):Ax g c p GK I fun items q=>RI g (aK c.envs) src wr q/\(∀a∈src,∃o,q.h.get? a=some o)/\rR g c.A src wr I items q.V q.h where
 done:=fun{st q s m0} Q E j mv iv h=>by
  exact j.2.2 s q.V (Rw iv.heap (Later.refl iv.ok.all)) _ _ fun h' tk hk=>h _ _ (iv.alter (s':={s with heap:=h',toks:=tk}) (X:=wr) (fun b o hb e=>hk b o hb (by rw[iv.heap];exact e)) (fun b hb=>⟨(j.1.iA b hb).1,.inl (j.1.iA b hb).2⟩) rfl rfl) (mQ mv hwp fun b o hb e=>hk b o hb (by rw[iv.heap];exact e))
 item:=fun{d items st q s m0} Q E j mv iv h=>by
  have ri:=j.1;have rV:=j.2.1;have hit:=j.2.2;refine hit s q.V (Rw iv.heap (Later.refl iv.ok.all)) GK Q E fun v h' tk hv hk hw Ak=>?_
  haveI mM:=(iv.UT (c:=c.at m0) (s':={s with heap:=h',toks:=tk}) ri hk hw rfl rfl)
  haveI i1:=mM.1
  haveI ZB:=mM.2
  refine h v _ _ i1 (mQ mv hwp fun b o hb e=>hk b o hb (Rw iv.heap e)) hv ⟨ZB,fun a ha=>?_,Ak⟩;by_cases UY:a∈wr
  ·obtain⟨o,_,e,_⟩:=hw a UY;exact⟨o,e⟩
  ·obtain⟨o,e⟩:=rV a ha;exact⟨o,hk a o UY (Rw iv.heap e)⟩
 move:=fun{items q r} j XJ XC m=>⟨j.1.moves XJ m j.2.1,fun a ha=>(j.2.1 a ha).elim fun o e=>m.ext a o e,jw j.2.2 (j.1.later XJ XC.all m)⟩
theorem vP(go:g.Ok fA)(co:c.Ok g ks n)(hc:c.comp=false)(hJ:Ax g c p (toT g.nm t) I J)(hok:ET ks t=true)(hb:∀m,rY g (c.at m) body f)(gH:p.Ok g.base c.envs)(hW:W≠ .bad)(hR1:∀fl a aE q s' m,W= .ok a aE->af (aK c.envs) p q->Inv g (c.at m) aE q s'->yj g q fl a->fl≠ .cont->R (.ok fl) s')(hR2:∀e x aE q s' m,W= .exc x aE->af (aK c.envs) p q->Inv g (c.at m) aE q s'->ExcAt g p.h q.h e x->(∀a,e= .ref a->Seen q.h a)->R (.error e) s')(items)(st)(q)(s)(m0:Str->Option Value)(zz:aO t f items st=W)(mv:af (aK c.envs) p q)(iv:Inv g (c.at m0) st q s)(hj:J items q):
  codeAny g.M c.A (.forLoop (toT g.nm t) (.ref I) body [] c.env) R s:=by
 haveI nt:∀(e:Value) (x:Nat) (aE:St) (q:Snap) (s':Shared) (m:Str->Option Value),W= .exc x aE->af (aK c.envs) p q->Inv g (c.at m) aE q s'->ExcAt g p.h q.h e x->notedBy g.M c.A c.env (fun e s'=>R (.error e) s') e s':=fun e x aE q s' m h1 h2 h3 h4=>
  qV (c:=c.at m) (co.at m) hc co.frames gH h2 h3 h4 fun q2 s2 m2 i2 x2 sn=>hR2 e x aE q2 s2 m h1 m2 i2 x2 sn
 refine codeAny_forLoop_any (fun n s=>∃items st q m0,items.length=n/\aO t f items st=W/\af (aK c.envs) p q/\Inv g (c.at m0) st q s/\J items q) (fun n s hI=>?_) items.length ⟨items,st,q,m0,rfl,zz,mv,iv,hj⟩;refine Bc fun au=>?_;obtain⟨items,st,q,m0,zq,zz,mv,iv,hj⟩:=hI;obtain rfl:=zq.symm
 induction items using Lc with
 |nil=>
  exact au (hJ.done _ _ hj mv iv fun q' s' i2 m2=>BD (hR1 .next .next st _ _ m0 zz.symm m2 i2 trivial (fun z=>by injection z)))
 |cons d items=>
  refine au ?_;refine bA (hJ.item (fun v s2=>∃q',Inv g (c.at m0) st q' s2/\af (aK c.envs) p q'/\aU g.w q'.V q'.h v d/\J items q') _ hj mv iv fun v q' s' z1 z2 z3 z4=>⟨q',z1,z2,z3,z4⟩) (fun r s1 h1=>?_) fun ω ω z=>z;refine Bc fun au=>?_;obtain⟨v,rfl,h1⟩:=h1;apply au;refine bA h1 (fun ω s2 h2=>?_) fun ω ω z=>z;refine Bc fun au=>?_;obtain⟨q1,i1,ZW,hv,hj1⟩:=h2;replace zz:=B2▸zz;generalize Vn:fu t d st=zV
  induction zV using Oc with
  |none=>exact absurd (Vn▸zz).symm hW
  |some st1=>
   replace zz:=Vn▸zz;dsimp only at zz;refine au ?_;refine yq (c:=c.at m0) go (co.at m0) hc co.handled i1 hv hok Vn fun mm q2 s2 i2 m2=>?_;refine bA (hb mm st1 q2 s2 i2 (fun z=>hW (z▸zz).symm)) (fun fl s3 z=>?_) fun e s3 z=>?_
   ·refine Bc fun au=>?_;obtain⟨m3,a,gB,q3,e3,ZX,i3,r3⟩:=z;replace zz:=(aa e3)▸zz;have T5:=m2.trans i1.ok ZX;have XI:=ZW.trans gH T5
    haveI Vo:(∃mm,mm<(d::items).length/\ ∃items st q m0,items.length=mm/\aO t f items st=W/\af (aK c.envs) p q/\Inv g (c.at m0) st q s3/\J items q)\/aO t f items gB≠W:=by
     by_cases hz:aO t f items gB=W
     ·exact .inl ⟨items.length,wY _,items,gB,q3,m3,rfl,hz,XI,i3,hJ.move hj1 i1.ok i3.ok T5⟩
     ·exact .inr hz
    induction fl with
    |next=>
     cases a with
     |next=>exact au (Vo.resolve_right fun z=>z zz)
     |_=>exact r3.elim
    |cont=>
     cases a with
     |cont=>exact au (Vo.resolve_right fun z=>z zz)
     |_=>exact r3.elim
    |brk=>refine au ?_;induction a<;>exact r3.elim
    |ret v=>
     induction a with
     |ret r=>exact au (hR1 (.ret v) (.ret r) gB q3 s3 m3 zz.symm XI i3 r3 (fun z=>by injection z))
     |_=>exact r3.elim
   ·refine Bc fun au=>?_;obtain⟨m3,x,gB,q3,e3,ZX,i3,x3⟩:=z;apply au;exact nt e x gB q3 s3 m3 ((ar e3)▸zz).symm (ZW.trans gH (m2.trans i1.ok ZX)) i3 ((x3.back (c:=c) m2).back (c:=c) ZW)
end
section
set_option tactic.hygienic true in
theorem K0(go:g.Ok fA)(co:c.Ok g ks n)(hc:c.comp=false)(hok:ET ks t=true)(hit:aA g c (aB g.nm it) (ev P cf it))(hb:∀m,rY g (c.at m) body f):
  gf g c (.For (toT g.nm t) (aB g.nm it) body [] pos) fun st=>((ev P cf it).it st).bind fun r st=>if r.2 then bx st.objs (aO t f r.1 {st with objs:=hidden st.objs})else aO t f r.1 st:=by
 intro st p s iv eT
 haveI U4:∀x aE,(ev P cf it).it st= .exc x aE->(((ev P cf it).it st).bind fun r st=>if r.2 then bx st.objs (aO t f r.1 {st with objs:=hidden st.objs})else aO t f r.1 st)= .exc x aE:=fun x aE e=>ar e
 refine wpAny_For (bA (hit.it st p s iv (ah eT)) (fun x s1 z=>bA z (fun itv s2 z2=>?_) fun e s2 z2=>(nR z2 U4).toS) fun e s1 z=>(nR z U4).toS) (fun x=>lH g.nm it c.env x);obtain⟨items,hide,st1,q,h1,XA,e1,m1,i1,gr,i2,I,wr,src,rfl,hIw,yd,rV,DF,Ci⟩:=z2
 haveI yt:=fun z=>eT ((aa e1).trans z)
 haveI m2:af (aK c.envs) ({q with h:=h1}:Snap) q:=fG (p:={q with h:=h1}) (h:=q.h) gr
 have base:∀b∈wr,g.base.get? b=none:=fun b hb=>by
  generalize e:g.base.get? b=zV
  induction zV using Oc with
  |none=>rfl
  |some o=>have:=i1.ok.stays _ _ e;exact Ns ((yd b hb).1) this
 induction hide with
 |false=>
  have j5:∀a∈src,False:=fun a ha=>by cases(rV a ha).1
  refine vP (p:=p) go co hc (yr _ fun b hb=>m1.back (yd b hb).1) hok hb iv.ok (W:=aO t f items st1) yt ?_ ?_ items st1 q s2 c.m rfl (m1.trans iv.ok m2) i2 ⟨⟨fun b hb=>⟨base b hb,(yd b hb).2⟩,fun a ha=>(j5 a ha).elim⟩,fun a ha=>(j5 a ha).elim,DF⟩
  ·intro fl a aE q' s' mm e m i rr _;exact⟨mm,a,aE,q',(aa e1).trans e,m,i,rr⟩
  ·intro e x aE q' s' mm ee m i ex sn;exact vO (c:=c.at mm) iv.ok m i ex sn fun q2 s3 m3 i3 x3=>⟨mm,x,aE,q2,(aa e1).trans ee,m3,i3,x3⟩
 |true=>
  simp only[dZ]at yt;have hW:aO t f items {st1 with objs:=hidden st1.objs}≠ .bad:=fun z=>yt (bz _ z)
  haveI i2h:=r7 i2
  haveI m2h:af (aK c.envs) ({q with h:=h1}:Snap).hide q.hide:=fG (p:=({q with h:=h1}:Snap).hide) (h:=q.h) gr
  haveI T6:∀a∈src,q.hide.led a=none/\a∉aK c.envs:=fun a ha=>by
   obtain⟨_,k,f,vs,e⟩:=rV a ha;exact⟨ia e rfl,i2.ok.oZ a _ e rfl⟩
  haveI hse:∀a∈src,∃o,q.h.get? a=some o:=fun a ha=>by
   obtain⟨_,k,f,vs,e⟩:=rV a ha;exact(i2.ok.led a _ e).2.some
  refine vP (p:=({q with h:=h1}:Snap).hide) go co hc (yr _ fun b hb=>(yd b hb).1) hok hb (r7 i1).ok (W:=aO t f items {st1 with objs:=hidden st1.objs}) hW ?_ ?_ items {st1 with objs:=hidden st1.objs} q.hide s2 c.m rfl m2h i2h ⟨⟨fun b hb=>⟨base b hb,(yd b hb).2⟩,T6⟩,hse,DF⟩
  ·intro fl a aE q' s' mm e m i rr XK
   have hlen:aE.objs.length=st1.objs.length:=by
    exact Gk (e▸yt)
   haveI yb:=(mP i1 m i hlen hc)
   haveI i4:=yb.1
   haveI m4:=yb.2
   refine⟨mm,a,_,_,(aa e1).trans (by simp only[dZ];exact Rw e (uf hlen)),m1.trans iv.ok m4,i4,?_⟩;induction fl<;>induction a<;>first|exact rr.elim|exact rr|(rename_i r;cases r<;>exact rr)
  ·intro e x aE q' s' mm ee m i ex sn
   have hlen:aE.objs.length=st1.objs.length:=by
    exact Gm (ee▸yt)
   obtain⟨i4,m4⟩:=mP i1 m i hlen hc;exact vO (c:=c.at mm) (p:=p) iv.ok (m1.trans iv.ok m4) i4 (ExcAt.base ex fun b hb=>m1.back hb) sn fun q2 s3 m3 i3 x3=>⟨mm,x,_,q2,(aa e1).trans (by simp only[dZ];exact Rw ee (rC hlen)),m3,i3,x3⟩
end
section
def Hy:MT->Bool
 |.tup ..=>true
 |_=>false
def Ay:ME->Bool
 |.tup ..=>true
 |_=>false
def iI:ME->Bool
 |.lst ..=>true
 |_=>false
theorem eB(h:(Hy t&&Ay e)=false):swappedStores [toT nm t] (aB nm e) env=pure none:=by
 induction t using MT.casesOn<;>first|rfl|(induction e using ME.casesOn<;>first|rfl|(cases h;done))
theorem dG(nm:Nat->Str)(t)(env):(assignEach [toT nm t] env).map (·.2)= [assign (toT nm t) env]:=by
 haveI:=eX nm env [t]
 simp only[Gp,Gq]at this;exact bz _ this
theorem Co{st:St}(tag:D->St->Tag)(hl:ms.length<=1000)(h:∀m∈ms,aA g c (aB g.nm m) (ev P cf m)){f:List D->St->Res β}(iv:Inv g c st p s)(hb:(gx (bS P cf ms) st).bind f≠ .bad)(k:∀ds st1 q s1 a vs,gx (bS P cf ms) st= .ok ds st1->af (aK c.envs) p q->Inv g c st1 q s1->q.led a=some ⟨tag (.list ds) st1,.lst vs⟩->ak g.w q.V q.h vs ds->Q (.ref a) s1):
  wpAny g.M c.A (eval (.List (ba g.nm ms) pos) c.env) Q (rW g c p ((gx (bS P cf ms) st).bind f)) s:=by
 refine F6 (iQ (qR ms h st p s iv (ah hb)) iv.ok (af.refl _ _) (fun x aE e=>ar e) fun a st1 q1 s1 va e1 m1 ω i1 r1=>⟨?_,?_⟩)
 ·rw[ak.length r1,iN ms _ _ _ e1];exact aI hl (by rw[kq];decide)
 ·haveI hn:q1.h.get? s1.heap.objs.size=none:=by
   generalize e:q1.h.get? s1.heap.objs.size=zV
   induction zV using Oc with
   |none=>rfl
   |some o=>exact absurd (fk (i1.heap.symm▸e)) (mD _)
  haveI mM:=(i1.Ch (s':={s1 with heap:=s1.heap.push {cls:=.type "list",data:=.seq va.toArray}}) (cl:=⟨tag (.list a) st1,.lst va⟩) hn (fI i1 _) ⟨0,fX _ rfl⟩ rfl rfl)
  haveI i2:=mM.1
  haveI m2:=mM.2
  exact k a st1 _ _ _ va e1 (m1.trans iv.ok m2) i2 (if_pos rfl) (m2.jd i1.ok r1)
theorem K1(go:g.Ok fA)(co:c.Ok g ks n)(hc:c.comp=false)(hk:look x ks=some .local)(hl:es.length<=1000)(h:∀m∈es,aA g c (aB g.nm m) (ev P cf m)):
  gf g c (.Assign [.Name (g.nm x) px] (.List (ba g.nm es) pe) pos) fun st=>(gx (bS P cf es) st).bind fun ds st=>.ok .next {st with loc:=put x (.own ds) st.loc}:=by
 intro st p s iv hb;refine jg (t:=toT g.nm (.loc x px)) (v:=aB g.nm (.lst es pe)) (kI rfl _ _ _) (eB rfl) (dG _ _ _) (Co (fun ω ω=>.nH x) hl h iv hb fun ds st1 q1 s1 a vs e1 m1 i1 iB hr=>?_);refine tV (gP (lv:=.own ds) go co i1 hc hk ⟨a,vs,rfl,iB,hr⟩ fun m q2 s2 i2 m2=>?_);exact⟨m,.next,_,q2,aa e1,m1.trans iv.ok m2,i2,trivial⟩
theorem Cp(go:g.Ok fA)(co:c.Ok g ks n)(hc:c.comp=false)(hok:okN ks t=true)(hs:swapsWith (aB g.nm e) (some (toT g.nm t)) pos.line c.env=pure false)(h:aA g c (aB g.nm e) (ev P cf e)):
  gf g c (.Assign [toT g.nm t] (aB g.nm e) pos) fun st=>((ev P cf e).val st).bind fun r st=>(opt (th t r.lv st) st).bind fun st ω=>.ok .next st:=by
 intro st p s iv hb
 haveI ht:Hy t=false:=by induction t using MT.casesOn<;>first|rfl|cases hok
 refine jg hs (eB (Rw ht rfl)) (dG _ _ _) (iQ (h.val st p s iv (ah hb)) iv.ok (af.refl _ _) (fun x aE e=>ar e) fun r st1 q1 s1 v e1 m1 ω i1 r1=>?_);obtain⟨st2,e2⟩:=b7 (ah (fun z=>hb ((aa e1).trans z)));exact kJ go co hc i1 (fun tag=>r1.lv) (fun ds z=>by induction r<;>cases z) hok e2 fun m q2 s2 i2 m2=>⟨m,.next,st2,q2,(aa e1).trans (Rw e2 rfl),m1.trans iv.ok m2,i2,trivial⟩
theorem Cq(go:g.Ok fA)(co:c.Ok g ks n)(hc:c.comp=false)(hok:ET ks (.tup ts k pt)=true)(he:swappedStores [toT g.nm (.tup ts k pt)] (aB g.nm e) c.env=pure none)(J3:fK e=false)(h:aA g c (aB g.nm e) (ev P cf e)):
  gf g c (.Assign [toT g.nm (.tup ts k pt)] (aB g.nm e) pos) fun st=>((ev P cf e).dat st).bind fun d st=>(opt (fu (.tup ts k pt) d st) st).bind fun st ω=>.ok .next st:=by
 intro st p s iv hb;refine jg (kI J3 _ _ _) he (dG _ _ _) (iQ (h.val.dat st p s iv (ah hb)) iv.ok (af.refl _ _) (fun x aE e=>ar e) fun d st1 q1 s1 v e1 m1 ω i1 r1=>?_);obtain⟨st2,e2⟩:=b7 (ah (fun z=>hb ((aa e1).trans z)));exact yq go co hc co.handled i1 r1 hok e2 fun m q2 s2 i2 m2=>⟨m,.next,st2,q2,(aa e1).trans (Rw e2 rfl),m1.trans iv.ok m2,i2,trivial⟩
theorem Hz(go:g.Ok fA)(co:c.Ok g ks n)(hc:c.comp=false)(hk:look x ks=some .local)(sc:yc ks ks' t)(hit:aA g c (aB g.nm it) (ev P cf it))(he:∀c',c'.comp=true->c'.Ok g (bN ks') n->aA g c' (aB g.nm elt) (ev P cf elt))(hi:∀c',c'.comp=true->c'.Ok g (bN ks') n->∀m∈ifs,aA g c' (aB g.nm m) (ev P cf m)):
  gf g c (.Assign [.Name (g.nm x) px] (.ListComp (aB g.nm elt) [⟨toT g.nm t,aB g.nm it,ba g.nm ifs,0⟩] (bh g.nm ks' []) QW) pos) fun st=>(bH (ev P cf elt) ⟨t,ev P cf it,bS P cf ifs⟩ [] st).bind fun ds st=>.ok .next {st with loc:=put x (.dat (.list ds)) st.loc}:=by
 intro st p s iv hb;obtain⟨bb,hsw⟩:∃b,swapsWith (.ListComp (aB g.nm elt) [⟨toT g.nm t,aB g.nm it,ba g.nm ifs,0⟩] (bh g.nm ks' []) QW) (some (.Name (g.nm x) px)) pos.line c.env=pure b:=⟨_,rfl⟩
 induction bb with
 |false=>
  refine jg (t:=.Name (g.nm x) px) hsw rfl rfl (iQ (yh go co sc hit he hi st p s iv (fun z=>hb ?_)) iv.ok (af.refl _ _) (fun x aE e=>?_) fun d st1 q1 s1 v e1 m1 ω i1 r1=>?_)
  ·dsimp only at z⊢;cases z':bH (ev P cf elt) ⟨t,ev P cf it,bS P cf ifs⟩ [] st<;>rw[z']at z<;>first|rfl|cases z
  ·dsimp only at e⊢;cases z':bH (ev P cf elt) ⟨t,ev P cf it,bS P cf ifs⟩ [] st<;>rw[z']at e<;>first|cases e;rfl|cases e
  ·dsimp only at e1⊢;generalize z':bH (ev P cf elt) ⟨t,ev P cf it,bS P cf ifs⟩ [] st=zV
   induction zV using Res.casesOn with
   |bad=>rw[z']at e1;cases e1
   |exc y aE=>rw[z']at e1;cases e1
   |ok ds aE=>
    rw[z']at e1;cases e1;refine tV (gP (lv:=.dat (.list ds)) go co i1 hc hk r1 fun m q2 s2 i2 m2=>?_);exact⟨m,.next,_,q2,rfl,m1.trans iv.ok m2,i2,trivial⟩
 |true=>
  refine Rw (exec_Assign_Name_used _ _ _ _ hsw) ?_;refine aF (jM (aF ?_));refine aF (bA (nS (hF:=Zx _) (use:=some (assign (.Name (g.nm x) px) c.env)) (Q:=fun ω s'=>Cm g c p (yj g) ((bH (ev P cf elt) ⟨t,ev P cf it,bS P cf ifs⟩ [] st).bind fun ds st=>.ok .next {st with loc:=put x (.dat (.list ds)) st.loc}) .next s') go co sc hit (Au he) hi iv hb fun ds st1 q s1 wr e m1 i1 hw L C V s' ce=>?_) (fun ω s' hq=>bY (bY hq)) fun ω ω z=>z.toS);refine Bc fun au=>?_;obtain⟨mC,hn⟩:=ce.ns;obtain⟨i2,Pk⟩:=ce.inv iv.ok m1 hw i1;apply au;refine tV (gP (lv:=.dat (.list ds)) go co i2 hc hk Pk.2.1 fun mm q3 s3 i3 m3=>?_);obtain⟨oC,hoC⟩:∃o,s'.heap.get? C=some o:=hn.elim fun o zL=>zL.elim fun ω zL=>zL.elim fun ω zL=>⟨o,zL.1⟩
  have hn3:s3.heap.Ns C mC:=by
   exact Rw i3.heap (hn.at' fun o e=>m3.keep C o e Pk.2.2.2.1 Pk.2.2.2.2)
  haveI V3:=m3.cls C ce.VC Pk.2.2.2.1
  have l3:q3.led C=none:=by
   cases z:q3.led C with
   |none=>rfl
   |some cl=>
    rcases m3.rO C cl z with y|y
    ·exact absurd Pk.2.2.2.1 y
    ·dsimp only at y;exact Ns y hoC
  refine⟨mC,hn3,fun h' hs'=>?_⟩;have k:=fun b o hb e=>hs'.extBut b o hb (Rw i3.heap e)
  haveI i4:=i3.vK (c:=c.at mm) (s':={s3 with heap:=h'}) k V3 l3 Pk.2.2.2.2 (Rl i3.heap (mL hn3)) rfl rfl
  exact⟨mm,.next,_,_,aa e,jQ (Pk.1.trans iv.ok m3) Pk.2.2.1 iv.ok.all k,i4,trivial⟩
end
theorem uH{α:Type}[DecidableEq α]:∀(l L:List α),l.Nodup->(∀x∈l,x∈L)->l.length<=L.length
 | []=>@fun ω ω ω=>ft _
 |x::l=>@fun L hn hs=>by
  rw[nu]at hn;have hx:=hs x (.head _)
  haveI:=uH l (L.erase x) hn.2 fun y hy=>by
   haveI hne:y≠x:=fun z=>hn.1 (z▸hy)
   exact(List.mem_erase_of_ne hne).mpr (hs y (.tail _ hy))
  rw[List.length_erase_of_mem hx]at this
  haveI:0<L.length:=List.length_pos_of_mem hx
  simp only[List.length_cons]
  lia
noncomputable def K2:Value->Str
 |.str x _=>x
 |_=>⟨#[]⟩
theorem HA{h:Heap}{L:List Str}(x:h.Ns1 d m)(hL:∀y,m y≠none->y∈L):∃o es ep,h.get? d=some o/\o.data= .dict es ep/\es.size<=L.length:=by
 refine Bc fun au=>?_;obtain⟨o,es,ep,e1,e2,e3,e4,e5⟩:=x;apply au;refine⟨o,es,ep,e1,e2,?_⟩;have:=uH (es.toList.map fun e=>K2 e.key) L ?_ ?_
 ·simpa using this
 ·rw[List.Nodup,Fu];refine e4.imp_of_mem ?_;intro a b ha hb hab heq;obtain⟨x,t,hx⟩:=e3 a (tP.mp ha);obtain⟨y,u,hy⟩:=e3 b (tP.mp hb);rw[hx,hy]at heq
  haveI:x=y:=heq
  subst this;exact hab x (by rw[hx];simp[Value.isStr]) (by rw[hy];simp[Value.isStr])
 ·intro y hy;obtain⟨e,he,rfl⟩:=bU.mp hy;obtain⟨x,t,hx⟩:=e3 e (tP.mp he);apply hL _;refine Rw hx ?_;refine Rl (e5 x) ?_;delta nsFind findBy;intro hz;rw[E7,Array.find?_eq_none]at hz;exact hz e (tP.mp he) (by rw[hx];simp[Value.isStr])
section
theorem Inv.QX{g:Gl}{fA:Nat->Option Addr}{c:Cx}{st:St}{p:Snap}{s s':Shared}(go:g.Ok fA)(iv:Inv g c st p s){k x:Nat}{o:bt}{y d C:Addr}{m:Str->Option Value}{v:Value}{lv:LV}(ho:st.objs[k]?=some o)(hl:o.live=true)(hW:p.W[k]?=some (y,d))(hm:p.led d=some ⟨.dict k,.sX m⟩)(hx:g.P.ju o.cls x=true)(hv:bw g p (.kE k x) v lv)(hn:s'.heap.Ns1 d (fun z=>if z=g.nm x then some v else m z))(hs:Heap.SameBut d s.heap s'.heap)(hg:s'.gens=s.gens)(O9:s'.os=s.os):
  ∃q,Inv g c {st with objs:=st.objs.set k {o with gW:=put x lv o.gW}} q s'/\af (aK c.envs) p q:=by
 have kk:=fun b o hb e=>hs.extBut b o hb (Rw iv.heap e)
 haveI UR:(fun z=>if z=g.nm x then some v else m z) (g.nm x)=some v:=if_pos rfl
 haveI uv:∀y,y≠x->(fun z=>if z=g.nm x then some v else m z) (g.nm y)=m (g.nm y):=fun y h=>pZ go h v m
 haveI Vp:∀y,(fun z=>if z=g.nm x then some v else m z) y≠none->y=g.nm x\/m y≠none:=fun y h=>by
  by_cases e:y=g.nm x
  ·exact .inl e
  ·exact .inr (by simpa [e] using h)
 generalize(fun z=>if z=g.nm x then some v else m z)=m' at hn UR uv Vp;have mv:af (aK c.envs) p (p.upd d ⟨.dict k,.sX m'⟩ s'.heap):=lG hm kk (Kind.At.some (k:=.sX m') hn);have kg:=vL (cl':=⟨.dict k,.sX m'⟩) iv.ok hm (fun z=>Nf rfl z) kk hn
 have nl:∀a tag vs,p.led a=some ⟨tag,.lst vs⟩->(p.upd d ⟨.dict k,.sX m'⟩ s'.heap).led a=some ⟨tag,.lst vs⟩:=fun a tag vs e=>by
  rw[br];exact e;intro z;rw[z,hm]at e;cases e
 refine⟨_,⟨rfl,hg.trans iv.gens,O9.trans iv.os,kg,?_,iv.emp,fun y fh e=>?_,fun hc y b e=>?_,?_,fun j o' e1 e2=>?_⟩,mv⟩
 ·haveI Vq:=iv.ns'
  haveI z1:=Vq.1
  haveI z2:=Vq.2
  refine⟨?_,fun y fh e=>(z2 y fh e).elim fun u zL=>⟨u,zL.1,mv.lv iv.ok (fun a vs z=>nl a _ vs z) zL.2⟩⟩;rw[br];exact z1;intro z;rw[z,hm]at z1;have kk:=bz (Option.map Cell.kind) z1;cases kk
 ·refine mx.moves mv iv.ok kg (fun ω b u z=>?_) (fun a vs z=>nl a _ vs z) (iv.aW y fh e);rw[br];exact z;intro w;rw[w,hm]at z;cases z
 ·obtain⟨u,w⟩:=iv.jP hc y b e;refine⟨u,?_⟩;rw[br];exact w;intro z;rw[z,hm]at w;cases w
 ·exact km.trans iv.len
 ·rcases vI e1 with⟨rfl,rfl,-⟩|⟨hj,e1⟩
  ·refine Bc fun au=>?_;obtain⟨y',d',C',m0,f1,f2,f3,f4,f5,f6,f7⟩:=iv.objs j o ho hl;rw[hW]at f1;cases f1;replace f5:=hm▸f5;cases f5;refine au ?_;refine⟨y,d,C',m',hW,f2,(mv.imp iv.ok y _ f4 f3).2,(mv.imp iv.ok y _ f4 f3).1,if_pos rfl,fun w hw=>?_,fun f fh e=>?_⟩
   ·rcases Vp w hw with rfl|hw
    ·exact⟨x,rfl,hx⟩
    ·exact f6 w hw
   ·by_cases hf:f=x
    ·obtain rfl:=hf.symm;rw[b8]at e;cases e;exact⟨hx,v,UR,mv.lv iv.ok (fun a vs z=>nl a _ vs z) hv⟩
    ·refine Bc fun au=>?_;rw[cR hf]at e;obtain⟨w1,u,U2⟩:=f7 f fh e;exact au ⟨w1,u,(uv f hf).trans U2.1,mv.lv iv.ok (fun a vs z=>nl a _ vs z) U2.2⟩
  ·refine gc.moves mv iv.ok (fun d' mm z=>?_) (fun f a vs z=>nl a _ vs z) (iv.objs j o' e1 e2);rw[br];exact z;intro w;rw[w,hm]at z;cases z;exact hj rfl
theorem K3{st:St}(go:g.Ok fA)(iv:Inv g c st p s)(hn:eK g.P st.objs k x lv=some objs)(hv:bw g p (.kE k x) v lv):∃xd,p.W[k]?=some xd/\
  ∀(A:Around) (Q:Unit->Shared->Prop) (E:Value->Shared->Prop),(∀q s',Inv g c {st with objs:=objs} q s'->af (aK c.envs) p q->Q () s')->wpAny g.M A (setAttr (.ref xd.1) (g.nm x) v) Q E s:=by
 refine Bc fun au=>?_
 delta eK at hn
 generalize ho:st.objs[k]?=zV
 induction zV using Oc with
 |none=>rw[ho]at hn;cases hn
 |some o=>
  replace hn:=ho▸hn;dsimp only at hn;generalize hx:g.P.ju o.cls x=zV
  induction zV using Tc with
  |false=>rw[hx]at hn;cases hn
  |true=>
   rw[hx,if_pos rfl]at hn
   delta di at hn
   replace hn:=ho▸hn;dsimp only at hn;generalize hl:o.live=zV
   induction zV using Tc with
   |false=>rw[hl]at hn;cases hn
   |true=>
    rw[hl,if_pos rfl]at hn;cases hn;obtain⟨y,d,C,m,od,zC⟩:=iv.inst ho hl
    haveI QY:=(go.cls _ _ zC.2.1)
    haveI a4:=QY.2.2.2.1
    haveI a5:=QY.2.2.2.2.1
    haveI a6:=QY.2.2.2.2.2.1
    refine au ?_;refine⟨_,zC.1,fun A Q E h=>?_⟩;have X:=iv.O7 go;refine set_plain X zC.2.2.1 a4 (osa_open (s:={s with toks:=s.toks+1}) X zC.2.2.1 a5 (by unfold takerIn;rw[go.fld _ _ _ hx zC.2.1];rfl) fun b=>?_)
    haveI Vr:=(Cs (any_some a6))
    haveI hcd:=Vr.1
    haveI hd':=Vr.2
    refine aF (bY (aF (aF (wpAny_loadPart zC.2.2.1.at_ (aF (Looks.here (s:={s with toks:=s.toks+1}) (looks_clsIn X hcd) ?_))))));refine Rw hd' (bY (a:=some d) (aF (bY (aF ?_))));refine wpAny_nsSet1 (s:={s with toks:=s.toks+1}) (Rw iv.heap ((iv.ok.led _ _ zC.2.2.2.1).2)) fun h' hn' hs'=>?_;refine Bc fun au=>?_;obtain⟨L,QZ,HB⟩:=go.gW o.cls
    obtain⟨o',es,ep,w1,w2,w3⟩:=HA (L:=L) hn' (fun w hw=>by
     by_cases e:w=g.nm x
     ·exact Rw e (HB x hx)
     ·obtain⟨f,e1,e2⟩:=zC.2.2.2.2.2.2.1 w (by simpa [e] using hw)
      refine Rw e1 ?_;exact HB f e2)
    refine au ?_;refine aF (wpAny_lookBehind w1 (by refine Rw w2 ?_;exact pastItsLine_dict (by refine Rw kq ?_;exact aI w3 (aI QZ (Dn rfl)))) ?_);refine Bc fun au=>?_;obtain⟨q,i2,m2⟩:=iv.QX (C:=C) (lv:=lv) (s':={s with heap:=h',toks:=s.toks+1+1}) go ho hl zC.1 zC.2.2.2.1 hx hv hn' hs' rfl rfl;apply au;exact bY (h q _ (hl▸i2) m2)
end
section
theorem yu{st:St}(go:g.Ok fA)(co:c.Ok g ks n)(hc:c.comp=false)(hk:look y ks=some .local)(iv:Inv g c st p s)(hy:look y st.loc=some (.ref k))(h:∀xd,p.W[k]?=some xd->Q (.ref xd.1) s):wpAny g.M A (eval (.Name (g.nm y) pos) c.env) Q E s:=by
 refine Bc fun au=>?_;obtain⟨hm,hx⟩:=iv.ns';have hn:c.names st=st.loc:=by unfold Cx.names;rw[hc];rfl
 rw[hn]at hx;obtain⟨v,e1,xd,e2,rfl⟩:=hx y _ hy;exact au (jo (zN co.kind (by rw[co.kindOf go.inj,hk]) (Rw iv.heap ((iv.ok.led _ _ hm).2)) e1 (h xd e2)) (go.o4 y))
theorem iS{st:St}(go:g.Ok fA)(co:c.Ok g ks n)(hc:c.comp=false){os:List bt}(hk:look y ks=some .local)(iv:Inv g c st p s)(hy:look y st.loc=some (.ref k))(hn:eK g.P st.objs k x lv=some os)(hv:bw g p (.kE k x) v lv)(h:∀q s',Inv g c {st with objs:=os} q s'->af (aK c.envs) p q->Q () s'):wpAny g.M A (assign (.Attribute (.Name (g.nm y) py) (g.nm x) pos) c.env v) Q E s:=by
 refine aF (ix (yu go co hc hk iv hy fun xd hW=>aF (jM ?_)));obtain⟨Xw,hW',mR⟩:=K3 go iv hn hv;obtain rfl:=(dS (hW▸hW')).symm;exact aF (ix (mR _ _ _ fun q s' i m=>OK (h q s' i m)))
theorem HC{g:Gl}{fA:Nat->Option Addr}{ks:List (Nat×NameKind)}{n:Nat}{c:Cx}{cf:Call}{P:dH}(go:g.Ok fA)(co:c.Ok g ks n)(hc:c.comp=false)(hP:P=g.P){y x:Nat}{py px pos:Pos}{e:ME}(hk:look y ks=some .local)(h:aA g c (aB g.nm e) (ev P cf e)):
  gf g c (.Assign [toT g.nm (.attr (.loc y py) x px)] (aB g.nm e) pos) fun st=>((ev P cf e).val st).bind fun r st=>match look y st.loc with
   |some (.ref k)=>(match eK P st.objs k x r.lv with
    |some os=>.ok .next {st with objs:=os}
    |none=>.bad)
   |_=>.bad:=by
 subst hP;intro st p s iv hb
 haveI hs:swapsWith (aB g.nm e) (some (toT g.nm (.attr (.loc y py) x px))) pos.line c.env=pure false:=by
  induction e using ME.casesOn<;>rfl
 refine jg hs (eB rfl) (dG _ _ _) (iQ (h.val st p s iv (ah hb)) iv.ok (af.refl _ _) (fun x aE e=>ar e) fun r st1 q1 s1 v e1 m1 ω i1 r1=>?_);refine Bc fun au=>?_;have hb1:=fun z=>hb ((aa e1).trans z);generalize hy:look y st1.loc=zV
 induction zV using Oc with
 |none=>exact absurd rfl (hy▸hb1)
 |some lv=>
  induction lv with
  |dat d=>exact absurd rfl (hy▸hb1)
  |own ds=>exact absurd rfl (hy▸hb1)
  |ref k=>
   rw[hy]at hb1;dsimp only at hb1;generalize hn:eK g.P st1.objs k x r.lv=zV
   induction zV using Oc with
   |none=>exact absurd rfl (hn▸hb1)
   |some os=>
    exact au (iS go co hc hk i1 hy hn r1.lv fun q2 s2 i2 m2=>⟨c.m,.next,_,q2,(aa e1).trans (by rw[hy];dsimp only;rw[hn]),m1.trans iv.ok m2,i2,trivial⟩)
theorem DL{g:Gl}{fA:Nat->Option Addr}{ks:List (Nat×NameKind)}{n:Nat}{c:Cx}{cf:Call}{P:dH}(go:g.Ok fA)(co:c.Ok g ks n)(hc:c.comp=false)(hP:P=g.P){y x:Nat}{py px pe pos:Pos}{es:List ME}(hk:look y ks=some .local)(hl:es.length<=1000)(h:∀m∈es,aA g c (aB g.nm m) (ev P cf m)):
  gf g c (.Assign [toT g.nm (.attr (.loc y py) x px)] (.List (ba g.nm es) pe) pos) fun st=>(gx (bS P cf es) st).bind fun ds st=>match look y st.loc with
   |some (.ref k)=>(match eK P st.objs k x (.own ds)with
    |some os=>.ok .next {st with objs:=os}
    |none=>.bad)
   |_=>.bad:=by
 subst hP;intro st p s iv hb;refine jg (v:=aB g.nm (.lst es pe)) rfl (eB rfl) (dG _ _ _) (Co (fun ω st1=>match look y st1.loc with|some (.ref k)=>.kE k x|_=>.nH 0) hl h iv hb fun ds st1 q1 s1 a vs e1 m1 i1 iB hr=>?_);refine Bc fun au=>?_;have hb1:=fun z=>hb ((aa e1).trans z);generalize hy:look y st1.loc=zV
 induction zV using Oc with
 |none=>exact absurd rfl (hy▸hb1)
 |some lv=>
  induction lv with
  |dat d=>exact absurd rfl (hy▸hb1)
  |own ds=>exact absurd rfl (hy▸hb1)
  |ref k=>
   rw[hy]at hb1 iB;dsimp only at hb1 iB;generalize hn:eK g.P st1.objs k x (.own ds)=zV
   induction zV using Oc with
   |none=>exact absurd rfl (hn▸hb1)
   |some os=>
    exact au (iS go co hc hk i1 hy hn ⟨a,vs,rfl,iB,hr⟩ fun q2 s2 i2 m2=>⟨c.m,.next,_,q2,(aa e1).trans (by rw[hy];dsimp only;rw[hn]),m1.trans iv.ok m2,i2,trivial⟩)
end
section
noncomputable def Snap.claim(p:Snap)(a:Addr)(cl:Cell):Snap:={p with led:=fun b=>if b=a then some cl else p.led b}
set_option tactic.hygienic true in
theorem Inv.claim{st:St}(iv:Inv g c st p s)(hV:p.V a)(hl:p.led a=none)(hf:a∉aK c.envs)(hp:p.h.PlainList a vs.toArray):Inv g c st (p.claim a ⟨T,.lst vs⟩) s:=by
 have nl:∀b cl,p.led b=some cl->(p.claim a ⟨T,.lst vs⟩).led b=some cl:=fun b cl e=>by
  have hb:b≠a:=fun z=>Ns hl (z▸e);exact(aw hb).trans e
 have lv:∀{tag:Tag} {v:Value} {x:LV},bw g p tag v x->bw g (p.claim a ⟨T,.lst vs⟩) tag v x:=fun{tag v x} z=>by
  induction x with
  |dat d=>exact z
  |ref k=>exact z
  |own ds=>obtain⟨a,vs,e1,e2,e3⟩:=z;exact⟨a,vs,e1,nl _ _ e2,e3⟩
 refine⟨iv.heap,iv.gens,iv.os,⟨iv.ok.stays,iv.ok.low,iv.ok.all,fun b cl e=>?_,fun b cl e z=>?_,iv.ok.de,iv.ok.f9⟩,?_,iv.emp,fun y v e b hb=>?_,fun hc y b e=>?_,iv.len,fun k o e1 e2=>?_⟩
 ·unfold Snap.claim at e;dsimp only at e;split at e
  ·rename_i h;obtain rfl:=h.symm;exact Rl (dS e) ⟨hV,hp⟩
  ·exact iv.ok.led b cl e
 ·unfold Snap.claim at e;dsimp only at e;split at e
  ·rename_i h;exact Rw h hf
  ·exact iv.ok.oZ b cl e z
 ·obtain⟨e1,e2⟩:=iv.ns';exact⟨nl _ _ e1,fun y v e=>(e2 y v e).elim fun u zL=>⟨u,zL.1,lv zL.2⟩⟩
 ·refine Bc fun au=>?_;obtain⟨u,zC⟩:=iv.aW y v e b hb
  haveI f1:=zC.1
  haveI f2:=zC.2.1
  haveI f3:=zC.2.2.1
  haveI f4:=zC.2.2.2.1
  haveI f5:=zC.2.2.2.2
  apply au
  haveI hba:b≠a:=fun z=>by
   obtain⟨o,z1,z2⟩:=f2;obtain⟨k,w⟩:=hp;rw[z,w]at z1;cases z1;cases z2
  exact⟨u,f1,f2,lv f3,fun z=>(aw hba).trans (f4 z),fun z=>nl _ _ (f5 z)⟩
 ·obtain⟨v,w⟩:=iv.jP hc y b e;exact⟨v,nl _ _ w⟩
 ·obtain⟨y,d,C,m,f1,f2,f3,f4,f5,f6,f7⟩:=iv.objs k o e1 e2;exact⟨y,d,C,m,f1,f2,f3,f4,nl _ _ f5,f6,fun f v e=>(f7 f v e).elim fun a zL=>zL.elim fun u zL=>⟨a,u,zL.1,lv zL.2⟩⟩
set_option tactic.hygienic true in
theorem Am.own{st:St}(T)(gH:p.Ok g.base c.envs)(m:af (aK c.envs) p q)(hw:Recs p q wr)(iv:Inv g c st q s)(x:Am g c wr q s ds L C V s')(hs:Heap.SameBut C s'.heap h'):
  ∃q2 ys,Inv g c st q2 {s' with heap:=h'}/\af (aK c.envs) p q2/\q2.led L=some ⟨T,.lst ys⟩/\ak g.w q2.V q2.h ys ds:=by
 refine Bc fun au=>?_;obtain⟨ys,z3⟩:=x.lst
 haveI hn:=(Cs x.ns)
 obtain⟨i2,m2⟩:=Inv.quiet (V:=fun a=>V a\/a=L) gH m hw iv ⟨x.qt.keep,x.qt.de,fun a v=>v.elim (x.qt.qC a) fun z=>.inr (z▸x.hL),fun a v=>.inl (x.qt.cls a v),fun a v=>v.elim (x.qt.all a) fun z=>by refine Rw z ?_;obtain⟨k,e⟩:=z3.1;exact⟨_,e⟩⟩ x.gens x.os x.ff;apply au
 have lL:q.led L=none:=by
  generalize z:q.led L=zV
  induction zV using Oc with
  |none=>rfl
  |some cl=>obtain⟨o,e⟩:=(iv.ok.led L cl z).2.some;exact Ns x.hL e
 have lC:q.led C=none:=by
  cases z:q.led C with
  |none=>rfl
  |some cl=>obtain⟨o,e⟩:=(iv.ok.led C cl z).2.some;exact Ns x.hC e
 haveI fC:C∉aK c.envs:=fun f=>by obtain⟨o,e⟩:=iv.ok.all C (iv.ok.de C f);exact Ns x.hC e
 haveI i3:=i2.claim (T:=T) (.inr rfl) lL (fun f=>by obtain⟨o,e⟩:=iv.ok.all L (iv.ok.de L f);exact Ns x.hL e) z3.1
 haveI m3:af (aK c.envs) p (Snap.claim ⟨fun a=>V a\/a=L,q.led,q.W,s'.heap⟩ L ⟨T,.lst ys⟩):=by
  refine⟨m2.keep,m2.de,m2.ext,m2.qC,fun a cl e=>?_,m2.cls,m2.pre⟩;unfold Snap.claim at e;dsimp only at e;split at e
  ·rename_i h;exact .inr (h▸m.back x.hL)
  ·exact m2.rO a cl e
 have k:=fun b o hb e=>hs.extBut b o hb e
 haveI lC3:(Snap.claim ⟨fun a=>V a\/a=L,q.led,q.W,s'.heap⟩ L ⟨T,.lst ys⟩).led C=none:=by
  exact(aw (eh x.ne)).trans lC
 refine⟨_,ys,(i3.vK (s':={s' with heap:=h'}) k (.inl x.VC) lC3 fC (mL hn) rfl rfl),jQ m3 (m.back x.hC) gH.all k,if_pos rfl,?_⟩;exact z3.2.imp fun a o nv e=>⟨fun z=>nv z.1,k a o (fun z=>nv (.inl (z▸x.VC))) e⟩
theorem DM{g:Gl}{fA:Nat->Option Addr}{ks:List (Nat×NameKind)}{n:Nat}{c:Cx}{cf:Call}{P:dH}{elt it:ME}{t:MT}{ifs:List ME}{ks':List (Nat×NameKind)}{y x:Nat}{py px pos QW:Pos}(go:g.Ok fA)(co:c.Ok g ks n)(hc:c.comp=false)(hP:P=g.P)(hk:look y ks=some .local)(sc:yc ks ks' t)(hit:aA g c (aB g.nm it) (ev P cf it))(he:∀c',c'.comp=true->c'.Ok g (bN ks') n->aA g c' (aB g.nm elt) (ev P cf elt))(hi:∀c',c'.comp=true->c'.Ok g (bN ks') n->∀m∈ifs,aA g c' (aB g.nm m) (ev P cf m)):
  gf g c (.Assign [toT g.nm (.attr (.loc y py) x px)] (.ListComp (aB g.nm elt) [⟨toT g.nm t,aB g.nm it,ba g.nm ifs,0⟩] (bh g.nm ks' []) QW) pos) fun st=>(bH (ev P cf elt) ⟨t,ev P cf it,bS P cf ifs⟩ [] st).bind fun ds st=>match look y st.loc with
   |some (.ref k)=>(match eK P st.objs k x (.own ds)with
    |some os=>.ok .next {st with objs:=os}
    |none=>.bad)
   |_=>.bad:=by
 subst hP;intro st p s iv hb;apply jg rfl rfl (dG _ _ _);refine bA (nS (hF:=Zx _) (use:=none) (Q:=fun x1 s1=>wpAny g.M c.A (assign (toT g.nm (.attr (.loc y py) x px)) c.env x1) _ _ s1) go co sc hit (Au he) hi iv hb fun ds st1 q s1 wr e m1 i1 hw L C V s' ce=>?_) (fun ω ω z=>z) fun ω ω z=>z.toS
 letI mC:=Ce ce.ns
 haveI hn:=(Cs ce.ns)
 refine⟨mC,hn,fun h' hs'=>?_⟩;refine Bc fun au=>?_
 haveI hb1:=fun z=>hb ((aa e).trans z)
 generalize hy:look y st1.loc=zV
 induction zV using Oc with
 |none=>refine au ?_;rw[hy]at hb1;exact absurd rfl hb1
 |some lv=>
  induction lv with
  |dat d=>exact absurd rfl (hy▸hb1)
  |own ds=>exact absurd rfl (hy▸hb1)
  |ref k=>
   rw[hy]at hb1;dsimp only at hb1;generalize hnf:eK g.P st1.objs k x (.own ds)=zV
   induction zV using Oc with
   |none=>exact absurd rfl (hnf▸hb1)
   |some os=>
    obtain⟨q2,ys,XM⟩:=ce.own (.kE k x) iv.ok m1 hw i1 hs';exact au (iS go co hc hk XM.1 hy hnf ⟨L,ys,rfl,XM.2.2.1,XM.2.2.2⟩ fun q3 s3 i3 m3=>⟨c.m,.next,_,q3,(aa e).trans (by rw[hy];dsimp only;rw[hnf]),XM.2.1.trans iv.ok m3,i3,trivial⟩)
end
section
theorem tG(hl:s.heap.PlainList l items)(h0:0<=k)(hfit:k<2^63)(hn:k<items.size)(hQ:∀h',h'.PlainList l (items.setIfInBounds k.toNat v)->Heap.SameBut l s.heap h'->Q () {s with heap:=h'}):wpAny (model prog w) A (setItem (.ref l) (.int k t) v) Q E s:=by
 obtain⟨n,ho⟩:=hl
 haveI hT:s.TypeIs (.ref l) "list":=⟨_,ho,rfl⟩
 unfold setItem
 try with_reducible apply ix
 first|apply aF (bY)|skip
 refine aF (Oo hT (by decide) ?_)
 refine aF (Ff (name:=Str.ofString "__setitem__") hT Ou
  (BC Ou hT entry_list_setitem ?_ (args_list_setitem _ _ _)))
 show wpAny _ _ (Builtin.List.listSubscript? (.int k t)>>=_) _ _ s;refine aF (wpAny_listSubscript_int (fitsIndex_of h0 hfit) ?_);clear hfit;obtain⟨j,rfl⟩:=xb h0
 haveI hx':items[j]?=some items[j]:=Array.getElem?_eq_getElem (by lia)
 refine aF (aF (wpAny_seqItemAt ho rfl (bY ?_)));refine Rw hx' ?_
 haveI Vs:∃n',(s.heap.update l (Obj.mapSeq (·.setIfInBounds j v))).get? l=some {cls:=.type "list",data:=.seq (items.setIfInBounds j v) n'}:=
  ⟨_,Dj _ ho rfl⟩
 refine aF (wpAny_setSeqItemAt ho rfl ?_)
 first
  |exact aF (bY (bY ⟨.none,rfl,bY (hQ _ Vs (Heap.SameBut.update ..))⟩))
  |exact bY ⟨.none,rfl,bY (hQ _ Vs (Heap.SameBut.update ..))⟩
end
section
noncomputable def Place.tag:Place->Tag
 |.loc x=>.nH x
 |.fld k x=>.kE k x
def qd(g:Gl)(c:Cx)(st:St)(p:Snap)(a:Addr):Place->Prop
 |.loc x=>c.m (g.nm x)=some (.ref a)
 |.fld k x=>∀y d C m o,st.objs[k]?=some o->p.W[k]?=some (y,d)->g.cA o.cls=some C->p.led d=some ⟨.dict k,.sX m⟩->m (g.nm x)=some (.ref a)/\g.P.ju o.cls x=true
def Vt(ks:List (Nat×NameKind))(o:ME):Bool:=match o with
 |.loc y _=>decide (look y ks=some .local)
 |_=>false
def HD(ks:List (Nat×NameKind))(o:ME):Bool:=match o with
 |.loc x _=>decide (look x ks=some .local)
 |.attr o _ _=>Vt ks o
 |_=>false
inductive ZY(ks:List (Nat×NameKind)):ME->Prop
 |loc(x p)(h:look x ks=some .local):ZY ks (.loc x p)
 |attr(y py x p)(h:look y ks=some .local):ZY ks (.attr (.loc y py) x p)
theorem yv{ks:List (Nat×NameKind)}{o:ME}(h:HD ks o=true):ZY ks o:=by
 induction o using ME.casesOn with
 |loc x p=>exact .loc x p (bR h)
 |attr o x p=>induction o using ME.casesOn with
  |loc y q=>exact .attr y q x p (bR h)
  |_=>exact absurd h cO
 |_=>exact absurd h cO
theorem nZ{lv:Option LV}(h:(match lv with|some (.own xs)=>some xs|_=>none)=some xs):lv=some (.own xs):=by
 rcases lv with _|_|_|ys
 ·exact Ns rfl h
 ·exact Ns rfl h
 ·exact Ns rfl h
 ·exact bz (fun z=>some (LV.own z)) (dS h)
theorem HE{lv:Option LV}(h:(match lv with|some (.ref k)=>some (Place.fld k x)|_=>none)=some pl):∃k,lv=some (.ref k)/\Place.fld k x=pl:=by
 rcases lv with _|_|k|_
 ·exact Ns rfl h
 ·exact Ns rfl h
 ·exact⟨k,rfl,dS h⟩
 ·exact Ns rfl h
theorem r8{st:St}(go:g.Ok fA)(co:c.Ok g ks n)(hc:c.comp=false)(hok:HD ks o=true)(iv:Inv g c st p s)(hp:placeOf o st=some pl)(ho:ownAt pl st=some xs)(h:∀a vs s',Keeps s s'->p.led a=some ⟨pl.tag,.lst vs⟩->ak g.w p.V p.h vs xs->qd g c st p a pl->Q (.ref a) s'):wpAny g.M A (eval (aB g.nm o) c.env) Q E s:=by
 rcases yv hok with⟨x,pos,hk⟩|⟨y,py,x,px,hk⟩
 ·cases hp;have ho:(match look x st.loc with|some (.own xs)=>some xs|_=>none)=some xs:=ho;have hl:=nZ ho;obtain⟨hm,hx⟩:=iv.ns';have hn:c.names st=st.loc:=by unfold Cx.names;rw[hc];rfl
  rw[hn]at hx;obtain⟨v,e1,a,vs,rfl,f1,f2⟩:=hx x _ hl;exact jo (zN co.kind ((co.kindOf go.inj ..).trans (hk ..)) (Rw iv.heap ((iv.ok.led _ _ hm).2)) e1 (h a vs s (cw _) f1 f2 e1)) (go.o4 x)
 ·have hp:(match look y st.loc with|some (.ref k)=>some (Place.fld k x)|_=>none)=some pl:=hp;obtain⟨k,hy,rfl⟩:=HE hp;have ho:(match fld st.objs k x with|some (.own xs)=>some xs|_=>none)=some xs:=ho;have hf:=nZ ho;obtain⟨xd,v,f1,⟨a,vs,rfl,f2,f3⟩,f4,f5⟩:=qU go iv hf;refine BK (yu go co hc hk iv hy fun Xw hW=>?_) (lF (o:=.loc y py) rfl);rw[f1]at hW;cases hW;exact f5 _ _ _ (h a vs _ (bF _ _) f2 f3 f4)
theorem pd{st:St}(iv:Inv g c st p s)(hc:c.comp=false)(gJ:ownAt pl st=some xs)(iB:p.led a=some ⟨pl.tag,.lst vs⟩)(K4:qd g c st p a pl)(mR:ja pl ys st=some aE)(hr:ak g.w p.V p.h vs' ys)(hn:s'.heap.PlainList a vs'.toArray)(hs:Heap.SameBut a s.heap s'.heap)(hg:s'.gens=s.gens)(ho:s'.os=s.os):∃q,Inv g c aE q s'/\af (aK c.envs) p q:=by
 have Pm:c.names st=st.loc:=by unfold Cx.names;rw[hc];rfl
 induction pl with
 |loc x=>
  cases mR
  haveI key:=iv.G6 iB (fun z=>nomatch z) hn hs hg ho (put x (.own ys) st.loc) st.objs (fun y lv e=>?_) rfl (fun q hq mv j o e1 e2=>?_)
  ·obtain⟨q,i2,m2⟩:=key;rw[hc,aw (by decide)]at i2;exact⟨q,i2,m2⟩
  ·by_cases hy:y=x
   ·subst hy;obtain rfl:=dS ((b8 ..)▸e);exact .inr ⟨c.m,ys,iv.ns'.1,K4,rfl,rfl,hr⟩
   ·exact .inl ⟨by rw[Pm];exact((cR hy ..)▸e),fun z=>by cases z;exact hy rfl⟩
  ·subst hq;refine gc.moves mv iv.ok (fun d mm z=>?_) (fun f b us z=>?_) (iv.objs j o e1 e2)
   ·rw[br];exact z;intro w;rw[w,iB]at z;cases z
   ·rw[br];exact z;intro w;rw[w,iB]at z;cases z
 |fld k x=>
  simp only[ja]at mR;obtain⟨os,h1,rfl⟩:=iu.mp mR
  delta di at h1
  generalize EP:st.objs[k]?=zV
  induction zV using Oc with
  |none=>rw[EP]at h1;cases h1
  |some o=>
   rw[EP]at h1;dsimp only at h1;generalize hl:o.live=zV
   induction zV using Tc with
   |false=>rw[hl]at h1;cases h1
   |true=>
    rw[hl,if_pos rfl]at h1;cases h1
    haveI key:=iv.G6 iB (fun z=>nomatch z) hn hs hg ho st.loc (st.objs.set k {o with gW:=put x (.own ys) o.gW,live:=true}) (fun y lv e=>.inl ⟨Rw Pm e,fun z=>nomatch z⟩) km (fun q hq mv j o' e1 e2=>?_)
    ·obtain⟨q,i2,m2⟩:=key;rw[hc,aw (by decide)]at i2;exact⟨q,i2,m2⟩
    ·subst hq;rcases vI e1 with⟨rfl,rfl,-⟩|⟨hj,e1⟩
     ·obtain⟨y,d,C,m,f1,f2,f3,f4,f5,f6,f7⟩:=iv.objs j o EP hl
      haveI T7:=mv.imp iv.ok y _ f4 f3
      have hd:d≠a:=fun z=>by rw[z,iB]at f5;cases f5
      refine⟨y,d,C,m,f1,f2,T7.2,T7.1,(br hd).trans f5,f6,fun f lv e=>?_⟩;dsimp only at e;by_cases hf:f=x
      ·obtain rfl:=hf.symm;rw[b8]at e;cases e;obtain⟨w1,w2⟩:=K4 _ _ _ _ o EP f1 f2 f5;exact⟨w2,_,w1,a,vs',rfl,if_pos rfl,mv.jd iv.ok hr⟩
      ·rw[cR hf]at e;obtain⟨w1,u,z51⟩:=f7 f lv e;refine⟨w1,u,z51.1,mv.lv iv.ok (fun b us z=>?_) z51.2⟩;rw[br];exact z;intro w;rw[w,iB]at z;cases z;exact hf rfl
     ·refine gc.moves mv iv.ok (fun d mm z=>?_) (fun f b us z=>?_) (iv.objs j o' e1 e2)
      ·rw[br];exact z;intro w;rw[w,iB]at z;cases z
      ·rw[br];exact z;intro w;rw[w,iB]at z;cases z;exact hj rfl
theorem qd.keeps{st:St}(x:qd g c st p a pl):qd g c st (p.grow h) a pl:=by induction pl<;>exact x
set_option tactic.hygienic true in
theorem K5(go:g.Ok fA)(co:c.Ok g ks n)(hc:c.comp=false)(hok:HD ks o=true)(hki:nN ks c.comp i=true)(h:aA g c (aB g.nm e) (ev P cf e))(J3:fK e=false):
  gf g c (.Assign [toT g.nm (.sub o i ps)] (aB g.nm e) pos) fun st=>((ev P cf e).dat st).bind fun v st=>(opt (placeOf o st) st).bind fun pl st=>if cC i then((ev P cf i).dat st).bind fun k st=>(match k with
  |.int j=>(match ownAt pl st with
   |some xs=>(match ku xs j v with
    |some ys=>(match ja pl ys st with
     |some st=>.ok .next st
     |none=>.bad)
    |none=>.bad)
   |none=>.bad)
  |_=>.bad)else .bad:=by
 intro st p s iv hb;refine jg (kI J3 _ _ _) (eB rfl) (dG _ _ _) (iQ (h.val.dat st p s iv (ah hb)) iv.ok (af.refl _ _) (fun x aE e=>ar e) fun v st1 q1 s1 vv e1 m1 ω i1 r1=>?_);have hb1:=fun z=>hb ((aa e1).trans z);obtain⟨pl,hpl⟩:=b7 (ah hb1);have iM:_≠Res.bad:=fun z=>hb1 ((aa (show opt (placeOf o st1) st1= .ok pl st1 by rw[hpl];rfl)).trans z);clear h J3 hb hb1;generalize G2:cC i=zV
 induction zV using Tc with
 |false=>exact absurd rfl (G2▸iM)
 |true=>
  refine Bc fun au=>?_;rw[G2,if_pos rfl]at iM;generalize e2:(ev P cf i).dat st1=zV
  induction zV using Res.casesOn with
  |bad=>exact absurd rfl (e2▸iM)
  |exc x st2=>exact(nO G2 e2).elim
  |ok k st2=>
   rw[aa e2]at iM;refine au ?_;induction k using PyData.casesOn<;>first|exact absurd rfl iM|skip
   refine Bc fun au=>?_;rename_i j
   haveI Vn:st2=st1:=uo G2 e2 fun xs z=>nomatch z
   subst Vn;dsimp only at iM;generalize gJ:ownAt pl st2=zV
   induction zV using Oc with
   |none=>exact absurd rfl (gJ▸iM)
   |some xs=>
    replace iM:=gJ▸iM;dsimp only at iM;generalize T8:ku xs j v=zV
    induction zV using Oc with
    |none=>exact absurd rfl (T8▸iM)
    |some ys=>
     replace iM:=T8▸iM;dsimp only at iM;generalize mR:ja pl ys st2=zV
     induction zV using Oc with
     |none=>exact absurd rfl (mR▸iM)
     |some gB=>
      refine au ?_;refine aF (ix (r8 go co hc hok i1 hpl gJ fun a vs s2 k2 iB Vm K4=>?_));refine aF (ix (ur go co G2 hki (i1.grow k2).1 e2 (fun xs z=>nomatch z) fun vi s3 k3 r3=>aF (jM (aF (ix ?_)))));haveI Vu:=((i1.grow k2).1.grow k3)
      haveI i3:=Vu.1
      haveI m3:=Vu.2
      have T5:=(i1.grow k2).2.trans i1.ok m3;cases r3;unfold ku at T8;split at T8
      ·rename_i hj;cases T8
       haveI XN:s3.heap.PlainList a vs.toArray:=Rw i3.heap ((i3.ok.led a _ iB).2)
       haveI hz:vs.length=xs.length:=Vm.length
       refine tG XN hj.1 (vf hj.2.2 (by decide)) (Rw qx (Rw hz hj.2.1)) fun h' hl' hs'=>OK ?_;obtain⟨q4,z63⟩:=pd (vs':=vs.set j.toNat vv) (s':={s3 with heap:=h'}) i3 hc gJ iB (qd.keeps (qd.keeps K4)) mR ((T5.jd i1.ok Vm).set (T5.rep i1.ok r1)) (by simpa using hl') hs' rfl rfl;refine⟨c.m,.next,gB,q4,(aa e1).trans ((aa (show opt (placeOf o st2) st2= .ok pl st2 by rw[hpl];rfl)).trans (by rw[if_pos rfl,aa e2];rw[gJ];dsimp only;unfold ku;rw[if_pos hj];dsimp only;rw[mR])),(m1.trans iv.ok T5).trans iv.ok z63.2,z63.1,trivial⟩
      ·cases T8
end
section
theorem qf{c:Cx}(co:c.Ok g ks n)(fx:gy o=true)(o9:ap.endLine=cp.line)(h:wpAny g.M c.A (eval (aB g.nm o) c.env) (fun v s1=>∃a vs,v= .ref a/\s1.heap.PlainList a vs/\wpAny g.M c.A (eval (aB g.nm e) c.env) (fun w s2=>wpAny g.M c.A (PySem.call (.builtin "list.append") [.ref a,w]) (fun ω s3=>Q .next s3) E s2) E s1) E s):
  wpAny g.M c.A (PySem.exec (.Expr (.Call (.Attribute (aB g.nm o) "append" ap) [aB g.nm e] [] cp) pos) c.env) Q E s:=by
 refine OH ?_ (Cn co) rfl
 have he:eval (.Call (.Attribute (aB g.nm o) "append" ap) [aB g.nm e] [] cp) c.env=(do
   let ov<-eval (aB g.nm o) c.env
   standAt ap.atName
   methodCall (aB g.nm o) "append" ap cp c.env ov ((ba g.nm [e]).length+([]:List Keyword).length) (backTo cp (starEach (ba g.nm [e]) c.env)) (backToKw cp (keywordEach [] c.env))):=by
  refine Rl (qT (nm:=g.nm) (o:=o) (attr:="append") (env:=c.env) (whole:=eval (aB g.nm o) c.env) fx) ?_
  with_unfolding_all rfl
 refine Rw he (aF (bA h (fun v s1 z=>aF (jM ?_)) fun ω ω z=>z));refine Bc fun au=>?_;obtain⟨a,vs,rfl,⟨k,hpl⟩,z⟩:=z;apply au;simp only[methodCall];refine Rw (show backToKw cp (keywordEach [] c.env)= []from rfl) (Rw (vN g.nm c.env cp [e] (by simp)) ?_);refine aF (ix ?_);apply Calls.getMethod_list_append hpl rfl rfl;dsimp only;unfold methodCallPos;rw[if_pos (by rw[o9];simp)];refine aF (bY (Ni (plain_any g.nm c.env cp [e]) (iP [e] ?_)));refine pK (bA z (fun w s2 z2=>t8 z2) fun ω ω z=>z) (bL _ _ _ _)
set_option tactic.hygienic true in
theorem K6{g:Gl}{fA:Nat->Option Addr}{ks:List (Nat×NameKind)}{n:Nat}{c:Cx}{cf:Call}{P:dH}(go:g.Ok fA)(co:c.Ok g ks n)(hc:c.comp=false){x:Nat}{px ap cp pos:Pos}{e:ME}(hk:look x ks=some .local)(o9:ap.endLine=cp.line)(h:aA g c (aB g.nm e) (ev P cf e)):
  gf g c (.Expr (.Call (.Attribute (aB g.nm (.loc x px)) "append" ap) [aB g.nm e] [] cp) pos) fun st=>match ownAt (.loc x) st with
   |none=>.bad
   |some _=>((ev P cf e).dat st).bind fun d st=>match ownAt (.loc x) st with
    |none=>.bad
    |some xs=>if xs.length<=lim then .ok .next {st with loc:=put x (.own (xs++ [d])) st.loc}else .bad:=by
 intro st p s iv hb;generalize gJ:ownAt (.loc x) st=zV
 induction zV using Oc with
 |none=>simp only[gJ]at hb;exact absurd rfl hb
 |some xs0=>
  simp only[gJ]at hb⊢;refine qf co rfl o9 (r8 (o:=.loc x px) (pl:=.loc x) go co hc (bP hk) iv rfl gJ fun a vs0 s1 k1 iB Vg K4=>?_)
  haveI HF:=(iv.grow k1)
  haveI i1:=HF.1
  haveI m1:=HF.2
  refine⟨a,vs0.toArray,rfl,Rw i1.heap ((i1.ok.led a _ iB).2),?_⟩;refine iQ (h.val.dat st _ s1 i1 (ah hb)) iv.ok m1 (fun x aE e=>ar e) fun d st2 q2 s2 v e2 m2 qQ i2 r2=>?_;have iM:=fun z=>hb ((aa e2).trans z);generalize yw:ownAt (.loc x) st2=zV
  induction zV using Oc with
  |none=>exact absurd rfl (yw▸iM)
  |some xs=>
   rw[yw]at iM;dsimp only at iM;split at iM
   ·refine Bc fun au=>?_;rename_i jf
    haveI nQ:=by
     exact nZ yw
    haveI hx:=i2.ns'.2
    have hn:c.names st2=st2.loc:=by unfold Cx.names;refine Rw hc ?_;rfl
    rw[hn]at hx;obtain⟨v',e3,a',vs,rfl,f1,f2⟩:=hx x _ nQ
    have haa:a'=a:=by
     haveI:c.m (g.nm x)=some (.ref a):=K4
     rw[this]at e3;cases e3;rfl
    subst haa;refine au ?_;refine Fe (Rw i2.heap ((i2.ok.led a' _ f1).2)) (fun h' hl' hs'=>?_) (Rw qx (Rw f2.length (gb jf)));refine Bc fun au=>?_;obtain⟨q3,z39⟩:=pd (pl:=.loc x) (ys:=xs++ [d]) (vs':=vs++ [v]) (s':={s2 with heap:=h'}) i2 hc yw f1 K4 rfl (f2.append (ak.one r2)) (by simpa using hl') hs' rfl rfl;exact au ⟨c.m,.next,_,q3,(aa e2).trans (by refine Rw yw ?_;exact(if_pos jf)),m2.trans iv.ok z39.2,z39.1,trivial⟩
   ·exact absurd rfl iM
def DN(E:St->Res D)(y x:Nat)(st:St):Res dJ:=match look y st.loc with
   |some (.ref k)=>(match ownAt (.fld k x) st with
    |none=>.bad
    |some xs=>if xs.length<=lim then(match E {st with objs:=hidden st.objs}with
     |.ok d st1=>if st1.objs.length=st.objs.length then(match di st.objs k x (.own (xs++ [d]))with
      |some os=>.ok .next {st1 with objs:=os}
      |none=>.bad)else .bad
     |_=>.bad)else .bad)
   |_=>.bad
theorem HG{E:St->Res D}{y x:Nat}{st:St}(hb:DN E y x st≠ .bad):∃k xs d st1 os,look y st.loc=some (.ref k)/\ownAt (.fld k x) st=some xs/\xs.length<=lim/\E {st with objs:=hidden st.objs}= .ok d st1/\st1.objs.length=st.objs.length/\di st.objs k x (.own (xs++ [d]))=some os/\DN E y x st= .ok .next {st1 with objs:=os}:=by
 generalize hR:DN E y x st=R at*;unfold DN at hR;generalize hy:look y st.loc=zV
 induction zV using Oc with
 |none=>exact absurd (hy▸hR).symm hb
 |some lv=>
  rw[hy]at hR
  induction lv with
  |dat d=>exact absurd hR.symm hb
  |own ds=>exact absurd hR.symm hb
  |ref k=>
   dsimp only at hR;generalize gJ:ownAt (.fld k x) st=zV
   induction zV using Oc with
   |none=>exact absurd (gJ▸hR).symm hb
   |some xs=>
    rw[gJ]at hR;dsimp only at hR;by_cases jf:xs.length<=lim
    ·replace hR:=(if_pos jf)▸hR
     cases hE:E {st with objs:=hidden st.objs}with
     |bad=>exact absurd (hE▸hR).symm hb
     |exc x' st1=>exact absurd (hE▸hR).symm hb
     |ok d st1=>
      replace hR:=hE▸hR;dsimp only at hR;by_cases hlen:st1.objs.length=st.objs.length
      ·refine Bc fun au=>?_;rw[if_pos hlen]at hR;generalize mR:di st.objs k x (.own (xs++ [d]))=zV
       induction zV using Oc with
       |none=>exact absurd (mR▸hR).symm hb
       |some os=>refine au ?_;exact⟨k,xs,d,st1,os,rfl,gJ,jf,rfl,hlen,mR,(mR▸hR).symm⟩
      ·rw[aw hlen]at hR;exact absurd hR.symm hb
    ·exact absurd ((aw jf)▸hR).symm hb
theorem K7(go:g.Ok fA)(co:c.Ok g ks n)(hc:c.comp=false)(hk:look y ks=some .local)(o9:ap.endLine=cp.line)(h:aA g c (aB g.nm e) (ev P cf e)):
  gf g c (.Expr (.Call (.Attribute (aB g.nm (.attr (.loc y py) x px)) "append" ap) [aB g.nm e] [] cp) pos) fun st=>DN (ev P cf e).dat y x st:=by
 intro st p s iv hb;refine nj fun au=>?_;obtain⟨k,xs,d,st1,os,hy,gJ,jf,hE,hlen,mR,hF⟩:=HG hb;refine au ?_;clear hb;dsimp only;rw[hF];have hpl:placeOf (.attr (.loc y py) x px) st=some (.fld k x):=by show(match look y st.loc with|some (.ref k)=>some (Place.fld k x)|_=>none)=_;rw[hy]
 refine qf co rfl o9 (r8 (o:=.attr (.loc y py) x px) go co hc (bP hk) iv hpl gJ fun a vs s1 k1 iB Vg K4=>?_);refine nj fun au=>?_;obtain⟨i1,m1⟩:=iv.grow k1;refine au ?_;refine⟨a,vs.toArray,rfl,by rw[i1.heap];exact(i1.ok.led a _ iB).2,?_⟩;have Vv:=h.val.dat {st with objs:=hidden st.objs} _ s1 (r7 i1) (by rw[hE];exact fun z=>nomatch z);refine bA Vv (fun v s2 z=>?_) fun e s2 z=>?_
 ·refine nj fun au=>?_;obtain⟨d',aaO,q2,e2,m2,i2,r2⟩:=z;refine au ?_;rw[hE]at e2;cases e2;refine nj fun au=>?_;obtain⟨i3,m3⟩:=mP i1 m2 i2 hlen hc;refine au ?_;have Pn:((p.grow s1.heap).bx q2).led a=some ⟨.kE k x,.lst vs⟩:=gI (p:=p.grow s1.heap) iB rfl;have hr3:ak g.w ((p.grow s1.heap).bx q2).V ((p.grow s1.heap).bx q2).h vs xs:=m3.jd i1.ok (m1.jd iv.ok Vg);have hp3:s2.heap.PlainList a vs.toArray:=by rw[i3.heap];exact(i3.ok.led a _ Pn).2
  have ZZ:qd g c {st1 with objs:=st.objs} ((p.grow s1.heap).bx q2) a (.fld k x):=by
   intro y' d' C m o z1 z2 z3 z4;generalize hl:o.live=zV
   induction zV using Tc with
   |false=>
    exfalso;have gJ:fld st.objs k x=some (.own xs):=nZ gJ
    delta fld at gJ
    dsimp only at z1;rw[z1]at gJ;dsimp only at gJ;rw[hl]at gJ;cases gJ
   |true=>
    refine nj fun au=>?_;obtain⟨y0,d0,C0,m0,f1,f2,f3,f4,f5,f6,f7⟩:=iv.objs k o z1 hl;refine au ?_;have hw:((p.grow s1.heap).bx q2).W[k]?=some (y0,d0):=lD m3.pre f1;have Vw:=hw.symm.trans z2;injection Vw with Vw;injection Vw with hz3 hz4;subst hz3 hz4;have hl4:((p.grow s1.heap).bx q2).led d0=some ⟨.dict k,.sX m0⟩:=gI (p:=p.grow s1.heap) f5 rfl;rw[hl4]at z4;cases z4;exact K4 _ _ _ _ o z1 f1 z3 f5
  have Vx:ownAt (.fld k x) {st1 with objs:=st.objs}=some xs:=gJ;refine Fe hp3 (fun h' hl' hs'=>?_) (by rw[qx,Vg.length];exact gb jf);refine nj fun au=>?_;obtain⟨q4,i4,m4⟩:=pd (c:=c.at c.m) (pl:=.fld k x) (ys:=xs++ [d]) (vs':=vs++ [v]) (s':={s2 with heap:=h'}) i3 hc Vx Pn ZZ (show ja (.fld k x) (xs++ [d]) {st1 with objs:=st.objs}=some {st1 with objs:=os}by simp only[ja];rw[mR];rfl) (hr3.append (ak.one (by exact r2))) (by simpa using hl') hs' rfl rfl;refine au ?_;exact⟨c.m,.next,_,q4,rfl,(m1.trans iv.ok m3).trans iv.ok m4,i4,trivial⟩
 ·refine nj fun au=>?_;obtain⟨x',aE,q',e2,_⟩:=z;refine au ?_;rw[hE]at e2;cases e2
end
section
theorem gK{st:St}(go:g.Ok fA)(co:c.Ok g ks n)(hk:look (oP b) ks=some .globalImplicit)(iv:Inv g c st p s)(h:wpAny g.M c.A (spliced (backTo pos (starEach (ba g.nm args) c.env))) (fun vs s1=>wpAny g.M c.A (PySem.call (O6 b) vs) Q E s1) E s):
  wpAny g.M c.A (eval (.Call (.Name (g.nm (oP b)) np) (ba g.nm args) [] pos) c.env) Q E s:=by
 refine BW rfl (jo (eP co ((co.kindOf go.inj ..).trans (hk ..)) (Rw iv.heap iv.ok.stays) (go.bf b).1 (go.bf b).2 ?_) (go.o4 _));clear co hk iv go
 induction b using BF.casesOn<;>first
  |exact Ni (plain_any g.nm c.env pos args) (iP args h)
  |exact Nq (plain_any g.nm c.env pos args) (iP args h)
theorem iT{g:Gl}{c:Cx}(h:wpAny g.M c.A (eval (aB g.nm e) c.env) (fun v s1=>Q [v] s1) E s):wpAny g.M c.A (spliced (backTo pos (starEach (ba g.nm [e]) c.env))) Q E s:=by
 exact pK (bA h (fun v s1 z=>t8 z) fun ω ω z=>z) (bL _ _ _ _)
theorem Cr{g:Gl}{c:Cx}(h:wpAny g.M c.A (eval (aB g.nm e) c.env) (fun v s1=>wpAny g.M c.A (eval (aB g.nm f) c.env) (fun w s2=>Q [v,w] s2) E s1) E s):wpAny g.M c.A (spliced (backTo pos (starEach (ba g.nm [e,f]) c.env))) Q E s:=by
 exact pK (bA h (fun v s1 z=>pK (bA z (fun w s2 z2=>t8 z2) fun ω ω z=>z) (bL _ _ _ _)) fun ω ω z=>z) (bL _ _ _ _)
theorem K8{n:Nat}(h:n<=lim):(n:Int)<2^63:=by unfold lim at h;lia
theorem len_list{g:Gl}(hl:s.heap.PlainList a vs)(hz:vs.size=m)(hm:m<=lim)(h:∀t k,Q (.int (m:Int) t) {s with toks:=k}):wpAny g.M A (PySem.call (O6 .len) [.ref a]) Q E s:=by
 subst hz;exact Calls.call_len_list hl.isList (K8 hm) (h _ _)
theorem Q1{g:Gl}(hr:aU g.w V s.heap v d)(e:xp d=some m)(h:∀t k,Q (.int (m:Int) t) {s with toks:=k}):wpAny g.M A (PySem.call (O6 .len) [v]) Q E s:=by
 refine Bc fun au=>?_
 induction d using PyData.casesOn with
 |list ds=>
  obtain⟨a,vs,rfl,z4⟩:=hr.cD;obtain⟨hl,e⟩:=bq e;rw[<-dS e]at h;exact au (len_list z4.2.1 (by simp only[<-gT,z4.2.2.length]) hl h)
 |_=>cases e
theorem K9(go:g.Ok fA)(co:c.Ok g ks n)(hk:look 0 ks=some .globalImplicit)(h:aA g c (aB g.nm e) (ev P cf e)):
  gG g c (.Call (.Name (g.nm (oP .len)) np) (ba g.nm [e]) [] pos) fun st=>((ev P cf e).pk st).bind fun d st=>opt ((xp d).map fun(k:Nat)=>PyData.int k) st:=by
 intro st p s iv hb;refine gK go co (b:=.len) hk iv (iT (step (h.pk st p s iv (ah hb)) iv.ok (af.refl _ _) (fun x aE e=>ar e) fun d st1 q1 s1 v e1 m1 ω i1 r1=>?_));obtain⟨i,ei⟩:=b7 fun z=>hb ((aa e1).trans z);obtain⟨m,em,rfl⟩:=iu.mp ei
 have fin:∀t k,mJ g c p (GN g) (((ev P cf e).pk st).bind fun d st=>opt ((xp d).map fun(k:Nat)=>PyData.int k) st) (.int (m:Int) t) {s1 with toks:=k}:=fun t k=>
  eQ ((aa e1).trans (Rw ei rfl)) iv.ok m1 i1 (bF _ _) (aU.int _ _)
 refine Bc fun au=>?_;rcases r1 with r1|⟨a,tag,vs,ds,rfl,rfl,f1,f2⟩
 ·exact au (Q1 (Rw i1.heap r1) em fin)
 ·refine au ?_;have q:=bq em;exact len_list (Rw i1.heap ((i1.ok.led a _ f1).2)) (Rw qx (Rw f2.length (dS q.2))) (dS q.2▸q.1) fin
theorem Q2{g:Gl}(hh:A.handled=none)(r1:aU g.w V s.heap v a)(r2:aU g.w V s.heap w b)(e:minD a b=some d)(h:Gives g.w V s d Q):wpAny g.M A (PySem.call (O6 .min) [v,w]) Q E s:=by
 obtain⟨i,j,rfl,rfl,e⟩:=nI e;obtain⟨t,rfl⟩:=r1.int_inv;obtain⟨u,rfl⟩:=r2.int_inv;refine min_two_ints hh fun h' tk hk=>h _ _ ⟨h',tk,rfl,hk⟩ (dS e▸?_);by_cases oI:j<i
 ·exact Rw (if_pos oI) (Rw (if_pos oI) (aU.int _ _))
 ·exact Rw (aw oI) (Rw (aw oI) (aU.int _ _))
theorem Q3{g:Gl}(hh:A.handled=none)(r1:aU g.w V s.heap v a)(r2:aU g.w V s.heap w b)(e:maxD a b=some d)(h:Gives g.w V s d Q):wpAny g.M A (PySem.call (O6 .max) [v,w]) Q E s:=by
 obtain⟨i,j,rfl,rfl,e⟩:=nI e;obtain⟨t,rfl⟩:=r1.int_inv;obtain⟨u,rfl⟩:=r2.int_inv;refine max_two_ints hh fun h' tk hk=>h _ _ ⟨h',tk,rfl,hk⟩ (dS e▸?_);by_cases oI:i<j
 ·exact Rw (if_pos oI) (Rw (if_pos oI) (aU.int _ _))
 ·exact Rw (aw oI) (Rw (aw oI) (aU.int _ _))
theorem Ct(go:g.Ok fA)(co:c.Ok g ks n){F:D->D->Option D}(hk:look (oP b) ks=some .globalImplicit)(he:aA g c (aB g.nm e) (ev P cf e))(hf:aA g c (aB g.nm f) (ev P cf f))(hF:∀{s:Shared} {V:Addr->Prop} {v w:Value} {x y d:D} {Q:Value->Shared->Prop} {E:Value->Shared->Prop},aU g.w V s.heap v x->aU g.w V s.heap w y->F x y=some d->Gives g.w V s d Q->wpAny g.M c.A (PySem.call (O6 b) [v,w]) Q E s):
  gG g c (.Call (.Name (g.nm (oP b)) np) (ba g.nm [e,f]) [] pos) fun st=>((ev P cf e).dat st).bind fun x st=>((ev P cf f).dat st).bind fun y st=>opt (F x y) st:=by
 intro st p s iv hb;refine gK go co (b:=b) hk iv (Cr (step (he.val.dat st p s iv (ah hb)) iv.ok (af.refl _ _) (fun x aE e=>ar e) fun d st1 q1 s1 v e1 m1 ω i1 r1=>?_));have hb1:=fun z=>hb ((aa e1).trans z);refine step (hf.val.dat st1 q1 s1 i1 (ah hb1)) iv.ok m1 (fun x aE e=>(aa e1).trans (ar e)) fun y st2 q2 s2 w e2 m2 qQ i2 r2=>?_;obtain⟨z,ez⟩:=b7 fun z=>hb1 ((aa e2).trans z);refine hF (V:=q2.V) (Rw i2.heap (qQ.rep i1.ok r1)) (Rw i2.heap r2) ez fun v s3 k r=>eQ ((aa e1).trans ((aa e2).trans (Rw ez rfl))) iv.ok m2 i2 k r
theorem Le(go:g.Ok fA)(co:c.Ok g ks n)(hk:look 3 ks=some .globalImplicit)(he:aA g c (aB g.nm e) (ev P cf e))(hf:aA g c (aB g.nm f) (ev P cf f)):
  gG g c (.Call (.Name (g.nm (oP .min)) np) (ba g.nm [e,f]) [] pos) fun st=>((ev P cf e).dat st).bind fun x st=>((ev P cf f).dat st).bind fun y st=>opt (minD x y) st:=Ct go co hk he hf (Q2 co.handled)
theorem Lf(go:g.Ok fA)(co:c.Ok g ks n)(hk:look 4 ks=some .globalImplicit)(he:aA g c (aB g.nm e) (ev P cf e))(hf:aA g c (aB g.nm f) (ev P cf f)):
  gG g c (.Call (.Name (g.nm (oP .max)) np) (ba g.nm [e,f]) [] pos) fun st=>((ev P cf e).dat st).bind fun x st=>((ev P cf f).dat st).bind fun y st=>opt (maxD x y) st:=Ct go co hk he hf (Q3 co.handled)
theorem ints_of{g:Gl}{p:Snap}:∀{vs:List Value} {ds:List D} {i:Int},ak g.w p.V p.h vs ds->Ge ds=some i->∃xs:List (Int×Tok),vs=xs.map (fun p=>.int p.1 p.2)/\(xs.map (·.1)).sum=i:=by
 intro vs
 induction vs with
 |nil=>intro ds i r e;cases r;cases e;exact⟨[],rfl,rfl⟩
 |cons v vs ih=>
  intro ds i r e
  induction ds using Lc with
  |nil=>cases r
  |cons d ds=>
   refine nj fun au=>?_;obtain⟨k,rfl⟩:∃k,d= .int k:=by induction d using PyData.casesOn<;>first|exact⟨_,rfl⟩|cases e
   obtain⟨t,rfl⟩:=r.cons_inv.1.int_inv;obtain⟨j,e1,rfl⟩:=iu.mp e;obtain⟨xs,rfl,e2⟩:=ih r.cons_inv.2 e1;apply au;exact⟨(k,t)::xs,rfl,by simp only[c7,List.sum_cons,e2]⟩
theorem Li(go:g.Ok fA)(co:c.Ok g ks n)(hk:look 2 ks=some .globalImplicit)(h:aA g c (aB g.nm e) (ev P cf e)):
  gG g c (.Call (.Name (g.nm (oP .sum)) np) (ba g.nm [e]) [] pos) fun st=>((ev P cf e).dat st).bind fun d st=>match d with|.list xs=>opt ((Ge xs).map .int) st|_=>.bad:=by
 intro st p s iv hb;refine gK go co (b:=.sum) hk iv (iT (step (h.val.dat st p s iv (ah hb)) iv.ok (af.refl _ _) (fun x aE e=>ar e) fun d st1 q1 s1 v e1 m1 ω i1 r1=>?_));have hb1:=fun z=>hb ((aa e1).trans z);refine Bc fun au=>?_;obtain⟨ds,rfl⟩:=Zq hb1;obtain⟨a,vs,rfl,z7⟩:=aU.cD r1;obtain⟨z,ez⟩:=b7 hb1;obtain⟨i,ei,rfl⟩:=iu.mp ez;obtain⟨xs,hx,Z0⟩:=ints_of z7.2.2 ei;apply au
 have hl:s1.heap.IsList a (intItems xs.toArray):=by
  refine Rw i1.heap ?_
  have:vs=intItems xs.toArray:=by
   unfold intItems;rw[List.map_toArray,<-hx]
  exact Rl this z7.2.1.isList
 refine sum_intListG co.handled hl fun h' tk t' hk=>?_
 haveI:preSum (numAt xs.toArray) xs.toArray.size=i:=by
  rw[preSum_eq,Nj (by simp)];simpa using Z0
 refine Rw this ?_;exact eQ ((aa e1).trans (by dsimp only;refine Rw ez ?_;rfl)) iv.ok m1 i1 ⟨h',tk,rfl,hk⟩ (aU.int _ _)
end
section
set_option tactic.hygienic true in
theorem HH(go:g.Ok fA)(co:c.Ok g ks n)(hk:look 1 ks=some .globalImplicit)(h:aA g c (aB g.nm e) (ev P cf e)):
  gG g c (.Call (.Name (g.nm (oP .list)) np) (ba g.nm [e]) [] pos) fun st=>((ev P cf e).dat st).bind fun d st=>match xt d with|some xs=>if xs.length<=lim then .ok (.list xs) st else .bad|none=>.bad:=by
 intro st p s iv hb;refine gK go co (b:=.list) hk iv (iT (step (h.val.dat st p s iv (ah hb)) iv.ok (af.refl _ _) (fun x aE e=>ar e) fun d st1 q1 s1 v e1 m1 ω i1 r1=>?_));have hb1:=fun z=>hb ((aa e1).trans z)
 have key:∀{a:Addr} {vs:Array Value} {ds:List D} {T:String} {o:Obj} {k:Nat},d=d->(T= "list" \/T= "tuple")->q1.h.get? a=some o->o.cls= .type T->o.data= .seq vs k->ak g.w q1.V q1.h vs.toList ds->xt d=some ds->
   wpAny g.M c.A (PySem.call (O6 .list) [.ref a]) (mJ g c p (GN g) (((ev P cf e).dat st).bind fun d st=>(match xt d with|some xs=>if xs.length<=lim then .ok (PyData.list xs) st else .bad|none=>.bad:Res D))) (je g c p (((ev P cf e).dat st).bind fun d st=>(match xt d with|some xs=>if xs.length<=lim then .ok (PyData.list xs) st else .bad|none=>.bad:Res D))) s1:=by
  intro a vs ds T o k _ hT ho hc hd hr hs;rw[hs]at hb1;dsimp only at hb1;split at hb1
  ·rename_i jf
   haveI hz:vs.size=ds.length:=Rl hr.length (Rw gT rfl)
   refine call_list_seq a hT (Rw i1.heap ho) hc hd (fun h' c' hk' hn=>?_) (Rw hz (gb jf));refine eQ (s':={s1 with heap:=h'}) ((aa e1).trans (by refine Rw hs ?_;exact(if_pos jf))) iv.ok m1 i1 ⟨h',s1.toks,rfl,hk'⟩ ?_;refine aU.list i1.alive.new ⟨c',hn⟩ (hr.imp fun b o nv e=>⟨nv,hk' b o (Rw i1.heap e)⟩)
  ·exact(hb1 rfl).elim
 clear e1
 induction d using PyData.casesOn with
 |list xs=>
  obtain⟨a,vs,rfl,nv,⟨k,ho⟩,hr⟩:=r1.cD;exact key rfl (.inl rfl) ho rfl rfl hr rfl
 |tuple xs=>
  obtain⟨a,vs,rfl,nv,⟨k,ho⟩,hr⟩:=r1.dF;exact key rfl (.inr rfl) ho rfl rfl hr rfl
 |_=>exact(hb1 rfl).elim
end
section
theorem r9(k):Builtin.Range.rangeSize 0 k 1=(k.toNat:Int):=by
 rw[rangeSize_one];split<;>lia
theorem yx(h:k<=1000)(h':-(2^62)<k):Builtin.Range.small 0 k 1=true:=by
 haveI f:∀i:Int,-(2^62)<i->i<=1000->Builtin.Range.rangeFitsLong i=true:=fun i h1 h2=>by
  unfold Builtin.Range.rangeFitsLong;simp;exact⟨mf (pS (by decide) h1),Br h2 (by decide)⟩
 unfold Builtin.Range.small;simp[f 0 (by decide) (by decide),f 1 (by decide) (by decide),f k h' h,r9,f (max k 0) (vf (by decide) (Int.le_max_right k 0)) (Int.max_le.mpr ⟨h,by decide⟩)]
end
section
noncomputable def pg(k:Int):List D:=(List.range k.toNat).map fun(i:Nat)=>.int (i:Int)
theorem DO{j:Nat}(hd:(pg k)[j]?=some d):aU w V h (.int (0+(j:Int)*1) t) d:=by
 simp only[pg,jK]at hd;by_cases hj:j<k.toNat
 ·rw[Bo hj]at hd;cases hd
  haveI:(0:Int)+(j:Int)*1=(j:Int):=(BP _).trans (OE _)
  exact Rw this (aU.int _ _)
 ·rw[wW (by simp;exact Int.toNat_le.mp (kl hj))]at hd;cases hd
theorem mS:∀{vs:List Value} {ds:List D},vs.length=ds.length->(∀(j:Nat) v d,vs[j]?=some v->ds[j]?=some d->aU w V h v d)->ak w V h vs ds
 | [],[],_,_=>.nil
 |v::vs,d::ds,hl,hr=>.cons (hr 0 v d rfl rfl) (mS (BE hl) fun j v' d' h1 h2=>hr (j+1) v' d' h1 h2)
theorem Az{st:St}(hh:c.A.handled=none)(i:Inv g c st q s)(hr:IsRange s.heap r 0 k 1 t u v)(h1:k<=1000)(h2:-(2^62)<k)(e:res= .ok (pg k,false) st):
  wpAny g.M c.A (pyIter (.ref r)) (zU g c q res) E s:=by
 haveI hsz:=r9 k
 apply wpAny_pyIter_range hr (yx h1 h2);refine⟨_,false,st,q.grow (s.heap.push {cls:=.type "range_iterator",data:=.fields #[rawInt 0,rawInt (Builtin.Range.rangeSize 0 k 1),rawInt 1]}),q.h,s,e,af.refl _ _,i,(fI i _),(lE i {cls:=.type "range_iterator",data:=.fields #[rawInt 0,rawInt (Builtin.Range.rangeSize 0 k 1),rawInt 1]}).1,fT i (src:=[]) (Walks.range hh _ 0 1 k.toNat) (T:="range_iterator") (rfl) (fun j h z=>⟨_,_,z,rfl,rfl⟩) (by simp[pg]) (fun j d v V' h' L pv hd=>?_) (fun b hb=>?_) (fun ω h=>nomatch h) ?_⟩
 ·obtain⟨t',rfl⟩:=pv;exact DO hd
 ·rw[dp]at hb;exact .inl hb
 ·rw[hsz];simpa using fX _ rfl
set_option tactic.hygienic true in
theorem yy(h:gZ k=some ds):k<=1000/\ -(2^62)<k/\ds=pg k:=by
 unfold gZ at h;split at h
 ·rename_i z;cases h;exact⟨z.1,z.2,rfl⟩
 ·cases h
theorem DP(go:g.Ok fA)(co:c.Ok g ks n)(hk:look 7 ks=some .globalImplicit)(h:aA g c (aB g.nm e) (ev P cf e)):
  Xv g c (.Call (.Name (g.nm (oP .range)) np) (ba g.nm [e]) [] pos) fun st=>((ev P cf e).dat st).bind fun d st=>match d with|.int n=>opt ((gZ n).map (·,false)) st|_=>.bad:=by
 intro st p s iv hb;refine gK go co (b:=.range) hk iv (iT (step (h.val.dat st p s iv (ah hb)) iv.ok (af.refl _ _) (fun x aE e=>ar e) fun d st1 q1 s1 v e1 m1 ω i1 r1=>?_));refine Bc fun au=>?_;obtain⟨k,rfl⟩:=isI (fun z=>hb ((aa e1).trans z));obtain⟨t,rfl⟩:=r1.int_inv;obtain⟨z,ez⟩:=b7 (fun z=>hb ((aa e1).trans z));obtain⟨ds,ed,rfl⟩:=iu.mp ez;obtain⟨l1,l2,rfl⟩:=yy ed;refine au ?_;apply call_range_1
 haveI kp:Keeps s1 {s1 with heap:=s1.heap.push {cls:=.type "range",data:=.fields #[.int 0 s1.toks,.int k t,.int 1 (s1.toks+1)]},toks:=s1.toks+1+1}:=cH _ _ _
 exact bA (Az (E:=fun ω ω=>False) (res:=.ok (pg k,false) st1) co.handled (i1.grow kp).1 (IsRange.new s1.heap 0 k 1 s1.toks t (s1.toks+1)) l1 l2 rfl) (fun it s2 z=>zU.lift iv.ok (m1.trans iv.ok (i1.grow kp).2) ((aa e1).trans (by dsimp only;rw[ed];rfl)).symm z) fun ω ω z=>z.elim
end
section
theorem AA{g:Gl}{c:Cx}(fx:gy o=true)(o9:ap.endLine=cp.line)(h:wpAny g.M c.A (eval (aB g.nm o) c.env) (fun v s1=>∃a,v= .ref a/\(a==sysModules)=false/\(∃(K:Type) (_:DecidableEq K) (knd:KeyKind g.prog g.w K) (ps:List (K×Value)),s1.heap.DictOf knd a ps)/\
   Q (.ref s1.heap.objs.size) {s1 with heap:=s1.heap.push {cls:=.type "dict_items",data:=.fields #[.ref a]}}) E s):
  wpAny g.M c.A (eval (.Call (.Attribute (aB g.nm o) "items" ap) [] [] cp) c.env) Q E s:=by
 have he:eval (.Call (.Attribute (aB g.nm o) "items" ap) [] [] cp) c.env=(do
   let ov<-eval (aB g.nm o) c.env
   standAt ap.atName
   methodCall (aB g.nm o) "items" ap cp c.env ov ((ba g.nm []).length+([]:List Keyword).length) (backTo cp (starEach (ba g.nm []) c.env)) (backToKw cp (keywordEach [] c.env))):=by
  refine Rl (qT (nm:=g.nm) (o:=o) (attr:="items") (env:=c.env) (whole:=eval (aB g.nm o) c.env) fx) ?_
  with_unfolding_all rfl
 refine Rw he (aF (bA h (fun v s1 z=>aF (jM ?_)) fun ω ω z=>z));refine Bc fun au=>?_;obtain⟨a,rfl,hs,⟨K,_,knd,ps,hD⟩,z⟩:=z;apply au;simp only[methodCall];refine Rw (show backToKw cp (keywordEach [] c.env)= []from rfl) (Rw (vN g.nm c.env cp [] (by simp)) ?_);refine aF (ix ?_);apply getMethod_builtin hD.typeIs PySem.F.plainAttrs_dict M8 PySem.F.type_dict_items hD.mapOf.noDict;dsimp only;unfold methodCallPos;rw[if_pos (by rw[o9];simp)];refine aF (bY (callWith_method0 ?_));exact call_meetsIn M8 hD.typeIs PySem.F.entry_dict_items (PySem.F.args_dict_items_1 _) (meets_dict_items knd a hs) ⟨⟨ps,hD⟩,z⟩
end
section
def mT(kvs:List (D×D)):List D:=kvs.map fun p=>.tuple [p.1,p.2]
theorem AB{g:Gl}{ks:List (Nat×NameKind)}{n:Nat}{c:Cx}{st:St}{p:Snap}{s:Shared}{cf:Call}{P:dH}(co:c.Ok g ks n){o:ME}{ap pos:Pos}{β:Type}{f:D->St->Res β}{Q:Value->Shared->Prop}(fx:gy o=true)(o9:ap.endLine=pos.line)(h:aA g c (aB g.nm o) (ev P cf o))(iv:Inv g c st p s)(hb:((ev P cf o).dat st).bind f≠ .bad)(hf:∀d st,(∀kvs,d≠ .dict kvs)->f d st= .bad)(k:∀kvs st1 q1 s1 a K (i:DecidableEq K) (knd:KeyKind g.prog g.w K) ps vw,(ev P cf o).dat st= .ok (.dict kvs) st1->af (aK c.envs) p q1->Inv g c st1 q1 s1->¬q1.V a->s1.heap.IsItemsView vw a->q1.h.DictOf knd a ps->vE g.prog g.w K knd ps kvs q1.V q1.h->f (.dict kvs) st1≠ .bad->Q (.ref vw) s1):
  wpAny g.M c.A (eval (.Call (.Attribute (aB g.nm o) "items" ap) [] [] pos) c.env) Q (je g c p (((ev P cf o).dat st).bind f)) s:=by
 refine AA fx o9 (step (h.val.dat st p s iv (ah hb)) iv.ok (af.refl _ _) (fun x aE e=>ar e) fun d st1 q1 s1 v e1 m1 ω i1 r1=>?_);have hb1:=fun z=>hb ((aa e1).trans z)
 obtain⟨a,kvs,rfl,rfl,nv⟩:∃a kvs,v= .ref a/\d= .dict kvs/\ ¬q1.V a:=by
  clear e1
  induction d using PyData.casesOn with
  |dict kvs=>obtain⟨a,es,e,nv,_⟩:=r1.nG;exact⟨a,kvs,e,rfl,nv⟩
  |_=>exact absurd (hf _ _ (fun ω z=>by cases z)) hb1
 refine nj fun au=>?_
 haveI HF:=(GJ (prog:=g.prog) r1)
 haveI hs:=HF.2.1
 haveI hx:=HF.2.2
 obtain⟨K,inst,knd,ps,hD,hP⟩:=hx;apply au
 haveI kp:Keeps s1 {s1 with heap:=s1.heap.push {cls:=.type "dict_items",data:=.fields #[.ref a]}}:=cH _ _ _
 haveI vH:=(i1.grow kp)
 haveI i2:=vH.1
 haveI m2:=vH.2
 refine⟨a,rfl,hs,⟨K,inst,knd,ps,Rw i1.heap hD⟩,?_⟩
 haveI hk:∀b o,q1.h.get? b=some o->(s1.heap.push {cls:=.type "dict_items",data:=.fields #[.ref a]}).get? b=some o:=fI i1 _
 refine k kvs st1 _ _ a K inst knd ps s1.heap.objs.size e1 (m1.trans iv.ok m2) i2 nv ⟨_,fX _ rfl,rfl,rfl⟩ (hD.keep hk) ⟨hP.1,fun j k x key kv e1 e2 e3=>?_⟩ hb1
 haveI Vy:=(hP.2 j k x key kv e1 e2 e3)
 haveI f1:=Vy.1
 haveI f2:=Vy.2
 exact⟨f1,f2.imp fun b o n e=>⟨n,hk b o e⟩⟩
theorem HI{g:Gl}{K:Type}[DecidableEq K]{knd:KeyKind g.prog g.w K}{ps:List (K×Value)}{lo:Addr}(hP:vE g.prog g.w K knd ps kvs V h)(hk:∀b o,h.get? b=some o->h'.get? b=some o)(hl:as.length=ps.length)(G:KdxG knd ps lo h' as)(hV:∀a∈as,¬V a):
  ak g.w V h' (as.map Value.ref) (mT kvs):=by
 refine mS (by simp[mT,hl,hP.1]) fun j v d h1 h2=>?_;rw[jK]at h1;obtain⟨a,ea,rfl⟩:=iu.mp h1;simp only[mT,jK]at h2;refine Bc fun au=>?_;obtain⟨kv,ek,rfl⟩:=iu.mp h2;obtain⟨key,k,x,z8⟩:=G.pairs j a ea;obtain⟨r1,r2⟩:=hP.2 j k x key kv z8.1 z8.2.1 ek;exact au (aU.tuple (hV a (zK ea)) ⟨0,z8.2.2⟩ (.cons (r1 V h') (.cons (r2.imp fun b o n e=>⟨n,hk b o e⟩) .nil)))
end
noncomputable def Lj:Nat×Nat×Bool->Nat×Nat
 |(i,j,true)=>(i,j)
 |(i,j,false)=>(j,i)
noncomputable def reach(jy:List (Nat×Nat×Bool)):Nat->Nat->Nat->Bool
 |0,a,b=>a==b
 |k+1,a,b=>a==b||jy.any fun e=>(Lj e).1==a&&reach jy k (Lj e).2 b
theorem Cu{a b:Nat}{jy:List (Nat×Nat×Bool)}:reach jy 0 a b=(a==b):=rfl
theorem Cv{k a b:Nat}{jy:List (Nat×Nat×Bool)}:reach jy (k+1) a b=(a==b||jy.any fun e=>(Lj e).1==a&&reach jy k (Lj e).2 b):=rfl
noncomputable def uI(n:Nat)(jy:List (Nat×Nat×Bool)):List Nat->Bool
 |a::b::r=>reach jy n a b&&uI n jy (b::r)
 |_=>true
theorem Lk{n a b:Nat}{r:List Nat}{jy:List (Nat×Nat×Bool)}:uI n jy (a::b::r)=(reach jy n a b&&uI n jy (b::r)):=rfl
def vQ(n:Nat)(jy:List (Nat×Nat×Bool)):Bool:=jy.any fun e=>e.2.2&&reach jy n e.2.1 e.1
noncomputable def ph(n:Nat)(l:List Nat):Bool:=l.isPerm (List.range n)
noncomputable def qE(n:Nat):KasT (Array Nat)->List (Nat×Nat×Bool)->Bool
 |.ret p,jy=>vQ n jy||ph n p.toList&&uI n jy p.toList
 |.ask i j k,jy=>decide (i<n)&&decide (j<n)&&qE n (k true) ((i,j,true)::jy)&&qE n (k false) ((i,j,false)::jy)
theorem HJ{n:Nat}{p:Array Nat}{jy:List (Nat×Nat×Bool)}:qE n (.ret p) jy=(vQ n jy||ph n p.toList&&uI n jy p.toList):=rfl
theorem HK{n i j:Nat}{k:Bool->KasT (Array Nat)}{jy:List (Nat×Nat×Bool)}:qE n (.ask i j k) jy=(decide (i<n)&&decide (j<n)&&qE n (k true) ((i,j,true)::jy)&&qE n (k false) ((i,j,false)::jy)):=rfl
theorem Z1:qE 2 (kas_sort 2) []=true:=by decide+kernel
theorem Z2:qE 3 (kas_sort 3) []=true:=by decide+kernel
theorem Z3:qE 4 (kas_sort 4) []=true:=by decide+kernel
theorem Z4:qE 5 (kas_sort 5) []=true:=by decide+kernel
section
theorem yz{lt:Nat->Nat->Bool}(AD:∀a,lt a a=false)(tr:∀a b c,lt b a=false->lt c b=false->lt c a=false)(T9:∀a b,lt a b=true->lt b a=false)(ha:∀e∈jy,lt e.1 e.2.1=e.2.2):
  ∀k a b,reach jy k a b=true->lt b a=false:=by
 intro k
 induction k with
 |zero=>intro a b h;simp only[Cu,Cv,fY]at h;exact Rw h (AD _)
 |succ k ih=>
  intro a b h;simp only[Cu,Cv,xj,fY,tX,dg]at h;rcases h with h|⟨⟨i,j,d⟩,he,h1,h2⟩
  ·exact Rw h (AD _)
  ·haveI hl:=ha _ he
   simp only at hl
   induction d with
   |true=>
    exact Rl h1 (tr _ _ _ (T9 _ _ hl) (ih _ _ h2))
   |false=>
    exact Rl h1 (tr _ _ _ hl (ih _ _ h2))
theorem Q4{lt:Nat->Nat->Bool}(AD:∀a,lt a a=false)(tr:∀a b c,lt b a=false->lt c b=false->lt c a=false)(T9:∀a b,lt a b=true->lt b a=false)(ha:∀e∈jy,lt e.1 e.2.1=e.2.2):
  ∀l:List Nat,uI n jy l=true->l.Pairwise fun a b=>lt b a=false:=by
 intro l
 induction l with
 |nil=>intro _;exact List.Pairwise.nil
 |cons a r ih=>
  intro h
  induction r using Lc with
  |nil=>exact xa _ _
  |cons b r=>
   simp only[Lk,dg]at h;have h1:=yz AD tr T9 ha _ _ _ h.1;have h2:=ih h.2;refine jJ.2 ⟨fun z hz=>?_,h2⟩;rcases cL.1 hz with e|e
   ·exact Rw e h1
   ·exact tr _ _ _ h1 ((jJ.1 h2).1 z e)
theorem Q5{lt:Nat->Nat->Bool}(AD:∀a,lt a a=false)(tr:∀a b c,lt b a=false->lt c b=false->lt c a=false)(T9:∀a b,lt a b=true->lt b a=false)(hc:∀i j C,i<n->j<n->C (lt i j) s->cmp i j C s)(hG:∀p:Array Nat,ph n p.toList=true->(p.toList.Pairwise fun a b=>lt b a=false)->G p s):
  ∀(t:KasT (Array Nat)) (jy:List (Nat×Nat×Bool)),qE n t jy=true->(∀e∈jy,lt e.1 e.2.1=e.2.2)->t.kasWp cmp G s:=by
 intro t
 induction t with
 |ret p=>
  intro jy h ha;simp only[HJ,HK,xj,dg]at h;rcases h with h|h
  ·exfalso;simp only[vQ,tX,dg]at h;obtain⟨⟨i,j,d⟩,he,h1,h2⟩:=h;simp only at h1 h2
   haveI:=ha _ he
   simp only[h1]at this;exact Nf (yz AD tr T9 ha _ _ _ h2) this
  ·exact hG p h.1 (Q4 AD tr T9 ha _ h.2)
 |ask i j k ih=>
  intro jy h ha;simp only[HJ,HK,dg,iZ]at h;obtain⟨⟨⟨hi,hj⟩,h1⟩,h2⟩:=h;apply hc i j _ hi hj;generalize hl:lt i j=zV
  induction zV using Tc with
  |true=>exact ih true _ h1 (fun e he=>by rcases cL.1 he with z|z;exact Rw z hl;exact ha e z)
  |false=>exact ih false _ h2 (fun e he=>by rcases cL.1 he with z|z;exact Rw z hl;exact ha e z)
end
noncomputable def dK(x y:Int×Int):Bool:=if x.1=y.1 then decide (x.2<y.2)else decide (x.1<y.1)
theorem HL(x):dK x x=false:=by simp[dK]
set_option tactic.hygienic true in
theorem sa(x y)(h:dK x y=true):dK y x=false:=by
 unfold dK at*;split at h
 ·rename_i e;rw[if_pos e.symm];simp at h⊢;exact mf h
 ·rename_i e;rw[aw (fun z=>e z.symm)];simp at h⊢;exact mf h
set_option tactic.hygienic true in
theorem Cw(x y):dK y x=false↔(x.1<y.1\/(x.1=y.1/\x.2<=y.2)):=by
 unfold dK;split
 ·rename_i e;refine Fp.trans ?_;exact⟨fun h=>.inr ⟨e.symm,dX.mp h⟩,fun h=>h.elim (fun z=>absurd z (e▸BI _)) fun z=>dX.mpr z.2⟩
 ·rename_i e;refine Fp.trans ?_;exact⟨fun h=>.inl (Int.lt_iff_le_and_ne.mpr ⟨dX.mp h,fun z=>e z.symm⟩),fun h=>h.elim (fun z=>dX.mpr (mf z)) fun z=>absurd z.1.symm e⟩
theorem Cy(x y z)(h1:dK y x=false)(h2:dK z y=false):dK z x=false:=by
 rw[Cw]at*;exact h1.elim (fun a=>.inl (h2.elim (fun b=>pS a b) fun b=>b.1▸a)) fun a=>h2.elim (fun b=>.inl (a.1▸b)) fun b=>.inr ⟨a.1.trans b.1,ma a.2 b.2⟩
theorem DQ(x y)(h1:dK y x=false)(h2:dK x y=false):x=y:=by
 rw[Cw]at*;exact h1.elim (fun a=>h2.elim (fun b=>absurd (pS a b) (BI _)) fun b=>absurd a (b.1▸BI _)) fun a=>h2.elim (fun b=>absurd b (a.1▸BI _)) fun b=>Prod.ext a.1 (Int.le_antisymm a.2 b.2)
theorem yA:∀(a b:List (Int×Int)),a.Perm b->(a.Pairwise fun x y=>dK y x=false)->(b.Pairwise fun x y=>dK y x=false)->a=b:=by
 intro a
 induction a with
 |nil=>intro b hp _ _;exact(List.Perm.nil_eq hp)
 |cons x r ih=>
  intro b hp ha hb
  induction b using Lc with
  |nil=>exact absurd hp.length_eq (N2 _)
  |cons y t=>
   have ha':=jJ.1 ha;have hb':=jJ.1 hb
   haveI EU:x=y:=by
    have h1:=hp.subset qw;rcases cL.1 h1 with e|e
    ·exact e
    ·rcases cL.1 (hp.symm.subset qw)with e2|e2
     ·exact e2.symm
     ·exact DQ x y (ha'.1 y e2) (hb'.1 x e)
   subst EU;exact bz _ (ih t (List.Perm.cons_inv hp) ha'.2 hb'.2)
noncomputable def tH(p:Int×Int):D:=.tuple [.int p.1,.int p.2]
noncomputable def j6(x:Int×Int):List (Int×Int)->List (Int×Int)
 | []=>[x]
 |y::ys=>if dK x y then x::y::ys else y::j6 x ys
theorem Cz{x:Int×Int}:j6 x []= [x]:=rfl
theorem vR{x y:Int×Int}{ys:List (Int×Int)}:j6 x (y::ys)=if dK x y then x::y::ys else y::j6 x ys:=rfl
theorem Ll(x)(l):xq (tH x) (l.map tH)=some ((j6 x l).map tH):=by
 induction l with
 |nil=>rfl
 |cons y r ih=>
  haveI hl:UC (tH x) (tH y)=some (dK x y):=rfl
  refine Rw c7 (Rw (Gg hl) (Rw vR ?_));generalize dK x y=zV;induction zV using Tc<;>simp[ih]
theorem HM(ps:List (Int×Int)):∀acc,ry (ps.map tH) (acc.map tH)=some ((ps.foldl (fun a x=>j6 x a) acc).map tH):=by
 induction ps with
 |nil=>intro acc;rfl
 |cons x r ih=>
  intro acc;exact(BY (Ll x acc)).trans (ih _)
theorem sd(x)(l):(j6 x l).Perm (x::l):=by
 induction l with
 |nil=>exact FA _
 |cons y r ih=>
  simp only[Cz,vR];split
  ·exact FA _
  ·exact(List.Perm.cons y ih).trans (List.Perm.swap x y r)
set_option tactic.hygienic true in
theorem n6(x)(l)(h:l.Pairwise fun a b=>dK b a=false):(j6 x l).Pairwise fun a b=>dK b a=false:=by
 induction l with
 |nil=>exact xa _ _
 |cons y r ih=>
  haveI h':=jJ.1 h
  simp only[Cz,vR];split
  ·rename_i hx;refine jJ.2 ⟨fun z hz=>?_,h⟩;rcases cL.1 hz with e|e
   ·exact Rw e (sa _ _ hx)
   ·exact Cy _ _ _ (sa _ _ hx) (h'.1 z e)
  ·rename_i hx;refine jJ.2 ⟨fun z hz=>?_,ih h'.2⟩;rcases cL.1 ((sd x r).subset hz)with e|e
   ·subst e;simpa using hx
   ·exact h'.1 z e
theorem qg(ps:List (Int×Int)):∀acc:List (Int×Int),(acc.Pairwise fun a b=>dK b a=false)->((ps.foldl (fun a x=>j6 x a) acc).Perm (ps++acc))/\((ps.foldl (fun a x=>j6 x a) acc).Pairwise fun a b=>dK b a=false):=by
 induction ps with
 |nil=>intro acc h;exact⟨FA _,h⟩
 |cons x r ih=>
  intro acc h;refine⟨(ih (j6 x acc) (n6 x acc h)).1.trans ?_,(ih (j6 x acc) (n6 x acc h)).2⟩;exact(List.Perm.append_left r (sd x acc)).trans (List.perm_middle)
inductive Po:D->Prop
 |mk(a b:Int):Po (.tuple [.int a,.int b])
theorem yB(h:vm x=true):Po x:=by
 induction x using PyData.casesOn with
 |tuple l=>
  rcases l with _|⟨a,_|⟨b,_|_⟩⟩
  ·exact absurd h cO
  ·induction a using PyData.casesOn<;>exact absurd h cO
  ·induction a using PyData.casesOn with
   |int k=>induction b using PyData.casesOn with
    |int j=>exact .mk k j
    |_=>exact absurd h cO
   |_=>exact absurd h cO
  ·induction a using PyData.casesOn with
   |int k=>induction b using PyData.casesOn<;>exact absurd h cO
   |_=>exact absurd h cO
 |_=>exact absurd h cO
theorem HN(xs)(h:xs.all vm=true):∃ps:List (Int×Int),xs=ps.map tH:=by
 induction xs with
 |nil=>exact⟨[],rfl⟩
 |cons x r ih=>
  simp only[ny,dg]at h;obtain⟨ps,rfl⟩:=ih h.2;obtain⟨a,b⟩:=yB h.1;exact⟨(a,b)::ps,rfl⟩
set_option tactic.hygienic true in
theorem HO(h:gA xs=some ys):∃ps qs:List (Int×Int),xs=ps.map tH/\ys=qs.map tH/\ps.length<=5/\qs.Perm ps/\(qs.Pairwise fun a b=>dK b a=false):=by
 unfold gA at h;split at h
 ·rename_i hc;simp only[dg,iZ]at hc;obtain⟨ps,rfl⟩:=HN xs hc.2;rw[show([]:List D)=([]:List (Int×Int)).map tH from rfl,HM]at h;cases h;exact⟨ps,_,rfl,rfl,by simpa using hc.1,by simpa using (qg ps [] List.Pairwise.nil).1,(qg ps [] List.Pairwise.nil).2⟩
 ·cases h
section
def se(h:Heap)(v:Value)(p:Int×Int):Prop:=∃x t u k,v= .ref x/\h.get? x=some {cls:=.type "tuple",data:=.seq #[.int p.1 t,.int p.2 u] k}
theorem Lm(h1:se s.heap v1 p)(h2:se s.heap v2 q)(h:Q (dK p q) s):wpAny (model prog w) A (keyLt' (tuples' true) v1 v2) Q E s:=by
 refine Bc fun au=>?_;obtain⟨x,t,u,k,rfl,hx⟩:=h1;obtain⟨y,t',u',k',rfl,hy⟩:=h2;apply au;apply kat_lt hx rfl hy rfl;refine kat_cons (Ow ?_);by_cases e1:p.1=q.1
 ·have hl:dK p q=decide (p.2<q.2):=by simp[dK,e1]
  rw[hl]at h;rw[show(p.1==q.1)=true by simp[e1]];refine kat_yes (kat_cons (Ow ?_));by_cases e2:p.2=q.2
  ·rw[show(p.2==q.2)=true by simp[e2]];refine kat_yes (kat_nil ?_);rw[show decide (p.2<q.2)=false by simp[e2]]at h;exact h
  ·rw[show(p.2==q.2)=false by simp[e2]];apply kat_no;refine kat_one _ _ (M7 ?_);exact h
 ·have hl:dK p q=decide (p.1<q.1):=by simp[dK,e1]
  rw[hl]at h;rw[show(p.1==q.1)=false by simp[e1]];apply kat_no;exact oneLt_int h
theorem Ln(n)(h2:2<=n)(h5:n<=5):qE n (kas_sort n) []=true:=by
 match n,h2,h5 with
 |2,_,_=>exact Z1
 |3,_,_=>exact Z2
 |4,_,_=>exact Z3
 |5,_,_=>exact Z4
def uJ(ps:List (Int×Int))(l:List Nat):Prop:=ph ps.length l=true/\l.Pairwise fun a b=>dK (ps.getD b (0,0)) (ps.getD a (0,0))=false
theorem DS{vs:List Value}(h:vs.length<2):((vs.toArray.zip vs.toArray).map (·.2))=List.toArray ((List.range vs.length).map fun i=>vs.getD i Value.none):=by
 rcases vs with _|⟨v,_|⟨v',r⟩⟩
 ·simp
 ·simp[List.range_succ]
 ·exact absurd h (by simp)
theorem DT(h:ps.length<2):uJ ps (List.range ps.length):=by
 rcases ps with _|⟨v,_|⟨v',r⟩⟩
 ·exact⟨rfl,List.Pairwise.nil⟩
 ·exact⟨(by decide:ph 1 (List.range 1)=true),xa _ _⟩
 ·exact absurd h (by simp)
theorem kat_tups:∀(vs:List Value) (ps:List (Int×Int)) (h:Heap),vs.length=ps.length->(∀(j:Nat) (v:Value) (p:Int×Int),vs[j]?=some v->ps[j]?=some p->se h v p)->∃fs:List Value,KatTups h vs fs/\fs.length=ps.length/\ ∀v∈fs,∃i t,v= .int i t:=by
 intro vs
 induction vs with
 |nil=>exact fun ps h hl ω=>⟨[],KatTups.nil,hl,fun v hv=>absurd hv eF⟩
 |cons v vs ih=>
  intro ps h hl hp
  induction ps using Lc with
  |nil=>exact absurd hl (N2 _)
  |cons p ps=>
   refine Bc fun au=>?_;obtain⟨fs,xQ⟩:=ih ps h (BE hl) (fun j v' p' h1 h2=>hp (j+1) v' p' h1 h2);obtain⟨x,t,u,k,rfl,hx⟩:=hp 0 v p rfl rfl;exact au (⟨.int p.1 t::fs,KatTups.cons hx rfl rfl rfl xQ.1,bz Nat.succ xQ.2.1,fun v hv=>(cL.1 hv).elim (fun e=>⟨_,_,e⟩) (xQ.2.2 v)⟩)
theorem DU{vs:List Value}(ho:s.heap.get? a=some (seqObj "list" vs.toArray n0))(hl:vs.length=ps.length)(h5:ps.length<=5)(hp:∀(j:Nat) (v:Value) (p:Int×Int),vs[j]?=some v->ps[j]?=some p->∃x t u k,v= .ref x/\s.heap.get? x=some {cls:=.type "tuple",data:=.seq #[.int p.1 t,.int p.2 u] k}/\x≠a)(h:∀(idx:List Nat) (e:Nat) (h':Heap),uJ ps idx->(∀b o,b≠a->s.heap.get? b=some o->h'.get? b=some o)->h'.get? a=some (seqObj "list" (idx.map fun i=>vs.getD i Value.none).toArray e)->P (.done (.ret .none)) {s with heap:=h'}):
  wpAny (model prog w) A (Builtin.«list.sort» ⟨[.ref a],[]⟩) P E s:=by
 refine Bc fun au=>?_;obtain⟨e1,EV⟩:∃e1,(s.heap.update a (Obj.mapSeq fun ω=>(#[]:Array Value))).get? a=some (seqObj "list" #[] e1):=⟨_,OB ho fun ω=>#[]⟩;apply au
 have k1:∀b o,b≠a->s.heap.get? b=some o->(((s.heap.update a (Obj.mapSeq fun ω=>(#[]:Array Value))).push (seqObj "tuple" vs.toArray 0)).push (seqObj "list" #[] 0)).get? b=some o:=fun b o hb e=>
  il _ (il _ ((qv _ _ (eh hb)).trans e))
 have Vz:(((s.heap.update a (Obj.mapSeq fun ω=>(#[]:Array Value))).push (seqObj "tuple" vs.toArray 0)).push (seqObj "list" #[] 0)).get? a=some (seqObj "list" #[] e1):=il _ (il _ EV);refine Rw (list_sort_plain ..) ?_;refine aF (listItems_at ho rfl ?_);refine aF (FY ho rfl ?_ (by rw[qx,kq];exact aI (dN hl) (aI h5 (Dn rfl))) (ft _));refine aF (F5 EV rfl ?_);refine aF (BJ ?_ (by show vs.length<=_;rw[kq];exact aI (dN hl) (aI h5 (Dn rfl))));refine aF (ON ?_ (ft _));apply ix;generalize((s.heap.update a (Obj.mapSeq fun ω=>(#[]:Array Value))).push (seqObj "tuple" vs.toArray 0)).push (seqObj "list" #[] 0)=h3 at*;dsimp only
 have fin:∀(idx:List Nat),uJ ps idx->∃c2,(h3.update a (Obj.mapSeq fun ω=>List.toArray (idx.map fun i=>vs.getD i Value.none))).get? a=some (seqObj "list" (List.toArray (idx.map fun i=>vs.getD i Value.none)) c2)/\(∀b o,b≠a->s.heap.get? b=some o->(h3.update a (Obj.mapSeq fun ω=>List.toArray (idx.map fun i=>vs.getD i Value.none))).get? b=some o):=fun idx ω=>
  ⟨_,OB Vz fun ω=>List.toArray (idx.map fun i=>vs.getD i Value.none),fun b o hb e=>(qv _ _ (eh hb)).trans (k1 b o hb e)⟩
 by_cases h2:vs.toArray.size<2
 ·refine Rw (if_pos h2) (Rw (if_pos h2) ?_);refine aF (bY ?_);refine aF (bY ?_);dsimp only
  have Z5:((vs.toArray.zip vs.toArray).map (·.2))=List.toArray ((List.range ps.length).map fun i=>vs.getD i Value.none):=by
   exact Rl hl (DS h2)
  have hI:=by
   exact DT (hl▸qx▸h2)
  letI c2:=Ce (fin _ hI)
  haveI VA:=(Cs (fin _ hI))
  haveI f1:=VA.1
  haveI f2:=VA.2
  refine aF (F5 Vz rfl ?_);refine Rw Z5 (aF (FY Vz rfl ?_ (ft _) (by rw[qx,cn,NO,kq];exact aI h5 (Dn rfl))));simp only[bne_self_eq_false,iw,eH];exact bY (h _ c2 _ hI f2 f1)
 ·refine Rw (aw h2) (Rw (aw h2) ?_);rw[qx]at h2
  have hpa:∀(j:Nat) (v:Value) (p:Int×Int),vs[j]?=some v->ps[j]?=some p->se h3 v p:=fun j v p q1 q2=>by
   obtain⟨x,t,u,k,rfl,z44⟩:=hp j v p q1 q2;exact⟨x,t,u,k,rfl,k1 x _ z44.2 z44.1⟩
  refine Bc fun au=>?_;obtain⟨fs,t1,t2,t3⟩:=kat_tups vs ps h3 hl hpa;apply au
  haveI Lo:∀i,i<ps.length->se h3 (vs.getD i Value.none) (ps.getD i (0,0)):=fun i hi=>by
   refine hpa i _ _ ?_ ?_
   ·exact Rw fi (Rw (nq (hl▸hi)) rfl)
   ·exact Rw fi (Rw (nq hi) rfl)
  refine aF (bA (kat_kind (T:=.type "int") (E:=fun ω ω=>False) (Q:=fun κ s'=>s'={s with heap:=h3}/\κ=tuples' true) t1 (ve (Dn rfl:0<2) (aI (kl h2) (dN (hl.trans t2.symm)))) (fun v hv=>?_) (rfl) ⟨rfl,rfl⟩) ?_ fun ω ω x=>x.elim)
  ·obtain⟨i,t,rfl⟩:=t3 v hv;exact Looks.of_pure rfl
  rintro κ s' ⟨rfl,rfl⟩
  haveI run:=kat_run (prog:=prog) (w:=w) (A:=A) (E:=E) (s:={s with heap:=h3}) (κ:=tuples' true) (vs:=vs) (ks:=vs) (Q:=fun aE s'=>s'={s with heap:=h3}/\ ∃p:Array Nat,uJ ps p.toList/\p.size=vs.length/\arrOf aE=p.map (kas_item (vs.toArray.zip vs.toArray))/\failedOf aE=none)
   (G:=fun p s'=>s'={s with heap:=h3}/\uJ ps p.toList) rfl (kl h2) (fj (hl▸h5) (Dn rfl)) (fun p aE s' a1 a2 a3 a4=>⟨a4.1,p,a4.2,a1,a2,a3⟩) ?_
  ·refine aF (bA run ?_ fun ω ω e=>e)
   rintro ⟨⟨⟩,aE⟩ s' ⟨rfl,p,hI,hsz,har,hf⟩
   dsimp only;rw[(kat_snds (ks:=vs) (vs:=vs) rfl har)]
   letI c2:=Ce (fin _ hI)
   haveI VB:=(Cs (fin _ hI))
   haveI f1:=VB.1
   haveI f2:=VB.2
   refine aF (F5 Vz rfl ?_);refine aF (FY Vz rfl ?_ (ft _) (by simp only[qx,cn,gT,hsz,kq];exact aI (dN hl) (aI h5 (Dn rfl))));refine Rw hf ?_;simp only[bne_self_eq_false,iw,eH];exact bY (h _ c2 _ hI f2 f1)
  ·refine Rw hl (Q5 (n:=ps.length) (lt:=fun i j=>dK (ps.getD i (0,0)) (ps.getD j (0,0))) (fun ω=>HL _) (fun ω ω ω a b=>Cy _ _ _ a b) (fun ω ω a=>sa _ _ a) (fun i j C hi hj hC=>?_) (fun p a b=>⟨rfl,a,b⟩) _ [] (Ln _ (aI (kl h2) (dN hl)) h5) (fun ω he=>nomatch he));exact Lm (s:={s with heap:=h3}) (Lo i hi) (Lo j hj) hC
end
section
theorem qh(r:aU w V h v (.tuple [.int k,d])):∃a t u n,v= .ref a/\h.get? a=some {cls:=.type "tuple",data:=.seq #[.int k t,u] n}/\aU w V h u d:=by
 obtain⟨a,vs,rfl,nv,⟨n,e⟩,ra⟩:=r.dF;generalize hv:vs.toList=vl at ra;have hl:=ra.length;rcases vl with _|⟨x,_|⟨y,_|_⟩⟩
 ·cases hl
 ·exact nomatch hl
 ·obtain⟨t,rfl⟩:=ra.cons_inv.1.int_inv
  haveI:vs=#[.int k t,y]:=by rw[<-Array.toList_inj];exact hv
  exact⟨a,t,y,n,rfl,this▸e,ra.cons_inv.2.cons_inv.1⟩
 ·cases hl
theorem yC(r:aU w V h v (tH x)):∃a t u k,v= .ref a/\h.get? a=some {cls:=.type "tuple",data:=.seq #[.int x.1 t,.int x.2 u] k}:=by
 obtain⟨a,t,y,n,e1,e2,e3⟩:=qh r;obtain⟨u,rfl⟩:=e3.int_inv;exact⟨a,t,u,n,e1,e2⟩
theorem AE{n:Nat}{l:List Nat}(h:ph n l=true):l.Perm (List.range n):=List.isPerm_iff.1 h
theorem AF{qs:List (Int×Int)}(r:ak w V h vs (ps.map tH))(hI:uJ ps idx)(hq:qs.Perm ps)(hs:qs.Pairwise fun a b=>dK b a=false):
  ak w V h (idx.map fun i=>vs.getD i Value.none) (qs.map tH):=by
 have hp:=AE hI.1
 haveI oI:∀i∈idx,i<ps.length:=fun i hi=>jn.1 (hp.subset hi)
 haveI e:idx.map (fun i=>ps.getD i (0,0))=qs:=by
  refine yA _ _ ?_ ?_ hs
  ·refine(hp.map _).trans (List.Perm.trans ?_ hq.symm);apply List.Perm.of_eq;apply NQ;intro i;by_cases hi:i<ps.length
   ·simp[hi]
   ·rw[wW (by simp;exact kl hi),wW (kl hi)]
  ·rw[Fu];exact hI.2
 refine Rl e (Rw qy ?_);refine mS (by simp) fun j v d h1 h2=>?_;rw[jK]at h1 h2;generalize hj:idx[j]?=zV
 induction zV using Oc with
 |none=>rw[hj]at h1;cases h1
 |some i=>
  rw[hj]at h1 h2
  haveI hi:=oI i (zK hj)
  simp only[FC,Fg,Function.comp]at h1 h2;subst h1 h2
  haveI VE:=(Cs (r.get (i:=i) (d:=tH (ps.getD i (0,0))) (Rw jK (Rw fi (Rw (nq hi) rfl)))))
  haveI e1:=VE.1
  haveI e2:=VE.2
  exact Rw fi (Rw e1 e2)
theorem uK{g:Gl}{qs:List (Int×Int)}(h5:ps.length<=5)(hq:qs.Perm ps)(hs:qs.Pairwise fun a b=>dK b a=false)(al:∀b,V b->∃o,s.heap.get? b=some o)(Z6:∀R:List Value->Shared->Prop,(∀vs h' tk,(∀b o,s.heap.get? b=some o->h'.get? b=some o)->ak g.w V h' vs (ps.map tH)->R vs {s with heap:=h',toks:=tk})->wpAny g.M A.in1 (collect v) R E s)(h:∀a s',Keeps s s'->aU g.w V s'.heap (.ref a) (.list (qs.map tH))->Q (.ref a) s'):
  wpAny g.M A (PySem.call (.builtin "sorted") [v]) Q E s:=by
 refine Calls.call_function_entry kind_sorted plain_sorted entry_sorted (args_sorted1 _) ?_;refine aF (m:=checkCount "sorted" 1 1 _) (bY ?_);refine aF (Z6 _ fun vs h1 tk k1 r1=>?_)
 haveI hl:=by have:=r1.length;simpa using this
 refine aF (ON ?_ (by refine Rw kq ?_;exact aI (dN hl) (aI h5 (Dn rfl))));refine aF (ix (BC slot_list_sort ⟨_,(fX _ rfl),rfl⟩ entry_list_sort ?_ (args_list_sort _)));refine DU (s:={s with heap:=h1.push (seqObj "list" vs.toArray 0),toks:=tk}) (ps:=ps) (fX _ rfl) hl h5 (fun j v x e1 e2=>?_) fun idx e h' hI k2 ha=>⟨_,rfl,?_⟩
 ·obtain⟨u,e3,r⟩:=r1.get (i:=j) (d:=tH x) (Rw jK (Rw e2 rfl));rw[e1]at e3;cases e3;refine Bc fun au=>?_;obtain⟨a,t,u,k,rfl,e4⟩:=yC r;exact au ⟨a,t,u,k,rfl,il _ e4,rn (fk e4)⟩
 ·refine bY ⟨_,rfl,?_⟩;have k3:=fun b o e=>k2 b o (rn (fk e)) (il _ e)
  haveI nV:¬V h1.objs.size:=fun z=>by
   obtain⟨o,e⟩:=al _ z;exact absurd (fk (k1 _ o e)) (mD _)
  refine h h1.objs.size _ ⟨h',tk,rfl,fun b o e=>k3 b o (k1 b o e)⟩ (aU.list nV ⟨e,ha⟩ ?_);exact(AF r1 hI hq hs).imp fun b o nv e=>⟨nv,k3 b o e⟩
theorem yD(h:gA xs=some ys):∃ps qs:List (Int×Int),xs=ps.map tH/\ys=qs.map tH/\ps.length<=5/\qs.Perm ps/\(qs.Pairwise fun a b=>dK b a=false):=HO h
theorem AG(go:g.Ok fA)(co:c.Ok g ks n)(hk:look 5 ks=some .globalImplicit)(h:aA g c (aB g.nm e) (ev P cf e)):
  gG g c (.Call (.Name (g.nm (oP .sorted)) np) (ba g.nm [e]) [] pos) fun st=>((ev P cf e).dat st).bind fun d st=>match d with|.list xs=>opt ((gA xs).map .list) st|_=>.bad:=by
 intro st p s iv hb;refine gK go co (b:=.sorted) hk iv (iT (step (h.val.dat st p s iv (ah hb)) iv.ok (af.refl _ _) (fun x aE e=>ar e) fun d st1 q1 s1 v e1 m1 ω i1 r1=>?_));refine Bc fun au=>?_;obtain⟨xs,rfl⟩:=Zq (fun z=>hb ((aa e1).trans z));obtain⟨a,vs,rfl,nv,pl,hr⟩:=r1.cD;obtain⟨z,ez⟩:=b7 (fun z=>hb ((aa e1).trans z));obtain⟨ys,ed,rfl⟩:=iu.mp ez;obtain⟨ps,qs,rfl,rfl,h5,hq,hs⟩:=yD ed;refine au ?_;refine uK (V:=q1.V) h5 hq hs (fun b vb=>i1.alive b vb) (fun R hR=>?_) fun a' s' k r=>eQ ((aa e1).trans (by dsimp only;rw[ez];rfl)) iv.ok m1 i1 k r
 have hz:vs.toList.length<=sizeLine:=by
  haveI:=hr.length
  rw[cn]at this;exact Rw this (Rw kq (aI h5 (Dn rfl)))
 refine collect_list (Rw i1.heap pl.isList) (hR vs.toList _ s1.toks (fun b o e=>?_) (hr.imp fun b o nv e=>⟨nv,?_⟩)) hz
 ·exact(qv _ _ (eh (rn (fk e)))).trans (il _ e)
 ·rw[<-i1.heap]at e;exact(qv _ _ (eh (rn (fk e)))).trans (il _ e)
theorem yE(go:g.Ok fA)(co:c.Ok g ks n)(hk:look 5 ks=some .globalImplicit)(fx:gy o=true)(o9:ap.endLine=Lp.line)(h:aA g c (aB g.nm o) (ev P cf o)):
  gG g c (.Call (.Name (g.nm (oP .sorted)) np) (ba g.nm [.items o ap Lp]) [] pos) fun st=>((ev P cf (.items o ap Lp)).it st).bind fun r st=>if r.2 then .bad else opt ((gA r.1).map .list) st:=by
 intro st p s iv hb;refine gK go co (b:=.sorted) hk iv (iT ?_)
 have hx:∀x aE,((ev P cf o).dat st).bind (fun d st=>match d with|.dict kvs=>(.ok (kvs.map fun p=>PyData.tuple [p.1,p.2],false) st:Res (List D×Bool))|_=>.bad)= .exc x aE->
   ((ev P cf (.items o ap Lp)).it st).bind (fun r st=>if r.2 then .bad else opt ((gA r.1).map .list) st)=(.exc x aE:Res D):=fun x aE e=>ar e
 refine bA (AB (P:=P) (cf:=cf) (f:=fun d st=>match d with|.dict kvs=>(.ok (kvs.map fun p=>PyData.tuple [p.1,p.2],false) st:Res (List D×Bool))|_=>.bad) co fx o9 h iv (ah hb) (fun d st hd=>by induction d using PyData.casesOn<;>first|rfl|exact absurd rfl (hd _)) fun kvs st1 q1 s1 a K inst knd Z7 vw e1 m1 i1 nv hvw hD hP hb1=>?_) (fun v s1 z=>z) fun e s1 z=>je.lift iv.ok (af.refl _ _) hx z;have e2:(ev P cf (.items o ap Lp)).it st= .ok (mT kvs,false) st1:=(aa e1).trans rfl;have iM:=fun z=>hb ((aa e2).trans z);dsimp only at iM;rw[aw (by decide)]at iM;refine nj fun au=>?_;obtain⟨z,ez⟩:=b7 iM;obtain⟨ys,ed,rfl⟩:=iu.mp ez;obtain⟨ps,qs,eps,rfl,h5,hq,hs⟩:=yD ed;obtain⟨ep,Lo⟩:=hD.dictAt;refine au ?_;have Z8:s1.heap.DictAt knd a Z7 ep:=Rw i1.heap Lo
 have hz:Z7.length<=sizeLine:=by
  have:(mT kvs).length=ps.length:=by rw[eps];exact(cn ..)
  exact Rw hP.1 (Rl (show(mT kvs).length=kvs.length by simp[mT]) (Rw this (Rw kq (aI h5 (Dn rfl)))))
 refine uK (V:=q1.V) h5 hq hs (fun b vb=>i1.alive b vb) (fun R hR=>?_) fun a' s' k r=>eQ ((aa e2).trans (by dsimp only;rw[aw (by decide),ez];rfl)) iv.ok m1 i1 k r;refine kdx_collect (A:=c.A.in1) (knd:=knd) (kvs:=Z7) (ep:=ep) co.handled hvw Z8 hz fun h' tk as hk' hl hG=>?_;have Ar:∀b o,q1.h.get? b=some o->h'.get? b=some o:=fun b o e=>hk' b o (Rw i1.heap e);refine hR _ h' tk hk' ?_;refine Rl eps ?_;refine HI hP Ar hl hG fun b hb z=>?_;refine nj fun au=>?_;obtain⟨o,e⟩:=i1.ok.all b z;refine au ?_;exact absurd (fk (i1.heap.symm▸e)) (Nat.not_lt_of_lt (hG.above b hb))
end
theorem vS:typeLookup (.type "list") "keys" =pure none:=by rw[typeLookup_type,builtinLookup_eq_fast];kernel_rfl
theorem kL:entryFor table "dict.update.loop" =some Builtin.«dict.update.loop»:=Ox (by kernel_rfl)
theorem ib:plainId "dict.update.loop" =true:=by decide+kernel
section
theorem DV(hA:A.handled=none)(hx:s.heap.get? a=some {cls:=.type "list",data:=.seq vs k})(h:∀h' tk,(∀b o,s.heap.get? b=some o->h'.get? b=some o)->Q none {s with heap:=h',toks:=tk}):wpAny (model prog w) A (getAttr? (.ref a) "keys") Q E s:=by
 obtain⟨hp,g,d,tk,os⟩:=s;have hT:∀tk',(⟨hp,g,d,tk',os⟩:Shared).TypeIs (.ref a) "list":=fun ω=>⟨_,hx,rfl⟩
 haveI f1:=sub_AttributeError
 haveI f3:=E0.lookup
 haveI f4:=E0.bind (.ref a)
 haveI f5:=am_list_getattr_none
 repeat (any_goals (first|assumption|exact hT _|((with_reducible show wpAny _ _ (call (Value.builtin "list.__getattribute__") _ _) _ _ _);refine F7 E0 (hT _) am_entry_list_getattribute (PySem.F.args_list_getattribute_2 _ _) (meets_getattribute_miss_list a vs k #[] "keys" _ vS (by decide+kernel) (by size_fits)) ⟨hx,hA,fun h' tk' e hx'=>?_⟩)|wp_step))
 refine Bc fun au=>?_;obtain⟨t',u',he⟩:=hx'.there;apply au;unfold getattributeRaised
 repeat (any_goals (first|assumption|wp_step))
 exact h _ _ hx'.keeps
end
noncomputable def kh(w:World)(V:Addr->Prop)(h:Heap):List (Int×Value)->List (D×D)->Prop
 | [],[]=>True
 |p::ps,q::qs=>q.1= .int p.1/\aU w V h p.2 q.2/\kh w V h ps qs
 |_,_=>False
section
theorem kh.keep(hk:∀b o,¬V b->h.get? b=some o->h'.get? b=some o):∀{ps:List (Int×Value)} {qs:List (D×D)},kh w V h ps qs->kh w V h' ps qs
 | [],[],_=>trivial
 |p::ps,q::qs,⟨a,b,c⟩=>⟨a,b.imp fun x o n e=>⟨n,hk x o n e⟩,c.keep hk⟩
 | [],_::_,x=>x.elim
 |_::_,[],x=>x.elim
theorem kh.length:∀{ps:List (Int×Value)} {qs:List (D×D)},kh w V h ps qs->ps.length=qs.length
 | [],[],_=>rfl
 |p::ps,q::qs,⟨_,_,c⟩=>bz _ c.length
 | [],_::_,x=>x.elim
 |_::_,[],x=>x.elim
theorem kh.keys:∀{ps:List (Int×Value)} {qs:List (D×D)},kh w V h ps qs->qs.map (·.1)=(ps.map (·.1)).map .int
 | [],[],_=>rfl
 |p::ps,q::qs,⟨a,_,c⟩=>by simp[c.keys,a]
 | [],_::_,x=>x.elim
 |_::_,[],x=>x.elim
theorem kh.vals:∀{ps:List (Int×Value)} {qs:List (D×D)},kh w V h ps qs->ak w V h (ps.map (·.2)) (qs.map (·.2))
 | [],[],_=>.nil
 |p::ps,q::qs,⟨_,b,c⟩=>.cons b c.vals
 | [],_::_,x=>x.elim
 |_::_,[],x=>x.elim
theorem kh.put(hv:aU w V h v d):∀{ps:List (Int×Value)} {qs XO:List (D×D)},(ps.map (·.1)).Nodup->kh w V h ps qs->dput (.int k) d qs=some XO->kh w V h (stored ps k v) XO
 | [],[],XO,_,_=>@fun e=>Rl (dS e) ⟨rfl,hv,trivial⟩
 |p::ps,q::qs,XO,hn,⟨a,b,c⟩=>@fun e=>by
  rw[c7,nu]at hn;obtain⟨q1,q2⟩:=q;simp only at a b;subst a;rw[Gf]at e;by_cases hk:p.1=k
  ·have hb:(p.1==k)=true:=by simp[hk]
   replace e:=hb▸e;cases e;have Aa:∀x∈ps,¬x.1=k:=fun x hx z=>hn.1 (by refine Rw hk (Rl z ?_);exact tQ hx)
   have hs:stored (p::ps) k v=(p.1,v)::ps:=by
    unfold stored;rw[if_pos (by simp[hk]),c7,if_pos hk]
    congr 1
    refine(Fl fun x hx=>?_).trans (List.map_id _);exact(aw (Aa x hx))
   exact Rw hs ⟨rfl,hv,c⟩
  ·have hb:(p.1==k)=false:=by simp[hk]
   rw[hb,cond_false]at e;obtain⟨rs,e1,rfl⟩:=iu.mp e
   haveI ih:=kh.put hv hn.2 c e1
   have hs:stored (p::ps) k v=p::stored ps k v:=by
    unfold stored;by_cases ha:ps.any (fun kv=>decide (kv.1=k))=true
    ·exact Rw (if_pos (by simp only[ub,ha,BM])) (Rw (if_pos ha) (Rw c7 (Rw (aw hk) rfl)))
    ·exact Rw (aw (by simp only[ub,hk,decide_false,Bool.false_or];exact ha)) (Rw (aw ha) rfl)
   exact Rw hs ⟨rfl,b,ih⟩
 | [],_::_,_,_,x=>@fun ω=>x.elim
 |_::_,[],_,_,x=>@fun ω=>x.elim
end
section
inductive CA:D->Prop
 |mk(k:Int)(v:D):CA (.tuple [.int k,v])
theorem tI(h:dictFrom (x::r) acc=some qs):CA x:=by
 induction x using PyData.casesOn with
 |tuple l=>
  rcases l with _|⟨a,_|⟨b,_|_⟩⟩
  ·exact ax h
  ·induction a using PyData.casesOn<;>exact ax h
  ·induction a using PyData.casesOn with
   |int k=>exact .mk k b
   |_=>exact ax h
  ·induction a using PyData.casesOn<;>exact ax h
 |_=>exact ax h
theorem vT(h:dictFrom (.tuple [.int k,v]::r) acc=some qs):∃a,dput (.int k) v acc=some a/\dictFrom r a=some qs:=by
 haveI h:(match dput (.int k) v acc with|some a=>dictFrom r a|none=>none)=some qs:=h
 generalize e:dput (.int k) v acc=zV
 induction zV using Oc with
 |none=>rw[e]at h;exact ax h
 |some a=>rw[e]at h;exact⟨a,rfl,h⟩
theorem HP{s:Shared}(hh:A.handled=none)(Z9:S≠I)(hSl:S≠l)(hIl:l≠I)(hn:vs.size<=100000)(DW:ak w V h₁ vs.toList xs)(VF:h₁.get? S=none)(HQ:h₁.get? I=none)(VG:h₁.IsList l vs)(hR:∀h' tk ps,(∀b o,h₁.get? b=some o->h'.get? b=some o)->h'.DictOf (intKind prog w) S ps->kh w V h₁ ps qs->R (.ok (.ret .none)) {s with heap:=h',toks:=tk}):
  ∀(m i:Nat) (h:Heap) (tk:Nat) (ps:List (Int×Value)) (acc:List (D×D)),vs.size-i=m->i<=vs.size->h.IsListIter I l i->(∀b o,h₁.get? b=some o->h.get? b=some o)->h.DictOf (intKind prog w) S ps->kh w V h₁ ps acc->ps.length<=i->dictFrom (xs.drop i) acc=some qs->
   codeAny (model prog w) A (.builtin "dict.update.loop" ⟨[.ref S,.ref I,rawInt (i:Int),.none],[]⟩) R {s with heap:=h,toks:=tk}:=by
 have hxl:vs.size=xs.length:=Rl DW.length (Rw gT rfl)
 haveI W:=Walks.list (prog:=prog) (w:=w) (A:=A.in1) hh I l hIl vs
 intro m
 induction m with
 |zero=>
  intro i h tk ps acc hm hi hit hk hD HR hlen hd;have Qm:i=vs.size:=xk hi (Bn hm);rw[Fa (dN (hxl.symm.trans Qm.symm))]at hd;cases hd;apply FP kL;refine Rw (Around.under_plainId ib _) ?_;subst Qm;refine aF (W.done {s with heap:=h,toks:=tk} _ _ ⟨hit,let⟨o,e,r⟩:=VG;⟨o,hk l o e,r⟩⟩ fun h' tk' hk'=>?_);have Ua:∀b o,b≠I->h.get? b=some o->h'.get? b=some o:=fun b o hb e=>hk' b o (fun z=>hb (dp.1 z)) e;refine aF (bY (bY (hR h' tk' ps (fun b o e=>Ua b o (fun z=>Ns HQ (z▸e)) (hk b o e)) ?_ HR)));obtain⟨o,es,ep,O5⟩:=hD
  haveI e:=O5.1
  haveI r:=O5.2
  exact⟨o,es,ep,Ua S o Z9 e,r⟩
 |succ m ih=>
  intro i h tk ps acc hm hi hit hk hD HR hlen hd;refine Bc fun au=>?_;have oI:i<vs.size:=Bq.mp (hm▸gU _);obtain⟨x,hx⟩:∃x,xs[i]?=some x:=⟨_,nq (hxl▸oI)⟩
  have VH:xs.drop i=x::xs.drop (i+1):=by
   refine Bc fun au=>?_;rw[wZ]at hx;obtain⟨hx1,rfl⟩:=hx;exact au (List.drop_eq_getElem_cons hx1)
  rw[VH]at hd;obtain⟨k,dv⟩:=tI hd;obtain⟨HT,UN⟩:=vT hd;obtain⟨v,hv,rv⟩:=DW.get hx;rw[tf]at hv;obtain⟨ta,t,u,n,rfl,ht,ru⟩:=qh rv;refine au ?_;apply FP kL;show wpAny _ A.in1 (pyNext (.ref I)>>=_) _ _ _;refine aF (W.item i {s with heap:=h,toks:=tk} _ _ oI ⟨hit,let⟨o,e,r⟩:=VG;⟨o,hk l o e,r⟩⟩ fun v' h' tk' pv aE hk'=>?_);have Ua:∀b o,b≠I->h.get? b=some o->h'.get? b=some o:=fun b o hb e=>hk' b o (fun z=>hb (dp.1 z)) e;replace pv:=hv▸pv;cases pv;have ht':h'.get? ta=some {cls:=.type "tuple",data:=.seq #[.int k t,u] n}:=Ua ta _ (fun z=>by simp only[z,HQ]at ht;injection ht) (hk ta _ ht)
  haveI hD':h'.DictOf (intKind prog w) S ps:=by
   obtain⟨o,es,ep,z49⟩:=hD
   haveI e:=z49.1
   haveI r:=z49.2
   exact⟨o,es,ep,Ua S o Z9 e,r⟩
  refine aF (ix ?_);refine aF (wpAny_tryCatch ?_);refine aF (FZ (T:="tuple") ⟨_,ht',rfl⟩ ?_);apply aF;refine aF (wpAny_load ht' (bY (bY ?_)));refine ix (wpAny_dictSet_pairs (s:={s with heap:=h',toks:=tk'}) (knd:=intKind prog w) (k:=k) (key:=.int k t) (v:=u) (if_pos rfl) hD' (fun h2 hD2 sb=>?_) (by rw[kq];exact aI hlen (aI (pR oI) (aI hn (Dn rfl)))));refine bY ⟨OQ ib _,?_⟩;have Ar:=fun b o hb e=>sb.extBut b o hb e
  haveI key:=ih (i+1) h2 (tk'+1) (stored ps k u) HT ((Nat.sub_add_eq ..).trans (bz (· -1) hm)) oI ?_ (fun b o e=>Ar b o (fun z=>Ns VF (z▸e)) (Ua b o (fun z=>Ns HQ (z▸e)) (hk b o e))) hD2 (HR.put ru (hD.elim fun ω zL=>zL.elim fun ω zL=>zL.elim fun ω zL=>zL.2.2.2.2.2) UN.1) ?_ UN.2
  ·haveI hc:(((i+1:Nat):Int))=(i:Int)+1:=rfl
   exact key
  ·obtain⟨o,z60⟩:=aE.1;exact⟨o,Ar I o (eh Z9) z60.1,z60.2⟩
  ·unfold stored;split
   ·exact Rw (cn ..) (Fy hlen)
   ·simp only[cZ,List.length_singleton];exact vg hlen
theorem qF(hh:A.handled=none)(hl:s.heap.PlainList l vs)(DW:ak w V s.heap vs.toList xs)(hd:dictFrom xs []=some qs)(hn:vs.size<=100000)(hQ:∀h' tk ps,(∀b o,s.heap.get? b=some o->h'.get? b=some o)->h'.DictOf (intKind prog w) s.heap.objs.size ps->kh w V s.heap ps qs->Q (.ref s.heap.objs.size) {s with heap:=h',toks:=tk}):
  wpAny (model prog w) A (call (.type "dict") [.ref l]) Q E s:=by
 refine callType_codes (Q₁:=fun obj jR=>obj= .ref s.heap.objs.size/\jR={s with heap:=s.heap.push {cls:=.type "dict",data:=.dict #[]}}) PySem.F.kt_called_dict (PySem.F.kt_typeCall_dict_1 _) PySem.F.entry_dict_init (kt_code_dict_new _ ⟨rfl,rfl⟩) ?_
 rintro obj jR ⟨rfl,rfl⟩
 haveI Lq:(s.heap.push {cls:=.type "dict",data:=.dict #[]}).DictOf (intKind prog w) s.heap.objs.size []:=Heap.DictOf.new s.heap
 obtain⟨k0,ho⟩:=hl
 haveI oI:=fk ho
 haveI EV:(s.heap.push {cls:=.type "dict",data:=.dict #[]}).get? l=some {cls:=.type "list",data:=.seq vs k0}:=il _ ho
 refine⟨Lq.typeIs,PySem.F.args_dict_init_2 _ _,?_⟩;apply aF;refine aF (wpAny_notOrdered_dict Lq.typeIs ?_);apply bY;show wpAny _ _ (Builtin.Dict.updateFrom "dict.__init__" s.heap.objs.size (.ref l) [] .none) _ _ _;refine aF (FZ (T:="list") ⟨_,EV,rfl⟩ ?_);refine aF (DV (A:=A.in1.in1) (s:={s with heap:=s.heap.push {cls:=.type "dict",data:=.dict #[]}}) hh EV fun h2 ZL k2=>?_);refine aF (uc ?_)
 haveI Pp:h2.get? l=some {cls:=.type "list",data:=.seq vs k0}:=k2 l _ EV
 refine aF (Bz (s:={s with heap:=h2,toks:=ZL}) (⟨_,Pp,rfl,k0,rfl⟩) ?_);refine bY ⟨OQ ib _,?_⟩
 have hS2:s.heap.objs.size<h2.objs.size:=by
  refine Bc fun au=>?_;obtain⟨o,es,ep,e,_⟩:=Lq;exact au (fk (k2 _ _ e))
 refine HP (s:=s) (V:=V) (h₁:=s.heap) (A:=A.in1) (xs:=xs) (vs:=vs) (qs:=qs) hh (rn hS2) (pQ oI) (rn (fk Pp)) hn DW (Nx (fB _)) (Nx (pR hS2)) ⟨_,ho,rfl,k0,rfl⟩
  (fun h' tk ps k3 hD hr=>⟨rfl,hQ h' tk ps k3 hD hr⟩) vs.size 0 _ ZL [] [] (Oy _) (ft _) ⟨_,fX _ rfl,rfl,rfl⟩ (fun b o e=>il _ ((fun b o e=>k2 b o (il _ e)) b o e)) ?_ trivial (fB _) hd
 obtain⟨o,es,ep,VI⟩:=Lq;exact⟨o,es,ep,il _ (k2 _ _ VI.1),VI.2⟩
end
section
noncomputable def DR{K:Type}(mk:K->D)(w:World)(V:Addr->Prop)(h:Heap):List (K×Value)->List (D×D)->Prop
 | [],[]=>True
 |p::ps,q::qs=>q.1=mk p.1/\aU w V h p.2 q.2/\DR mk w V h ps qs
 |_,_=>False
theorem Pq:∀{ps:List (Int×Value)} {qs:List (D×D)},kh w V h ps qs->DR .int w V h ps qs
 | [],[],_=>trivial
 |_::_,_::_,⟨a,b,c⟩=>⟨a,b,Pq c⟩
 | [],_::_,x=>x.elim
 |_::_,[],x=>x.elim
section
variable{K:Type}[DecidableEq K]
theorem DR.keys{w:World}{mk:K->D}{V:Addr->Prop}{h:Heap}:∀{ps:List (K×Value)} {qs:List (D×D)},DR mk w V h ps qs->qs.map (·.1)=(ps.map (·.1)).map mk
 | [],[],_=>rfl
 |p::ps,q::qs,⟨a,_,c⟩=>by simp only[c7,c7,c7,DR.keys c,a]
 | [],_::_,x=>x.elim
 |_::_,[],x=>x.elim
theorem drk{w:World}{mk:K->D}{V:Addr->Prop}{h:Heap}{V':Addr->Prop}{h':Heap}(hk:∀a o,¬V a->h.get? a=some o->¬V' a/\h'.get? a=some o):∀{ps:List (K×Value)} {qs:List (D×D)},DR mk w V h ps qs->DR mk w V' h' ps qs
 | [],[],_=>trivial
 |_::_,_::_,⟨a,b,c⟩=>⟨a,b.imp hk,drk hk c⟩
 | [],_::_,x=>x.elim
 |_::_,[],x=>x.elim
theorem jS{prog:Program}{w:World}{knd:KeyKind prog w K}{mk:K->D}{V:Addr->Prop}{h:Heap}(H:TS knd mk):∀{es:List DictEntry} {ps:List (K×Value)} {qs:List (D×D)},Pairs knd es ps->DR mk w V h ps qs->ak w V h (es.map (·.key)) (qs.map (·.1))/\ak w V h (es.map (·.val)) (qs.map (·.2))
 |_,_,[],.nil,_=>⟨.nil,.nil⟩
 |_,_,_::_,.nil,x=>x.elim
 |_,_,[],.cons _ _ _,x=>x.elim
 |_,_,q::qs,.cons (e:=e) (kv:=kv) h1 h2 h3,⟨a,b,x⟩=>by
  refine⟨.cons ?_ (jS H h3 x).1,.cons ?_ (jS H h3 x).2⟩
  ·show aU w V h e.key q.1;rw[a];exact H.rep h1 _ _
  ·show aU w V h e.val q.2;refine Rw h2 ?_;exact b
theorem qi{prog:Program}{w:World}{knd:KeyKind prog w K}{mk:K->D}{V:Addr->Prop}{h:Heap}(H:TS knd mk)(hk:∀es:Array DictEntry,(∀e∈es,∃k,knd.is k e.key=true/\e.hash=knd.hash k)->xE w es){a:Addr}{ps:List (K×Value)}{qs:List (D×D)}(nv:¬V a)(hs:(a==sysModules)=false)(hD:h.DictOf knd a ps)(hr:DR mk w V h ps qs)(nd:(qs.map (·.1)).Nodup):aU w V h (.ref a) (.dict qs):=by
 letI o:=Ce hD
 letI es:=Ce (Cs hD)
 letI ep:=Ce (Cs (Cs hD))
 haveI VJ:=(Cs (Cs (Cs hD)))
 haveI e1:=VJ.1
 haveI e2:=VJ.2.1
 haveI e3:=VJ.2.2.1
 haveI e4:=VJ.2.2.2.1
 haveI e5:=VJ.2.2.2.2.1
 exact aU.dict nv hs ⟨o,ep,e1,e2,e3⟩ (hk es e4) (jS H e5 hr).1 (jS H e5 hr).2 nd
end
theorem not_modules{st:St}(go:g.Ok fA)(iv:Inv g c st p s):(s.heap.objs.size==sysModules)=false:=by
 obtain⟨mc,hn,_⟩:=go.nolimit;have:g.base.StaysIn s.heap:=Rw iv.heap iv.ok.stays;exact Bx.mpr (pQ (modules_low (h:=s.heap) ⟨mc,hn.keeps this,‹_›⟩))
set_option tactic.hygienic true in
theorem HU(go:g.Ok fA)(co:c.Ok g ks n)(hk:look 6 ks=some .globalImplicit)(h:aA g c (aB g.nm e) (ev P cf e)):
  gG g c (.Call (.Name (g.nm (oP .dict)) np) (ba g.nm [e]) [] pos) fun st=>((ev P cf e).dat st).bind fun d st=>match d with|.list xs=>if xs.length<=lim then opt ((dictFrom xs []).map .dict) st else .bad|_=>.bad:=by
 intro st p s iv hb;refine gK go co (b:=.dict) hk iv (iT (step (h.val.dat st p s iv (ah hb)) iv.ok (af.refl _ _) (fun x aE e=>ar e) fun d st1 q1 s1 v e1 m1 ω i1 r1=>?_));have hb1:=fun z=>hb ((aa e1).trans z);obtain⟨xs,rfl⟩:=Zq hb1;obtain⟨a,vs,rfl,nv,pl,hr⟩:=r1.cD;dsimp only at hb1;split at hb1
 ·rename_i jf;obtain⟨z,ez⟩:=b7 hb1;obtain⟨qs,ed,rfl⟩:=iu.mp ez
  have hz:vs.size<=100000:=by
   haveI:=hr.length
   simp only[gT]at this;exact Rw this jf
  refine qF (V:=q1.V) co.handled (Rw i1.heap pl) (hr.imp fun b o nv e=>⟨nv,i1.heap▸e⟩) ed hz fun h' tk ps k hD HR=>?_;refine eQ (a:=PyData.dict qs) (st1:=st1) ((aa e1).trans (by dsimp only;rw[if_pos jf,ez];rfl)) iv.ok m1 i1 ⟨h',tk,rfl,k⟩ ?_;have dr:=Pq (HR.keep fun b o ω e=>k b o e);refine qi B5 (fun ω z=>.inl z) i1.alive.new (not_modules go i1) hD dr ?_
  haveI e6:=(Cs (Cs (Cs hD))).2.2.2.2.2
  exact Rw dr.keys (List.Pairwise.map _ (fun x y hne=>fun z=>hne (by injection z)) e6)
 ·exact absurd rfl hb1
end
inductive uM(g:Gl)(x:Nat)(C:Addr):Prop
 |mk(nm q:Str)(N:Addr)(bs:List Value)(hdct:Bool)(sn:List Str)(sub:List Value)(ab:Bool)(col:Option Bool)(dd:Option Addr)(k0 k1 k2 k3 k5:Option Value)(mN:Str->Option Value)
  (e1:g.base.get? C=some (excClassObj nm q C N bs pX hdct sn sub ab col dd k0 k1 k2 k3 k5 "Exception.__new__")) (e2:g.base.Ns N mN) (e3:mN "__init__" =none) (e4:Looks g.M g.base (nsGet mainGlobals (g.nm x)) (some (.ref C))):uM g x C
def HV(g:Gl)(x:Nat):Prop:=Looks g.M g.base (nsGet mainGlobals (g.nm x)) none/\Looks g.M g.base (nsGet builtinsNs (g.nm x)) (some (.type "ValueError"))
noncomputable def Ub(x:Nat):Bool:=decide (11<=x/\x<=15)
structure Lr(g:Gl):Prop where
 CC:∀x,Ub x=true->(g.xA x).isSome=true
 cls:∀x cl,g.xA x=some cl->(∃C,cl= .ref C/\uM g x C)\/(cl= .type "ValueError" /\HV g x)
 inj:∀x y cl,g.xA x=some cl->g.xA y=some cl->x=y
 deep:∀x cl,g.xA x=some cl->g.P.deep x=true->∃C,cl= .ref C
section
theorem my{sub:List Value}(fx:bm.contains (.type "BaseException")=true)(h:wpAny M A x (fun v jR=>∃e t,v= .ref e/\jR.heap.get? C=some (excClassObj nm q C N bs bm hdct sn sub ab col dd k0 k1 k2 k3 k5 newId)/\
   jR.heap.get? e=some {cls:=.ref C,data:=.fields #[.ref t,.none,.none,.none,.bool false,.none]}/\wpAny M A (raiseNew (.ref e):Sem Flow) Q E jR) E s):
  wpAny M A (raiseStmt env (some x) none) Q E s:=by
 haveI VK:(Value.ref C::bm).contains (.type "BaseException")=true:=Rw (Fq ..) (Rw fx (Rw (BM ..) rfl))
 refine aF (bA h (fun v jR h₁=>?_) fun ω ω x=>x);refine Bc fun au=>?_;obtain⟨e,t,rfl,z7⟩:=h₁
 haveI hC:=z7.1
 haveI he:=z7.2.1
 haveI hE:=z7.2.2
 refine au ?_
 repeat (first|with_reducible refine tU he ?_|with_reducible refine tU hC ?_|(with_reducible refine Bt hC ?_;rw[VK])|wp_step)
 exact hE
theorem tJ{sub:List Value}{os:OsState}(hC:h.get? C=some (excClassObj nm q C N bs bm hdct sn sub ab col dd k0 k1 k2 k3 k5 newId))(hC':h.get? C'=some (excClassObj nm' q' C' N' bs' VM HW VN Q6 ab' Q7 dd' k0' k1' k2' k3' k5' Q9))(he:h.get? e=some oe)(tD:oe.cls= .ref C)(fx:VM.contains (.type "BaseException")=true)(hne:(Value.ref C::bm).contains (.ref C')=false)(hq:Q false ⟨h,g,d,t,os⟩):wpAny M A (excMatches (.ref e) (.ref C')) Q E ⟨h,g,d,t,os⟩:=by
 haveI VK:(Value.ref C'::VM).contains (.type "BaseException")=true:=Rw (Fq ..) (Rw fx (Rw (BM ..) rfl))
 haveI f:=tc_notTuple
 repeat (first|(with_reducible apply tU he;refine Rw tD ?_)|with_reducible refine tU hC' ?_|(with_reducible refine Bt hC' ?_;refine Rw VK ?_)|(with_reducible apply Bt hC;refine Rw hne ?_)|wp_step)
 exact hq
theorem tK{os:OsState}(hC':h.get? C'=some (excClassObj nm' q' C' N' bs' VM HW VN Q6 ab' Q7 dd' k0' k1' k2' k3' k5' Q9))(he:h.get? e=some oe)(tD:oe.cls= .type "ValueError")(fx:VM.contains (.type "BaseException")=true)(QK:isSubtype (.type "ValueError") (.ref C')=pure false)(hq:Q false ⟨h,g,d,t,os⟩):wpAny M A (excMatches (.ref e) (.ref C')) Q E ⟨h,g,d,t,os⟩:=by
 haveI VK:(Value.ref C'::VM).contains (.type "BaseException")=true:=Rw (Fq ..) (Rw fx (Rw (BM ..) rfl))
 haveI f:=tc_notTuple
 repeat (first|(with_reducible apply tU he;refine Rw tD ?_)|with_reducible refine tU hC' ?_|(with_reducible refine Bt hC' ?_;refine Rw VK ?_)|wp_step)
 exact hq
end
theorem DX(C):isSubtype (.type "ValueError") (.ref C)=pure false:=by
 rw[FU];kernel_rfl
section
def Made(cl:Value)(h h':Heap)(e:Addr):Prop:=(∀b o,h.get? b=some o->h'.get? b=some o)/\h.get? e=none/\ ∃t,h'.get? e=some {cls:=cl,data:=.fields #[.ref t,.none,.none,.none,.bool false,.none]}
theorem yF{g:Gl}{c:Cx}(h:∀tk t,Q ⟨[.str msg t],[]⟩ {s with toks:=tk}):
  wpAny g.M A (evalArgs f true (backTo cp (starEach [.Constant (.str msg) k mp] c.env)) []) Q E s:=by
 apply iP (nm:=g.nm) [.oL msg k mp];simp only[rD,rE];refine pK (FJ (t8 (h _ _))) (bL _ _ _ _)
theorem sf{c:Cx}(go:g.Ok fA)(co:c.Ok g ks n)(hk:look x ks=some .globalImplicit)(hu:uM g x C)(stays:g.base.StaysIn s.heap)(h:∀h' tk e,Made (.ref C) s.heap h' e->wpAny g.M A (raiseNew (.ref e):Sem Flow) Q E {s with heap:=h',toks:=tk}):
  wpAny g.M A (PySem.exec (.Raise (some (.Call (.Name (g.nm x) np) [.Constant (.str msg) k mp] [] cp)) none pos) c.env) Q E s:=by
 obtain⟨nm,q,N,bs,hdct,sn,sub,ab,col,dd,k0,k1,k2,k3,k5,mN,hC,hN,XQ,hl⟩:=hu;have VO:wpAny g.M A (eval (.Name (g.nm x) np) c.env) (fun f jR=>f= .ref C/\jR=s) E s:=jo (gd co ((co.kindOf go.inj ..).trans (hk ..)) stays hl ⟨rfl,rfl⟩) (go.o4 _)
 have key:wpAny g.M A (eval (.Call (.Name (g.nm x) np) [.Constant (.str msg) k mp] [] cp) c.env) (fun v jR=>∃e t,v= .ref e/\jR.heap.get? C=some (excClassObj nm q C N bs pX hdct sn sub ab col dd k0 k1 k2 k3 k5 "Exception.__new__")/\
   jR.heap.get? e=some {cls:=.ref C,data:=.fields #[.ref t,.none,.none,.none,.bool false,.none]}/\wpAny g.M A (raiseNew (.ref e):Sem Flow) Q E jR) E s:=by
  refine wpAny_Call_ofName (bA VO (fun f jR z=>?_) fun ω ω x=>x);obtain⟨rfl,rfl⟩:=z;refine aF (ix (yF fun tk t=>aF (jM ?_)));have hC2:=stays _ _ hC
  haveI Ra:=plain_any g.nm c.env cp [.oL msg k mp]
  simp only[Ra];refine aF (wpAny_keeperOf_exc hC2 ?_);refine aF (wpAny_call_exc_sub PySem.F.excBase_Exception hC2 (hN.keeps stays) XQ fun h' e hm=>aF (ix (wpAny_point (bY ?_))))
  letI t2:=Ce hm.there
  haveI ht:=(Cs hm.there).1
  exact⟨e,t2,rfl,hm.keeps _ _ hC2,ht,h h' tk e ⟨hm.keeps,hm.new,t2,ht⟩⟩
 first
  |exact aF (jM (my (C:=C) (nm:=nm) (q:=q) (N:=N) (bs:=bs) (bm:=pX) (hdct:=hdct) (sn:=sn) (sub:=sub) (ab:=ab) (col:=col) (dd:=dd) (k0:=k0) (k1:=k1) (k2:=k2) (k3:=k3) (k5:=k5) (newId:="Exception.__new__") (rfl) (aF (bA key (fun v QA qG=>aF (jM (bY qG))) fun ω ω x=>x))))
  |(simp only[evalOpt,Option.map];exact aF (jM (my (C:=C) (nm:=nm) (q:=q) (N:=N) (bs:=bs) (bm:=pX) (hdct:=hdct) (sn:=sn) (sub:=sub) (ab:=ab) (col:=col) (dd:=dd) (k0:=k0) (k1:=k1) (k2:=k2) (k3:=k3) (k5:=k5) (newId:="Exception.__new__") (by decide) (aF (bA key (fun v QA qG=>aF (jM (bY qG))) fun ω ω x=>x)))))
theorem HX(hx:g.xA x=some cl)(m:Made cl h₀ h' e):ExcAt g h₀ h' (.ref e) x:=by
 obtain⟨_,hn,t,ht⟩:=m;exact⟨e,_,_,cl,rfl,hn,ht,hx,rfl,rfl,⟨(fB _),fun ω=>rfl⟩,.inl rfl⟩
theorem DY(go:g.Ok fA)(co:c.Ok g ks n)(xo:Lr g)(hk:look x ks=some .globalImplicit)(hx:(g.xA x).isSome=true):
  gf g c (.Raise (some (.Call (.Name (g.nm x) np) [.Constant (.str msg) k mp] [] cp)) none pos) fun st=>.exc x st:=by
 intro st p s iv _;obtain⟨cl,hx⟩:=rk.mp hx
 haveI stays:g.base.StaysIn s.heap:=Rw iv.heap iv.ok.stays
 have fin:∀h' tk e,Made cl s.heap h' e->rW g c p (.exc x st:Res dJ) (.ref e) {s with heap:=h',toks:=tk}:=fun h' tk e m=>by
  obtain⟨i2,m2⟩:=iv.grow ⟨h',tk,rfl,m.1⟩;refine⟨c.m,x,st,_,rfl,m2,i2,?_⟩
  haveI:=HX (g:=g) hx m
  rw[iv.heap]at this;exact this
 refine Bc fun au=>?_;rcases xo.cls x cl hx with⟨C,rfl,hu⟩|⟨rfl,h1,h2⟩
 ·exact au (sf go co hk hu stays fun h' tk e m=>wpAny_raiseNew_none co.handled (fin h' tk e m))
 ·refine au ?_;refine wpAny_Raise_call PySem.F.excCall_ValueError E3 co.handled (plain_any g.nm c.env cp [.oL msg k mp]) (jo (eP co ((co.kindOf go.inj ..).trans (hk ..)) stays h1 h2 ⟨rfl,yF fun tk t=>⟨rfl,?_,fun h' e hm=>?_⟩⟩) (go.o4 _))
  ·show 1<=sizeLine;rw[kq];decide
  ·letI t2:=Ce hm.there
   haveI ht:=(Cs hm.there).1
   exact fin h' tk e ⟨hm.keeps,hm.new,t2,ht⟩
end
section
theorem CD{q:Snap}(ok:q.Ok base envs)(e:q.h.get? b=some o)(d:o.data= .fields vs):q.led b=none/\b∉aK envs:=by
 constructor
 ·generalize z:q.led b=zV
  induction zV using Oc with
  |none=>rfl
  |some cl=>
   exfalso;have h:=(ok.led b cl z).2;obtain⟨tag,kd⟩:=cl
   induction kd with
   |ns m=>obtain⟨o',es,ep,e1,e2,e3,_⟩:=h;rw[e]at e1;cases e1;simp_all
   |cell v=>obtain⟨o',e1,e2⟩:=h;rw[e]at e1;cases e1;simp_all
   |lst vs=>obtain⟨k,e1⟩:=h;rw[e]at e1;injection e1;simp_all
   |sX m=>obtain⟨o',es,ep,e1,e2,_⟩:=h;rw[e]at e1;cases e1;simp_all
 ·intro hm;obtain⟨_,o',ho,hnf⟩:=ok.f9.mem hm;rw[e]at ho;cases ho;exact hnf vs d
theorem sh(ok:q.Ok base envs)(m:af (aK envs) q r)(e:q.h.get? b=some o)(d:o.data= .fields vs):r.h.get? b=some o:=
 m.keep b o e (CD ok e d).1 (CD ok e d).2
theorem ExcAt.on{c:Cx}(ok:q.Ok g.base c.envs)(m:af (aK c.envs) q r)(z:ExcAt g h₀ q.h e x):ExcAt g h₀ r.h e x:=by
 obtain⟨a,oe,vs,cl,e1,e2,e3,e4,e5,e6,e7,e8⟩:=z;refine⟨a,oe,vs,cl,e1,e2,sh ok m e3 e6,e4,e5,e6,e7,?_⟩;rcases e8 with e8|⟨T,oT,ts,f1,f2,f3,f4,f5,f6⟩
 ·exact .inl e8
 ·exact .inr ⟨T,oT,ts,f1,f2,f3,sh ok m f4 f5,f5,f6⟩
def qj(h:Heap)(e:Value):Prop:=∀a,e= .ref a->Seen h a
theorem qj.on{g:Gl}{c:Cx}(ok:q.Ok g.base c.envs)(m:af (aK c.envs) q r)(z:qj q.h e):qj r.h e:=fun a ha=>by
 obtain⟨T,oe,vs,e1,e2,e3⟩:=z a ha;exact⟨T,oe,vs,sh ok m e1 e2,e2,e3⟩
theorem gh{st:St}(gH:p.Ok g.base c.envs)(m:af (aK c.envs) p q)(iv:Inv g c st q s)(ex:ExcAt g p.h q.h e x)(sn:qj q.h e)(h:∀q' s',af (aK c.envs) p q'->Inv g c st q' s'->ExcAt g p.h q'.h e x->qj q'.h e->Q () s'):wpAny g.M A (setFlight e fr) Q E s:=by
 obtain⟨a,cl,rfl,h0,hx,fl⟩:=ex.TZ
 haveI Hi:=fl
 obtain⟨oe,vs,he,xW,hd,hsz,h1⟩:=fl;rcases h1 with h1|⟨T,oT,ts,h1,Pf,U8,hT,Cj,ES⟩
 ·refine aF (gV (Rw iv.heap he) hd h1 ?_);exact bY (h q s m iv (Hi.exc h0 hx) sn)
 ·refine aF (gV (Rw iv.heap he) hd h1 ?_);have hT':s.heap.get? T=some oT:=Rw iv.heap hT;apply xm hT' Cj ES;obtain⟨q',l5⟩:=iv.Ck gH m ⟨h0,oe,vs,he,hd⟩ (dP.fields hT' Cj) (fun b hb=>by rw[dp]at hb;exact Rw hb ⟨U8,oT,ts,hT',Cj⟩);refine h q' _ l5.2.1 l5.1 ?_ ?_
  ·exact Rw l5.2.2 ((uA (iv.heap▸Hi) Pf hT' Cj ES).exc h0 hx)
  ·intro b hb;cases hb;obtain⟨T',QL,vs',w1,w2,w3⟩:=sn a rfl;refine Rw l5.2.2 ?_;refine⟨T',QL,vs',?_,w2,w3⟩;rw[qv _ _ Pf,iv.heap];exact w1
end
def Rb(ks:List (Nat×NameKind)):MS->Bool
 |.pass _=>true
 |.asg (.loc y _) e _=>decide (look y ks=some .local)&&(g8 e).isSome
 |.asg (.attr (.loc y _) _ _) e _=>decide (look y ks=some .local)&&(g8 e).isSome
 |.raise x _ _ _ _ _ _=>decide (look x ks=some .globalImplicit)&&Ub x
 |.eI _=>true
 |_=>false
inductive Uc(ks:List (Nat×NameKind)):MS->Prop
 |pass(p:Pos):Uc ks (.pass p)
 |loc(y:Nat)(q:Pos)(e:ME)(p:Pos)(h1:look y ks=some .local)(h2:(g8 e).isSome=true):Uc ks (.asg (.loc y q) e p)
 |attr(y:Nat)(q:Pos)(f:Nat)(q2:Pos)(e:ME)(p:Pos)(h1:look y ks=some .local)(h2:(g8 e).isSome=true):Uc ks (.asg (.attr (.loc y q) f q2) e p)
 |raise(x:Nat)(m:Str)(k:Nat)(a b c d:Pos)(h1:look x ks=some .globalImplicit)(h2:Ub x=true):Uc ks (.raise x m k a b c d)
 |again(p:Pos):Uc ks (.eI p)
theorem HY(h:Rb ks b=true):Uc ks b:=by
 induction b using MS.casesOn with
 |pass p=>exact .pass p
 |eI p=>exact .again p
 |raise x m k a b c d=>have:=fW.mp h;exact .raise x m k a b c d (bR this.1) this.2
 |asg t e p=>
  induction t using MT.casesOn with
  |loc y q=>have:=fW.mp h;exact .loc y q e p (bR this.1) this.2
  |attr o f q2=>
   induction o using ME.casesOn with
   |loc y q=>have:=fW.mp h;exact .attr y q f q2 e p (bR this.1) this.2
   |_=>exact absurd h cO
  |_=>exact absurd h cO
 |_=>exact absurd h cO
section
theorem aa1{st:St}:eM P x (.asg (.loc y q) e p::r) st=(match g8 e with
  |some d=>eM P x r {st with loc:=put y (.dat d) st.loc}
  |none=>.bad):=rfl
theorem HZ{st:St}:eM P x (.asg (.attr (.loc y q) f q2) e p::r) st=(match g8 e,look y st.loc with
  |some d,some (.ref k)=>(match eK P st.objs k f (.dat d)with
   |some os=>eM P x r {st with objs:=os}
   |none=>.bad)
  |_,_=>.bad):=rfl
theorem aa2{st:St}:eM P x (.raise c m k a b d e::r) st=if P.deep x=false/\P.deep c=true then .exc c st else .bad:=rfl
end
theorem tL:entryFor table "proto.unchain" =some Builtin.«proto.unchain»:=Ox (by kernel_rfl)
section
inductive VP:ME->D->Prop
 |int(i:Int)(k:Nat)(p:Pos):VP (.i9 i k p) (.int i)
 |str(i:Str)(k:Nat)(p:Pos):VP (.oL i k p) (.str i)
 |bool(i:Bool)(k:Nat)(p:Pos):VP (.mj i k p) (.bool i)
 |none(k:Nat)(p:Pos):VP (.jt k p) .none
theorem si(h:g8 e=some d):VP e d:=by
 cases e with
 |i9 i k p=>exact Rl (dS h) (.int i k p)
 |oL i k p=>exact Rl (dS h) (.str i k p)
 |mj i k p=>exact Rl (dS h) (.bool i k p)
 |jt k p=>exact Rl (dS h) (.none k p)
 |_=>exact ax h
theorem sj{g:Gl}(hd:g8 e=some d):swapsWith (aB g.nm e) t l env=pure false:=by
 cases si hd<;>rfl
theorem yG{g:Gl}(he:g8 e=some d)(h:∀v tk,(∀V h',aU g.w V h' v d)->Q v {s with toks:=tk}):wpAny g.M A (eval (aB g.nm e) env) Q E s:=by
 cases si he with
 |int=>exact Bv (h _ _ fun ω ω=>aU.int _ _)
 |str=>exact FJ (h _ _ fun ω ω=>aU.str _ _)
 |bool=>exact N9 (h _ s.toks fun ω ω=>aU.bool _)
 |none=>exact N8 (h _ s.toks fun ω ω=>aU.none)
theorem AH{g:Gl}(hA:A.handled=some (.ref a))(hne:a≠e)(hh:s.heap.get? a=some oh)(hd:oh.data= .fields hs)(h2:hs[2]?=some .none)(he:s.heap.get? e=some oe)(hde:oe.data= .fields vs)(hz:2<vs.size)(h:E (.ref e) {s with heap:=s.heap.update e (Obj.mapFields (·.setIfInBounds 2 (.ref a)))}):wpAny g.M A (raiseNew (.ref e):Sem Flow) Q E s:=by
 refine aF (OO ?_);refine Rw hA ?_;dsimp only;rw[if_pos (by simp[hne])];refine aF (ix (wpAny_runValue (FP tL ?_)));show wpAny _ A.in1 (field (.ref a) 2>>=_) _ _ s;refine aF (gV hh hd h2 ?_);apply bY;exact aF (xm he hde hz (F3 h))
structure Ls(g:Gl)(c:Cx)(p:Snap)(e:Value)(x:Nat)(st:St)(q:Snap)(s:Shared):Prop where
 mv:af (aK c.envs) p q
 iv:Inv g c st q s
 ex:ExcAt g p.h q.h e x
 sn:qj q.h e
theorem Ls.on{st:St}(gH:p.Ok g.base c.envs)(h:Ls g c p e x st q s)(mv:af (aK c.envs) q r)(iv:Inv g (c.at m) aE r s'):Ls g (c.at m) p e x aE r s':=
 ⟨h.mv.trans gH mv,iv,h.ex.on (c:=c) h.iv.ok mv,h.sn.on (c:=c) h.iv.ok mv⟩
inductive vU(g:Gl)(c:Cx)(p:Snap)(res:Res dJ)(e:Value)(s:Shared):Prop
 |mk(m:Str->Option Value)(x:Nat)(aE:St)(q:Snap)(e1:res= .exc x aE)(e2:af (aK c.envs) p q)(e3:Inv g (c.at m) aE q s)(e4:ExcAt g p.h q.h e x)(e5:qj q.h e):vU g c p res e s
theorem yH(co:c.Ok g ks n)(hc:c.comp=false)(hA:A.frames=some c.envs)(gH:p.Ok g.base c.envs)(hr:res= .exc x aE)(mv:af (aK c.envs) p q)(iv:Inv g (c.at m) aE q s)(ex:ExcAt g p.h q.h e x)(h:∀s',vU g c p res e s'->R e s'):notedBy g.M A c.env R e s:=by
 exact qV (c:=c.at m) (co.at m) hc hA gH mv iv ex fun q' s' m2 i2 x2 sn=>h s' ⟨m,x,aE,q',hr,m2,i2,x2,sn⟩
theorem H0(go:g.Ok fA)(co:c.Ok g ks n)(xo:Lr g)(hc:c.comp=false)(hP:P=g.P)(hA:A.handled=some e)(hF:A.frames=some c.envs)(gH:p.Ok g.base c.envs):
  ∀(body:List MS) (m:Str->Option Value) (st:St) (q:Snap) (s:Shared),body.all (Rb ks)=true->Ls g (c.at m) p e x st q s->eM P x body st≠ .bad->
   wpAny g.M A (PySem.execs (nB g.nm body) c.env) (Cm g c p (yj g) (eM P x body st)) (notedBy g.M A c.env (vU g c p (eM P x body st))) s:=by
 subst hP;intro body
 induction body with
 |nil=>intro m st q s _ ih _;exact BD ⟨m,.next,st,q,rfl,ih.mv,ih.iv,trivial⟩
 |cons b r ihb=>
  intro m st q s hok ih hb;simp only[ny,dg]at hok;have hr:=hok.2;have hov:=HY hok.1;clear hok
  induction hov with
  |pass pe=>
   exact t5 (wpAny_Pass (ihb m st q s hr ih hb))
  |loc y py e1 pe EV Pp=>
   obtain⟨d,hd⟩:=rk.mp Pp
   haveI hq:eM g.P x (.asg (.loc y py) e1 pe::r) st=eM g.P x r {st with loc:=put y (.dat d) st.loc}:=by simp only[aa1,hd]
   rw[hq]at hb⊢;refine t5 (jg (sj hd) (eB rfl) (dG _ _ _) (yG hd fun v tk rv=>?_))
   haveI VQ:=(ih.iv.grow (bF s tk))
   haveI i1:=VQ.1
   haveI m1:=VQ.2
   haveI Rc:=Ls.on (c:=c.at m) gH ih m1 (m:=m) i1
   refine kJ (t:=.loc y py) (c:=c.at m) go (co.at m) hc Rc.iv (lv:=.dat d) (fun tag=>rv _ _) (fun ds z=>by cases z) (bP EV) rfl fun m2 q2 s2 i2 Vl=>?_
   haveI Rd:=Ls.on (c:=c.at m) gH Rc Vl (m:=m2) i2
   exact ihb m2 _ q2 s2 hr Rd hb
  |attr y py f pf e1 pe EV Pp=>
   refine Bc fun au=>?_;obtain⟨d,hd⟩:=rk.mp Pp;generalize hy:look y st.loc=zV
   induction zV using Oc with
   |none=>exact hb (by rw[HZ,hd,hy])
   |some lv=>
    induction lv with
    |dat _=>exact hb (by rw[HZ,hd,hy])
    |own _=>exact hb (by rw[HZ,hd,hy])
    |ref k=>
     generalize hn:eK g.P st.objs k f (.dat d)=zV
     induction zV using Oc with
     |none=>exact au (absurd (by rw[HZ,hd,hy];dsimp only;rw[hn]) hb)
     |some os=>
      have hq:eM g.P x (.asg (.attr (.loc y py) f pf) e1 pe::r) st=eM g.P x r {st with objs:=os}:=by refine Rw HZ (Rw hd (Rw hy ?_));dsimp only;rw[hn]
      refine au ?_;rw[hq]at hb⊢;refine t5 (jg (sj hd) (eB rfl) (dG _ _ _) (yG hd fun v tk rv=>?_))
      haveI VR:=(ih.iv.grow (bF s tk))
      haveI i1:=VR.1
      haveI m1:=VR.2
      have Rc:=Ls.on (c:=c.at m) gH ih m1 (m:=m) i1;exact iS go (co.at m) (c:=c.at m) hc EV Rc.iv hy hn (lv:=.dat d) (rv _ _) fun q2 s2 i2 Vl=>(ihb m _ q2 s2 hr (Ls.on (c:=c.at m) gH Rc Vl (m:=m) i2) hb)
  |raise y msg k mp np cp pp EV Pp=>
   simp only[aa2]at hb⊢;by_cases Ph:g.P.deep x=false/\g.P.deep y=true
   ·rw[if_pos Ph];refine Bc fun au=>?_;obtain⟨cl,EU⟩:=rk.mp (xo.CC y Pp);obtain⟨C,rfl⟩:=xo.deep y cl EU Ph.2
    haveI hu:uM g y C:=by
     rcases xo.cls y _ EU with⟨C',e1,hu⟩|⟨e1,_⟩
     ·cases e1;exact hu
     ·cases e1
    haveI stays:g.base.StaysIn s.heap:=Rw ih.iv.heap ih.iv.ok.stays
    obtain⟨a,oh,hvs,clh,rfl,h0,hh,hxx,xW,hdh,aa3,htr⟩:=ih.ex;refine au ?_;refine t5 (sf go (co.at m) (c:=c.at m) EV hu stays fun h' tk en md=>?_);refine Bc fun au=>?_;obtain⟨mk,Rf,t2,ht⟩:=md;obtain⟨i2,m2⟩:=ih.iv.grow (s':={s with heap:=h',toks:=tk}) ⟨h',tk,rfl,mk⟩;apply au;have hne:a≠en:=fun z=>by rw[<-z,ih.iv.heap,hh]at Rf;cases Rf
    refine AH (s:={s with heap:=h',toks:=tk}) hA hne (mk a oh (Rw ih.iv.heap hh)) hdh (aa3.2 Ph.1) ht rfl (Dn rfl) ?_

    have hnp:=ih.mv.back (Rl ih.iv.heap Rf)
    have nt:dP (aK c.envs) en [] h' (h'.update en (Obj.mapFields (·.setIfInBounds 2 (.ref a)))):=by
     have other:∀b,b≠en->(h'.update en (Obj.mapFields (·.setIfInBounds 2 (.ref a)))).get? b=h'.get? b:=fun b hb=>qv _ _ (eh hb);refine⟨fun b o hb ω e ω=>(other b hb).trans e,fun b o hb ω e=>⟨o.slots,(other b hb).trans e⟩,fun b o e=>?_⟩;by_cases As:b=en
     ·obtain rfl:=As.symm;exact⟨_,Dj _ e (xc (zP (by rw[e]at ht;cases ht;rfl) _))⟩
     ·exact⟨o,(other b As).trans e⟩
    haveI Rg:=(Cs (Inv.Ck (c:=c.at m) (s:={s with heap:=h',toks:=tk}) gH (ih.mv.trans gH m2) i2 ⟨hnp,_,_,ht,rfl⟩ nt (fun b hb=>nomatch hb)))
    haveI i3:=Rg.1
    haveI m3:=Rg.2.1
    haveI e3:=Rg.2.2
    refine yH co hc hF gH rfl m3 i3 ?_ fun s' z=>z;refine Rw e3 ⟨en,_,_,.ref C,rfl,hnp,Dj _ ht (xc (zP rfl _)),EU,rfl,zP rfl _,⟨by simp,fun z=>?_⟩,.inl rfl⟩;exact Nf z Ph.2
   ·exact(hb (aw Ph)).elim
  |again pp=>
   refine Bc fun au=>?_;obtain⟨a,cl,rfl,z91⟩:=ih.ex.TZ
   haveI fl:=z91.2.2
   obtain⟨oe,Vd⟩:=fl;obtain⟨T,QL,vs',w1,w2,w3⟩:=ih.sn a rfl;refine au ?_;apply t5;refine aF (jM ?_);unfold raiseStmt;refine aF (OO ?_);refine Rw hA (aF (uc (aF (gV (Rw ih.iv.heap w1) w2 w3 ?_))));refine aF (gh (c:=c.at m) gH ih.mv ih.iv ih.ex ih.sn fun q2 s2 m2 i2 x2 Ud=>F3 ?_);exact yH co hc hF gH rfl m2 i2 x2 fun s' z=>z
end
theorem value_sub:isSubtype (.type "ValueError") (.type "ValueError")=pure true:=by rw[FU];kernel_rfl
theorem sk:isSubtype (.type ((Manifest.find? "ValueError").elim "type" fun x=>x.metatype)) (.type "tuple")=pure false:=by rw[FU];kernel_rfl
theorem yI:pX.contains (.type "ValueError")=false:=rfl
def Rh(ks:List (Nat×NameKind)):MH->Bool
 |.mk y _ body _=>decide (look y ks=some .globalImplicit)&&Ub y&&!body.isEmpty&&body.all (Rb ks)
section
theorem qH{g:Gl}{os:OsState}{sub:List Value}(hC:h.get? C=some (excClassObj nm q C N bs pX hdct sn sub ab col dd k0 k1 k2 k3 k5 newId))(he:h.get? e=some oe)(tD:oe.cls= .ref C)(hq:Q false ⟨h,g',d,t,os⟩):wpAny g.M A (excMatches (.ref e) (.type "ValueError")) Q E ⟨h,g',d,t,os⟩:=by
 haveI h1:=E3.isExc
 haveI h2:=sk
 exact wpAny_excMatches_sub_type hC he tD h1 h2 (Rw yI hq)
theorem vV{g:Gl}{os:OsState}(he':h.get? e=some oe)(hc':oe.cls= .type "ValueError")(hq:Q true ⟨h,g',d,t,os⟩):wpAny g.M A (excMatches (.ref e) (.type "ValueError")) Q E ⟨h,g',d,t,os⟩:=by
 haveI h1:=E3.isExc
 haveI h2:=sk
 haveI h3:=value_sub
 exact wpAny_excMatches_type (⟨oe,he',hc'⟩) h1 h2 h3 hq
theorem match_ok(xo:Lr g)(hx:g.xA x=some cx)(hy:g.xA y=some cy)(stays:g.base.StaysIn s.heap)(he:s.heap.get? a=some oe)(xW:oe.cls=cx)(h:Q (decide (y=x)) s):
  wpAny g.M A (excMatches (.ref a) cy) Q E s:=by
 obtain⟨hp,gg,d,tk,os⟩:=s;by_cases EU:y=x
 ·subst EU;rw[hx]at hy;cases hy;rw[bP rfl]at h;rcases xo.cls y cx hx with⟨C,rfl,nm,q,N,bs,hdct,sn,sub,ab,col,dd,k0,k1,k2,k3,k5,mN,hC,_⟩|⟨rfl,_⟩
  ·exact wpAny_excMatches_sub_self (stays _ _ hC) he xW (by decide) h
  ·exact vV he xW h
 ·rw[dx EU]at h;rcases xo.cls x cx hx with⟨C,rfl,nm,q,N,bs,hdct,sn,sub,ab,col,dd,k0,k1,k2,k3,k5,mN,hC,_⟩|⟨rfl,_⟩
  ·rcases xo.cls y cy hy with⟨C',rfl,nm',q',N',bs',HW,VN,Q6,ab',Q7,dd',k0',k1',k2',k3',k5',mN',hC',_⟩|⟨rfl,_⟩
   ·have hne:C≠C':=fun z=>by rw[z]at hx;exact EU (xo.inj y x _ hy hx)
    refine tJ (stays _ _ hC) (stays _ _ hC') he xW (by decide) ?_ h;have:(Value.ref C'==Value.ref C)=false:=by simp[eh hne]
    simp[pX,eh hne]
   ·exact qH (stays _ _ hC) he xW h
  ·rcases xo.cls y cy hy with⟨C',rfl,nm',q',N',bs',HW,VN,Q6,ab',Q7,dd',k0',k1',k2',k3',k5',mN',hC',_⟩|⟨rfl,_⟩
   ·exact tK (stays _ _ hC') he xW (by decide) (DX C') h
   ·exact absurd (xo.inj y x _ hy hx) EU
theorem H3{c:Cx}(go:g.Ok fA)(co:c.Ok g ks n)(xo:Lr g)(hk:look y ks=some .globalImplicit)(hy:g.xA y=some cy)(stays:g.base.StaysIn s.heap)(h:Q cy s):wpAny g.M A (eval (.Name (g.nm y) np) c.env) Q E s:=by
 rcases xo.cls y cy hy with⟨C,rfl,_,_,_,_,_,_,_,_,_,_,_,_,_,_,_,_,_,_,_,hl⟩|⟨rfl,h1,h2⟩
 ·exact jo (gd co ((co.kindOf go.inj ..).trans (hk ..)) stays hl h) (go.o4 _)
 ·exact jo (eP co ((co.kindOf go.inj ..).trans (hk ..)) stays h1 h2 h) (go.o4 _)
theorem Ri{res:Res dJ}(gH:p.Ok g.base c.envs)(hr:res= .exc x aE)(mv:af (aK c.envs) p q)(iv:Inv g (c.at m) aE q s)(ex:ExcAt g p.h q.h e x)(sn:qj q.h e):
  cameBackBy g.M A c.env (rW g c p res) e s:=by
 obtain⟨a,cl,rfl,z3⟩:=ex.TZ;obtain⟨T,oe,vs,w1,w2,w3⟩:=sn a rfl;refine aF (gV (Rw iv.heap w1) w2 w3 ?_);exact gh (c:=c.at m) gH mv iv ex sn fun q2 s2 m2 i2 x2 Ud=>⟨m,x,aE,q2,hr,m2,i2,x2⟩
theorem DZ(go:g.Ok fA)(co:c.Ok g ks n)(xo:Lr g)(hc:c.comp=false)(hP:P=g.P)(gH:p.Ok g.base c.envs):
  ∀(hs:List MH) (m:Str->Option Value) (st:St) (q:Snap) (s:Shared),hs.all (Rh ks)=true->Ls g (c.at m) p e x st q s->handle P x hs st≠ .bad->
   wpAny g.M c.A (handleBy e c.env (Ke g.nm hs)) (Cm g c p (yj g) (handle P x hs st)) (rW g c p (handle P x hs st)) s:=by
 intro hs
 induction hs with
 |nil=>
  intro m st q s _ ih hb;apply wpAny_handleBy_nil;obtain⟨a,cl,rfl,z8⟩:=ih.ex.TZ
  haveI h0:=z8.1
  haveI hx:=z8.2.1
  obtain⟨T,oe,vs,w1,w2,w3⟩:=ih.sn a rfl;refine aF (gV (Rw ih.iv.heap w1) w2 w3 ?_);refine aF (gh (c:=c.at m) gH ih.mv ih.iv ih.ex ih.sn fun q2 s2 m2 i2 x2 Ud=>F3 ?_);exact⟨m,x,st,q2,rfl,m2,i2,x2⟩
 |cons hd tl iht=>
  intro m st q s hok ih hb;obtain⟨y,np,body,pos⟩:=hd
  haveI h1:=fW.mp hok
  haveI h2:=fW.mp h1.1
  haveI h3:=fW.mp h2.1
  haveI h4:=fW.mp h3.1
  haveI hk:=bR h4.1
  haveI hX:=h4.2
  haveI hne:=Eq.mp (rp _) h3.2
  haveI VS:=h2.2
  haveI htl:=h1.2
  haveI hy:=(Cs (rk.mp (xo.CC y hX)))
  obtain⟨a,oe,vs,cx,rfl,h0,he,hx,xW,O5⟩:=ih.ex;refine wpAny_handleBy_cons (codeAny_handlers_test (H3 (c:=c) go co xo hk hy (Rw ih.iv.heap ih.iv.ok.stays) (match_ok xo hx hy (Rw ih.iv.heap ih.iv.ok.stays) (Rw ih.iv.heap he) xW ?_))) (fun z=>by cases z);rcases iy (y=x)with VT|VT
  ·rw[bP VT];subst VT;simp only[Gj,xu,dZ]at hb⊢
   match body,hne with
   |b0::bs,_=>
    refine codeAny_handlers_suite (gh (c:=c.at m) gH ih.mv ih.iv ih.ex ih.sn fun q2 s2 m2 i2 x2 Ud=>?_);refine bA (H0 (A:=c.A.mark (some (.ref a))) go co xo hc hP rfl co.frames gH (b0::bs) m st q2 s2 VS ⟨m2,i2,x2,Ud⟩ hb) (fun f s3 z=>z) fun e' s3 z=>?_
    have back:∀e' s',vU g c p (eM P y (b0::bs) st) e' s'->cameBackBy g.M c.A c.env (rW g c p (eM P y (b0::bs) st)) e' s':=fun e' s' z=>by
     obtain⟨m',x',aE,q',hr,mv',TY,Ve,VN⟩:=z;exact Ri gH hr mv' TY Ve VN
    exact bA z (fun ω s4 w=>back _ s4 w) fun e4 s4 w=>back e4 s4 w
  ·rw[dx VT];rw[xu,aw VT]at hb⊢;exact iht m st q s htl ih hb
theorem Lu(go:g.Ok fA)(co:c.Ok g ks n)(xo:Lr g)(hc:c.comp=false)(hP:P=g.P)(hb':rY g c (nB g.nm body) fb)(hh:hs.all (Rh ks)=true)(hne:hs≠ []):
  gf g c (.Try (nB g.nm body) (Ke g.nm hs) [] [] pos) fun st=>match fb st with|.exc x st=>handle P x hs st|r=>r:=by
 intro st p s iv hb
 haveI hfb:fb st≠ .bad:=fun z=>hb (by dsimp only;rw[z])
 match hs,hne with
 |h0::hs,_=>
  refine wpAny_Try_except (bA (hb' st p s iv hfb) (fun f s1 z=>?_) fun e s1 z=>?_)
  ·obtain⟨m,fl,st1,q1,e1,m1,i1,r1⟩:=z;have:Cm g c p (yj g) (match fb st with|.exc x st=>handle P x (h0::hs) st|r=>r) f s1:=⟨m,fl,st1,q1,Rw e1 rfl,m1,i1,r1⟩;induction f<;>first|exact BD this|exact this
  ·obtain⟨m,x,st1,q1,e1,m1,i1,x1⟩:=z;refine qV (c:=c.at m) (co.at m) hc co.frames iv.ok m1 i1 x1 fun q2 s2 m2 i2 x2 Ud=>?_;refine gh (c:=c.at m) iv.ok m2 i2 x2 Ud fun q3 s3 m3 i3 x3 sn3=>?_
   haveI key:=DZ go co xo hc hP iv.ok (h0::hs) m st1 q3 s3 hh ⟨m3,i3,x3,sn3⟩ (fun z=>hb (by dsimp only;rw[e1];exact z))
   dsimp only;rw[e1];exact key
end
section
structure Ue(c:Cx)(q:Snap)(a:Addr)(o:Obj):Prop where
 V:q.V a
 led:q.led a=none
 de:a∉aK c.envs
 at_:q.h.get? a=some o
theorem Ue.moves(x:Ue c q a o)(m:af (aK c.envs) q r):Ue c r a o:=by
 refine⟨m.cls a x.V x.led,?_,x.de,m.keep a o x.at_ x.led x.de⟩;generalize z:r.led a=zV
 induction zV using Oc with
 |none=>rfl
 |some cl=>
  rcases m.rO a cl z with y|y
  ·exact absurd x.led y
  ·exact Ns y x.at_
theorem Inv.sm{st:St}(iv:Inv g c st p s):p.h.get? s.heap.objs.size=none:=by
 generalize e:p.h.get? s.heap.objs.size=zV
 induction zV using Oc with
 |none=>rfl
 |some o=>exact absurd (fk (iv.heap.symm▸e)) (mD _)
theorem Inv.Pr{st:St}(iv:Inv g c st p s)(o)(KQ:o.isFreed=false):∃q,Inv g c st q {s with heap:=s.heap.push o}/\af (aK c.envs) p q/\Ue c q s.heap.objs.size o/\ ∀{vs ds},ak g.w p.V p.h vs ds->ak g.w q.V q.h vs ds:=by
 haveI hn:=iv.sm
 haveI hp:=fI iv o
 obtain⟨i0,m0⟩:=Inv.quiet (V:=fun a=>p.V a\/a=s.heap.objs.size) (s':={s with heap:=s.heap.push o}) (wr:=[]) iv.ok (af.refl _ _) (fun ω z=>nomatch z) iv ⟨fun b o e ω ω=>hp b o e,fun b o e ω=>⟨o.slots,hp b o e⟩,fun a v=>v.elim .inl fun z=>.inr (z▸hn),fun a v=>.inl v,fun a v=>v.elim (fun v=>(iv.ok.all a v).elim fun o e=>⟨o,hp a o e⟩) fun z=>⟨_,z▸(fX _ KQ)⟩⟩ rfl rfl (iv.grow (cH s o s.toks)).1.ok.f9;refine⟨_,i0,m0,⟨.inr rfl,?_,fun z=>iv.alive.new (iv.ok.de _ z),(fX _ KQ)⟩,fun r=>m0.jd iv.ok r⟩;generalize z:p.led s.heap.objs.size=zV
 induction zV using Oc with
 |none=>rfl
 |some cl=>exact absurd (iv.ok.led _ _ z).1 iv.alive.new
end
theorem H4(e:vn a b acc=some HT):∃x,a= .str x/\fw (.str x) acc=some none/\acc++ [(.str x,b)]=HT:=by
 induction a using PyData.casesOn with
 |str x=>
  have e:(match fw (.str x) acc with|some none=>some (acc++ [(.str x,b)])|_=>none)=some HT:=e;generalize q:fw (.str x) acc=zV
  induction zV using Oc with
  |none=>rw[q]at e;exact ax e
  |some o=>induction o with
   |none=>rw[q]at e;exact⟨x,rfl,q,dS e⟩
   |some d=>rw[q]at e;exact ax e
 |_=>exact ax e
theorem D0:∀{acc:List (D×D)},fw (.str x) acc=some none->(.str x:D)∉acc.map (·.1):=by
 intro zV
 induction zV with
 |nil=>
  exact @fun ω=>eF
 |cons p acc zI=>
  exact @fun e=>fun hm=>by
   haveI e:(match qz p.1 (.str x)with|some true=>some (some p.2)|some false=>fw (.str x) acc|none=>none)=some none:=e
   rcases cL.mp hm with z|z
   ·have z:PyData.str x=p.1:=z;rw[<-z,show qz (.str x) (.str x)=some true from bz some (rl x)]at e;exact nomatch e
   ·generalize q:qz p.1 (.str x)=zV
    induction zV using Oc with
    |none=>simp only[q]at e;cases e
    |some b=>induction b with
     |true=>rw[q]at e;exact nomatch e
     |false=>rw[q]at e;exact zI e z
section
noncomputable def vW(nm:Nat->Str)(env:Env)(pos:Pos):List ME->List ME->List (Sem Value×Sem Value)
 |k::ks,v::vs=>(eval (aB nm k) env,(do let x<-eval (aB nm v) env;standAt pos;pure x))::vW nm env pos ks vs
 |_,_=>[]
theorem mU:∀{as bs:List ME},as.length=bs.length->(vW nm env pos as bs).length=as.length
 | [],[],_=>rfl
 |a::as,b::bs,h=>bz (· +1) (mU (BE h))
theorem vX:∀{as bs:List ME},(evalEachOpt (B3 nm as) env).zip ((evalEach (ba nm bs) env).map fun v=>do let x<-v;standAt pos;pure x)=(vW nm env pos as bs).map fun p=>(some p.1,p.2):=by
 intro zV
 induction zV with
 |nil=>
  intro zV;rcases zV with _|⟨b,bs⟩
  ·exact rfl
  ·exact rfl
 |cons a as zI=>
  intro zV;rcases zV with _|⟨b,bs⟩
  ·exact rfl
  ·exact bz (List.cons _) (zI)
inductive H5(g:Gl)(acc:List (D×D))(q:Snap)(l:List (Value×Value)):List (D×D)->Prop
 |mk(ps:List (Str×Value))(new:List (D×D))(h1:Carries (strKind g.prog g.w) l ps)(h2:DR .str g.w q.V q.h ps new)(h3:(acc.map (·.1)).Nodup->((acc++new).map (·.1)).Nodup):H5 g acc q l (acc++new)
theorem H6:∀(as bs:List ME),(∀e∈as,aA g c (aB g.nm e) (ev P cf e))->(∀e∈bs,aA g c (aB g.nm e) (ev P cf e))->∀{st:St} {p:Snap} {s:Shared},Inv g c st p s->∀acc,g7 (bS P cf as) (bS P cf bs) st acc≠ .bad->
  wpAny g.M c.A (evalPairs (vW g.nm c.env pos as bs)) (mJ g c p (H5 g acc) (g7 (bS P cf as) (bS P cf bs) st acc)) (je g c p (g7 (bS P cf as) (bS P cf bs) st acc)) s:=by
 intro zV
 induction zV with
 |nil=>
  intro zV;rcases zV with _|⟨b,bs⟩
  ·exact @fun ω ω st p s iv acc hb=>evalPairs_nil ⟨acc,st,p,rfl,af.refl _ _,iv,(by
     have:=H5.mk (g:=g) (acc:=acc) (q:=p) (l:=[]) [] [] trivial trivial (fun z=>Rw (rm ..) z)
     rw[rm]at this;exact this)⟩
  ·exact @fun ω ω st p s iv acc hb=>absurd rfl hb
 |cons a as zI=>
  intro zV;rcases zV with _|⟨b,bs⟩
  ·exact @fun ω ω st p s iv acc hb=>absurd rfl hb
  ·exact @fun ha hB st p s iv acc hb=>by
    haveI hb:((ev P cf a).dat st).bind (fun x st=>((ev P cf b).dat st).bind fun y st=>match vn x y acc with|some acc=>g7 (bS P cf as) (bS P cf bs) st acc|none=>.bad)≠ .bad:=hb
    show wpAny g.M c.A _ (mJ g c p (H5 g acc) (((ev P cf a).dat st).bind (fun x st=>((ev P cf b).dat st).bind fun y st=>match vn x y acc with|some acc=>g7 (bS P cf as) (bS P cf bs) st acc|none=>.bad))) (je g c p (((ev P cf a).dat st).bind (fun x st=>((ev P cf b).dat st).bind fun y st=>match vn x y acc with|some acc=>g7 (bS P cf as) (bS P cf bs) st acc|none=>.bad))) s;generalize hw:((ev P cf a).dat st).bind (fun x st=>((ev P cf b).dat st).bind fun y st=>match vn x y acc with|some acc=>g7 (bS P cf as) (bS P cf bs) st acc|none=>.bad)=whole at hb;refine evalPairs_cons (step ((ha a (.head _)).val.dat st p s iv (ah (hw▸hb))) iv.ok (af.refl _ _) (fun x aE e=>hw▸ar e) fun x st1 q1 s1 vk e1 m1 ω i1 r1=>?_);replace hw:=(aa e1).symm.trans hw;refine aF (step ((hB b (.head _)).val.dat st1 q1 s1 i1 (ah (hw▸hb))) iv.ok m1 (fun x aE e=>hw▸ar e) fun y st2 q2 s2 vv e2 m2 ω i2 r2=>aF (jM (bY ?_)));refine Bc fun au=>?_;replace hw:=(aa e2).symm.trans hw;generalize hd:vn x y acc=zV
    induction zV using Oc with
    |none=>rw[hd]at hw;exact absurd hw.symm hb
    |some HT=>
     rw[hd]at hw;obtain⟨k,rfl,hk,rfl⟩:=H4 hd;obtain⟨t,rfl⟩:=r1.str_inv;refine au ?_;refine step (zI bs (fun e h=>ha e (.tail _ h)) (fun e h=>hB e (.tail _ h)) i2 (acc++ [(.str k,y)]) (hw▸hb)) iv.ok m2 (fun x aE e=>hw▸e) fun kvs gB q3 s3 l e3 m3 Xx i3 r3=>?_;obtain⟨ps,new,h1,h2,h3⟩:=r3;refine⟨_,gB,q3,hw.symm.trans e3,m3,i3,?_⟩
     have hh:=H5.mk (g:=g) (acc:=acc) (q:=q3) (l:=(.str k t,vv)::l) ((k,vv)::ps) ((.str k,y)::new) ⟨rl k,rfl,h1⟩ ⟨rfl,Xx.rep i2.ok r2,h2⟩ (fun nd=>by
      haveI:=h3 (by
       rw[kb,NN]
       exact⟨nd,nu.mpr ⟨eF,pN⟩,fun z hz w hw e=>by
        have hw:w= .str k:=dp.mp hw
        exact D0 hk (by refine Rl hw (Rl e ?_);exact hz)⟩)
      rw[j9]at this;exact this)
     simp only[j9];exact hh
theorem Lv(go:g.Ok fA)(hl:as.length=bs.length)(h0:as≠ [])(EW:as.length<=15)(ha:∀e∈as,aA g c (aB g.nm e) (ev P cf e))(hB:∀e∈bs,aA g c (aB g.nm e) (ev P cf e)):
  gG g c (.Dict (B3 g.nm as) (ba g.nm bs) pos) fun st=>(g7 (bS P cf as) (bS P cf bs) st []).bind fun kvs st=>.ok (.dict kvs) st:=by
 intro st p s iv hb;refine wpAny_Dict_pairs (knd:=strKind g.prog g.w) vX (fun z=>h0 (List.eq_nil_of_length_eq_zero (Rl (mU hl) (Rw z rfl)))) (Rw (mU hl) EW) ?_;refine Bc fun au=>?_;obtain⟨q0,i0,m0,z5⟩:=iv.Pr {cls:=.type "dict",data:=.dict #[]} rfl;refine au ?_;refine bA (H6 as bs ha hB i0 [] (ah hb)) (fun l s1 z=>?_) fun e s1 z=>je.lift iv.ok m0 (fun x aE e=>ar e) z;refine Bc fun au=>?_;obtain⟨_,st1,q1,e1,m1,i1,ps,new,h1,h2,h3⟩:=z;refine au ?_;have op:=z5.1.moves m1
 haveI nd:=h3 pN
 refine⟨ps,h1,⟨_,#[],0,Rw i1.heap op.at_,⟨rfl,rfl,rfl⟩,rfl,fun ω he=>by simp at he,.nil,pN⟩,fun h' hD hs=>?_⟩
 simp only[merged_nil_of_nodup ps (by
  rw[t6,h2.keys]at nd
  exact nM nd)]at hD
 have k:=fun b o hb e=>hs.extBut b o hb (Rw i1.heap e)
 haveI m2:=jQ (r:=p) (h:=h') (m0.trans iv.ok m1) iv.sm iv.ok.all k
 refine⟨.dict ([]++new),st1,_,(aa e1).trans rfl,m2,(i1.vK (s':={s1 with heap:=h',toks:=s1.toks+l.length}) k op.V op.led op.de ⟨_,op.at_,fun ω z=>nomatch z⟩ rfl rfl),qi B6 (fun ω z=>.inr z) (fun z=>z.2 rfl) (not_modules go iv) hD ?_ nd⟩;exact drk (fun a o n e=>⟨fun z=>n z.1,k a o (fun z=>n (z▸op.V)) e⟩) h2
end
noncomputable def D3:Nat->ME->Bool
 |_,.loc ..=>true
 |_,.lst ..=>true
 |n+1,.bin _ l _ _=>D3 n l
 |n+1,.sub o _ _=>D3 n o
 |_,_=>false
theorem Lw(o4:∀x,(nm x==("__debug__":Str))=false):∀(n:Nat) (e:ME),D3 n e=true->constantsAlone n (aB nm e)=false/\foldedForSure n (aB nm e)=false:=by
 intro n
 induction n with
 |zero=>
  intro e h
  induction e using ME.casesOn with
  |loc x _=>exact⟨o4 x,rfl⟩
  |lst _ _=>exact⟨rfl,rfl⟩
  |_=>exact absurd h cO
 |succ n ih=>
  intro e h
  induction e using ME.casesOn with
  |loc x _=>exact⟨o4 x,rfl⟩
  |lst _ _=>exact⟨rfl,rfl⟩
  |bin op l r p=>exact⟨(bz (· &&constantsAlone n (aB nm r)) (ih l h).1).trans rfl,rfl⟩
  |sub o i p=>exact⟨(bz (· &&constantsAlone n (aB nm i)) (ih o h).1).trans rfl,rfl⟩
  |_=>exact absurd h cO
noncomputable def lT(y:Nat×Pos):MT:=.loc y.1 y.2
theorem VU:∀{ts:List MT},ts.all fF=true->∃xs:List (Nat×Pos),ts=xs.map lT:=by
 intro zV
 induction zV with
 |nil=>
  exact @fun ω=>⟨[],rfl⟩
 |cons t ts zI=>
  exact @fun h=>by
   simp only[ny,dg]at h;obtain⟨xs,rfl⟩:=zI h.2
   induction t using MT.casesOn with
   |loc x p=>exact⟨(x,p)::xs,rfl⟩
   |_=>exact absurd h.1 cO
def D4(ks:List (Nat×NameKind))(xs:List (Nat×Pos))(es:List ME):Bool:=
 (xs.length==2||xs.length==3)&&es.length==xs.length&&xs.all (fun y=>decide (look y.1 ks=some .local)&&y.2.line==(xs.getD 0 (0,⟨0,0,0,0⟩)).2.line)&&decide ((xs.map (·.1)).Nodup)&&es.any (D3 8)
theorem CE(nm:Nat->Str):∀xs:List (Nat×Pos),qA nm (xs.map lT)=xs.map fun y=>.Name (nm y.1) y.2
 | []=>rfl
 |y::xs=>bz (List.cons _) (CE nm xs)
theorem so{nm:Nat->Str}{f:Expr->Bool}(h:∀e,f (aB nm e)=false):∀es:List ME,(ba nm es).any f=false
 | []=>rfl
 |e::es=>by simp only[rD,rE,ub,so h es,h e];rfl
theorem H7(o4:∀x,(nm x==("__debug__":Str))=false):∀{es:List ME},es.any (D3 8)=true->(ba nm es).all (foldedForSure 8)=false/\(ba nm es).all (constantsAlone 8)=false:=by
 intro zV
 induction zV with
 |nil=>
  exact @fun h=>absurd h cO
 |cons e es zI=>
  exact @fun h=>by
   simp only[ub]at h;simp only[rD,rE,ny,ny];generalize q:D3 8 e=zV
   induction zV using Tc with
   |true=>
    haveI z:=Lw o4 8 e q
    exact Rw z.1 (Rw z.2 ⟨rfl,rfl⟩)
   |false=>
    rw[q]at h;exact Rw ((zI h).1) (Rw ((zI h).2) (Rw (FN ..) (Rw (FN ..) ⟨rfl,rfl⟩)))
theorem VV{a:Str}(h:a≠b):[a,b].eraseDups= [a,b]:=by
 haveI:(b==a)=false:=pP h.symm
 simp[NC,this]
theorem VW{a:Str}(h:a≠b)(h2:a≠c)(h3:b≠c):[a,b,c].eraseDups= [a,b,c]:=by
 haveI q1:=pP h.symm
 haveI q2:=pP h2.symm
 simp[NC,q1,q2,(pP h3.symm)]
theorem yJ(nm:Nat->Str):∀es:List ME,(ba nm es).length=es.length
 | []=>rfl
 |_::es=>bz (· +1) (yJ nm es)
section
theorem yK{nm:Nat->Str}:∀xs:List (Nat×Pos),(∀y∈xs,f (.Name (nm y.1) y.2)=some (nm y.1))->(xs.map fun y=>Expr.Name (nm y.1) y.2).filterMap f=xs.map fun y=>nm y.1
 | []=>@fun ω=>rfl
 |y::xs=>@fun h=>(Nb (h y (.head _))).trans (bz (List.cons _) (yK xs fun y hy=>h y (.tail _ hy)))
theorem AI{c:Cx}(go:g.Ok fA)(co:c.Ok g ks n)(h:D4 ks xs es=true):
  swappedStores [toT g.nm (.tup (xs.map lT) k pt)] (aB g.nm (.tup es k' pe)) c.env=pure (some (xs.map fun y=>g.nm y.1)):=by
 delta D4 at h
 simp only[dg,xj,fY,iZ,jL]at h;obtain⟨⟨⟨⟨h1,h2⟩,h3⟩,h4⟩,h5⟩:=h
 haveI hd:=H7 go.o4 h5
 show swappedStores [.Tuple (qA g.nm (xs.map lT)) k pt] (.Tuple (ba g.nm es) k' pe) c.env=_;rw[CE]
 have hn:(xs.map fun y=>g.nm y.1).eraseDups=xs.map fun y=>g.nm y.1:=by
  rcases xs with _|⟨a,_|⟨b,_|⟨c',_|⟨_,_⟩⟩⟩⟩
  ·rfl
  ·simp at h1
  ·simp at h4;exact VV fun z=>h4 (go.inj _ _ z)
  ·simp at h4;exact VW (fun z=>h4.1.1 (go.inj _ _ z)) (fun z=>h4.1.2 (go.inj _ _ z)) fun z=>h4.2 (go.inj _ _ z)
  ·simp at h1
 have hln:(xs.map fun y=>g.nm y.1).length=xs.length:=cn _
 haveI VX:(((xs.map fun y=>Expr.Name (g.nm y.1) y.2).head?.map (·.pos.line)).getD 0)=(xs.getD 0 (0,⟨0,0,0,0⟩)).2.line:=by
  induction xs using Lc with
  |nil=>simp at h1
  |cons y ys=>rfl
 delta swappedStores
 dsimp only
 rw[aw (by rw[(cn _),yJ,h2,co.block];rcases h1 with h1|h1<;>rw[h1]<;>decide),aw (by rw[so (fun e=>by induction e using ME.casesOn<;>rfl)];exact cO),VX,yK xs fun y hy=>if_pos (by
  haveI z:=h3 y hy
  refine Rw (co.kindOf go.inj ..) (Rw (z.1 ..) (Rw (z.2 ..) (Rw (rl ..) (Rw (rl ..) ?_))));rfl),hn,hln,(cn _),aw (by simp),hd.1,hd.2]
 rfl
inductive AJ(g:Gl)(c:Cx)(p q:Snap)(v:Value):LV->Prop
 |rv(r:RV)(h:iK g q v r):AJ g c p q v r.lv
 |own(a:Addr)(vs:List Value)(ds:List D)(o:Obj)(e:v= .ref a)(hn:p.h.get? a=none)(x:Ue c q a o)(hp:q.h.PlainList a vs.toArray)(hr:ak g.w q.V q.h vs ds):AJ g c p q v (.own ds)
theorem AJ.moves(m:af (aK c.envs) q r)(ok:q.Ok g.base c.envs)(x:AJ g c p q v lv):AJ g c p r v lv:=by
 induction x with
 |rv y h=>exact .rv y (m.rv ok h)
 |own a vs ds o e hn x hp hr=>
  obtain⟨k,hp⟩:=hp;refine .own a vs ds o e hn (x.moves m) ⟨k,?_⟩ (m.jd ok hr);exact Rw ((x.moves m).at_) (Rl x.at_ hp)
theorem H8{st:St}(hl:∀ms pos,e= .lst ms pos->ms.length<=1000/\ ∀m∈ms,aA g c (aB g.nm m) (ev P cf m))(h:aA g c (aB g.nm e) (ev P cf e))(iv:Inv g c st p s)(hb:nA P cf e st≠ .bad):
  wpAny g.M c.A (eval (aB g.nm e) c.env) (mJ g c p (AJ g c p) (nA P cf e st)) (je g c p (nA P cf e st)) s:=by
 have gen (hw:nA P cf e st=((ev P cf e).val st).bind fun r st=>.ok r.lv st):wpAny g.M c.A (eval (aB g.nm e) c.env) (mJ g c p (AJ g c p) (nA P cf e st)) (je g c p (nA P cf e st)) s:=by
  rw[hw]at hb⊢;exact step (h.val st p s iv (ah hb)) iv.ok (af.refl _ _) (fun x aE e=>ar e) fun r st1 q1 s1 v e1 m1 ω i1 r1=>⟨_,st1,q1,aa e1,m1,i1,.rv r r1⟩
 cases e with
 |lst ms pos=>
  obtain⟨h1,h2⟩:=hl ms pos rfl;clear gen
  haveI hb:=hb
  refine F6 (step (qR ms h2 st p s iv (ah hb)) iv.ok (af.refl _ _) (fun x aE e=>ar e) fun ds st1 q1 s1 va e1 m1 ω i1 r1=>⟨?_,?_⟩)
  ·rw[ak.length r1,iN ms _ _ _ e1];exact aI h1 (by rw[kq];decide)
  ·refine Bc fun au=>?_;obtain⟨q2,Dr⟩:=i1.Pr {cls:=.type "list",data:=.seq va.toArray} rfl;exact au ⟨_,st1,q2,aa e1,m1.trans iv.ok Dr.2.1,Dr.1,.own _ va ds _ rfl (m1.back i1.sm) Dr.2.2.1 ⟨0,Dr.2.2.1.at_⟩ (Dr.2.2.2 r1)⟩
 |_=>exact gen rfl
theorem D5:∀{a:List MT} {b:List LV} {st aE:St},eL (a++ [t]) (b++ [v]) st=some aE->∃st1,eL a b st=some st1/\th t v st1=some aE:=by
 intro zV
 induction zV with
 |nil=>
  intro zV;rcases zV with _|⟨x,b⟩
  ·exact @fun st aE h=>by
    obtain⟨st1,h1,h2⟩:=iR h;exact Rl h2 ⟨st,rfl,h1⟩
  ·exact @fun st aE h=>by
    obtain⟨st1,h1,h2⟩:=iR h;induction b using Lc<;>exact ax h2
 |cons y a zI=>
  intro zV;rcases zV with _|⟨x,b⟩
  ·exact @fun st aE h=>by
    obtain⟨st1,h1,h2⟩:=iR h;cases(a)<;>exact ax h2
  ·exact @fun st aE h=>by
    obtain⟨st1,l5⟩:=iR h;obtain⟨st2,Dr⟩:=zI l5.2;exact⟨st2,w9.mpr ⟨st1,l5.1,Dr.1⟩,Dr.2⟩
theorem uN{c:Cx}(go:g.Ok fA)(co:c.Ok g ks n)(hc:c.comp=false):∀(xs:List (Nat×Pos)) (vs:List Value) (rs:List RV) (st aE:St) (p:Snap) (s:Shared) (m0:Str->Option Value),Inv g (c.at m0) st p s->cB g p vs rs->(∀y∈xs,look y.1 ks=some .local)->eL (xs.map lT) (rs.map RV.lv) st=some aE->
  (∀m q s',Inv g (c.at m) aE q s'->af (aK c.envs) p q->wpAny g.M A (assignInOrder fs ws) Q E s')->wpAny g.M A (assignInOrder ((xs.map fun y=>bindName c.env (g.nm y.1))++fs) (vs++ws)) Q E s
 | [],[],[]=>@fun st aE p s m0 iv hr hx hs h=>by
  cases hs;exact h m0 p s iv (af.refl _ _)
 | [],_::_,rs=>@fun ω ω ω ω ω ω hr ω hs ω=>by induction rs using Lc<;>first|exact hr.elim|exact ax hs
 | [],[],_::_=>@fun ω ω ω ω ω ω hr ω hs ω=>ax hs
 |_::_,vs,[]=>@fun ω ω ω ω ω ω hr ω hs ω=>ax hs
 |_::_,[],_::_=>@fun ω ω ω ω ω ω hr ω hs ω=>hr.elim
 |y::xs,v::vs,r::rs=>@fun st aE p s m0 iv hr hx hs h=>by
  obtain⟨st1,h1,h2⟩:=iR hs;cases h1;refine Fb (OG (gP (c:=c.at m0) (lv:=r.lv) go (co.at m0) iv hc (hx y (.head _)) hr.1.lv fun m q s' i m1=>?_));exact uN go co hc xs vs rs _ aE q s' m i (m1.Ks iv.ok hr.2) (fun z hz=>hx z (.tail _ hz)) h2 fun m q s' i m2=>h m q s' i (m1.trans iv.ok m2)
theorem H9:∀{vs:List Value} {rs:List RV},cB g q vs rs->iK g q v x->cB g q (vs++ [v]) (rs++ [x]):=by
 intro zV
 induction zV with
 |nil=>
  intro zV;rcases zV with _|⟨_,_⟩
  ·exact @fun ω h=>⟨h,trivial⟩
  ·exact @fun a ω=>a.elim
 |cons _ _ zI=>
  intro zV;rcases zV with _|⟨_,_⟩
  ·exact @fun a ω=>a.elim
  ·exact @fun a h=>⟨a.1,zI a.2 h⟩
theorem Ly:∀{vs:List Value} {rs:List RV},cB g q vs rs->cB g q vs.reverse rs.reverse:=by
 intro zV
 induction zV with
 |nil=>
  intro zV;rcases zV with _|⟨_,_⟩
  ·exact @fun ω=>trivial
  ·exact @fun a=>a.elim
 |cons _ _ zI=>
  intro zV;rcases zV with _|⟨_,_⟩
  ·exact @fun a=>a.elim
  ·exact @fun a=>by simp only[tT,tT];exact H9 (zI a.2) a.1
theorem Lz:∀{vs:List Value} {rs:List RV},cB g q vs rs->vs.length=rs.length:=by
 intro zV
 induction zV with
 |nil=>
  intro zV;rcases zV with _|⟨_,_⟩
  ·exact @fun ω=>rfl
  ·exact @fun a=>a.elim
 |cons _ _ zI=>
  intro zV;rcases zV with _|⟨_,_⟩
  ·exact @fun a=>a.elim
  ·exact @fun a=>bz (· +1) (zI a.2)
set_option tactic.hygienic true in
theorem Ia(go:g.Ok fA)(co:c.Ok g ks n)(hc:c.comp=false)(hok:D4 ks xs es=true)(hl:∀e∈es,∀ms pos,e= .lst ms pos->ms.length<=1000/\ ∀m∈ms,aA g c (aB g.nm m) (ev P cf m))(h:∀e∈es,aA g c (aB g.nm e) (ev P cf e)):
  gf g c (.Assign [toT g.nm (.tup (xs.map lT) k pt)] (aB g.nm (.tup es k' pe)) pos) fun st=>(zT P cf es st).bind fun vs st=>(opt (eL (xs.map lT).reverse vs.reverse st) st).bind fun st ω=>.ok .next st:=by
 intro st p s iv hb;revert hb;show(zT P cf es st).bind (fun vs st=>(opt (eL (xs.map lT).reverse vs.reverse st) st).bind fun st ω=>(.ok .next st:Res dJ))≠ .bad->wpAny g.M c.A _ (Cm g c p _ ((zT P cf es st).bind fun vs st=>(opt (eL (xs.map lT).reverse vs.reverse st) st).bind fun st ω=>(.ok .next st:Res dJ))) (rW g c p ((zT P cf es st).bind fun vs st=>(opt (eL (xs.map lT).reverse vs.reverse st) st).bind fun st ω=>(.ok .next st:Res dJ))) s;generalize hw:(zT P cf es st).bind (fun vs st=>(opt (eL (xs.map lT).reverse vs.reverse st) st).bind fun st ω=>(.ok .next st:Res dJ))=whole;intro hb;refine Assign_Tuple_swapped (names:=xs.map fun y:Nat×Pos=>g.nm y.1) ?_ rfl (AI go co hok);refine Bc fun au=>?_;unfold D4 at hok;simp only[dg,xj,fY,iZ,jL]at hok;obtain⟨⟨⟨⟨h1,hlen⟩,hx⟩,-⟩,-⟩:=hok;have hx:=fun y hy=>(hx y hy).1
 induction es using Lc with
 |nil=>exact absurd hw.symm hb
 |cons e es=>
  induction xs using Lc with
  |nil=>cases hlen
  |cons y ys=>
   haveI hw:((nA P cf e st).bind fun v st=>(g4 (bS P cf es) st).bind fun rs st=>.ok (v::rs.map RV.lv) st).bind (fun vs st=>(opt (eL ((y::ys).map lT).reverse vs.reverse st) st).bind fun st ω=>(.ok .next st:Res dJ))=whole:=hw
   refine au ?_;refine wpAny_Tuple (pK (iQ (H8 (hl e (.head _)) (h e (.head _)) iv (ah (ah (hw▸hb)))) iv.ok (af.refl _ _) (fun x aE e=>hw▸ar (ar e)) fun v st1 q1 s1 va e1 m1 ω i1 r1=>?_) (bL _ _ _ _));replace hw:=(aa e1)▸hw;refine iQ (qS es (fun m hm=>h m (.tail _ hm)) st1 q1 s1 i1 (ah (ah (hw▸hb)))) iv.ok m1 (fun x aE e=>hw▸ar (ar e)) fun rs st2 q2 s2 vs e2 m2 qQ i2 r2=>?_;refine Bc fun au=>?_;replace hw:=(aa e2)▸hw
   haveI hw:(opt (eL ((y::ys).map lT).reverse (v::rs.map RV.lv).reverse st2) st2).bind (fun st ω=>(.ok .next st:Res dJ))=whole:=hw
   obtain⟨gB,e3⟩:=b7 (ah (hw▸hb));replace hw:=e3▸hw;simp only[c7,tT,tT,<-FE,<-FE]at e3;obtain⟨zY,f1,f2⟩:=D5 e3;cases f2
   have hz:(va::vs).length=((y::ys).map fun y:Nat×Pos=>g.nm y.1).length:=by
    haveI:=nY _ _ _ _ f1
    simp only[cn,cn,NB,NB]at this;simp only[List.length_cons,Lz r2,cn,List.length_cons,this]
   refine au ?_;refine⟨by rw[hz,cn,kq];exact h1.elim (fun e=>Rw e (Dn rfl)) fun e=>Rw e (Dn rfl),?_⟩
   haveI yb:=(i2.grow (cH s2 {cls:=.type "tuple",data:=.seq (va::vs).toArray} s2.toks))
   haveI i3:=yb.1
   haveI m3:=yb.2
   haveI ht:IsTup (s2.heap.push {cls:=.type "tuple",data:=.seq (va::vs).toArray}) s2.heap.objs.size (va::vs).toArray:=⟨_,fX _ rfl,rfl,0,rfl⟩
   refine Rl hz (Rl qx ?_);refine unpackItems_tuple (s:={s2 with heap:=s2.heap.push {cls:=.type "tuple",data:=.seq (va::vs).toArray}}) co.handled ht fun h' hx'=>?_;obtain⟨i4,m4⟩:=i3.grow (s':={s2 with heap:=h'}) ⟨h',s2.toks,rfl,fun b o e=>hx' b o (rn (fk e)) e⟩;have UL:=m3.trans i2.ok m4;simp only[c7,tT,<-FE,kb,qy,show((va::vs).toArray).toList=va::vs from rfl,tT];refine uN go co hc ys.reverse vs.reverse rs.reverse st2 zY _ _ c.m i4 (Ly (UL.Ks i2.ok r2)) (fun z hz=>hx z (.tail _ (List.mem_reverse.mp hz))) f1 fun m q s' i5 m5=>?_;have Ps:=(m2.trans iv.ok UL).trans iv.ok m5;have r5:=((r1.moves qQ i1.ok).moves UL i2.ok).moves m5 i4.ok
   have fin:∀{q1:Snap},Inv g (c.at m) zY q1 s'->af (aK c.envs) p q1->bw g q1 (.nH y.1) va v->wpAny g.M c.A (assignInOrder ([g.nm y.1].map fun n=>bindName c.env n) [va]) (fun ω s2=>Cm g c p (yj g) whole Flow.next s2) (rW g c p whole) s':=fun{q1} i6 m6 r6=>
    Fb (OG (gP (c:=c.at m) go (co.at m) i6 hc (hx y (.head _)) r6 fun m' q' s'' i7 m7=>Ny ⟨m',.next,_,q',hw.symm,m6.trans iv.ok m7,i7,trivial⟩))
   induction r5 with
   |rv x hr=>exact fin i5 Ps hr.lv
   |own a ws ds o ea hn op hp hr=>
    refine fin (q1:=q.claim a ⟨.nH y.1,.lst ws⟩) (i5.claim op.V op.led op.de hp) ⟨Ps.keep,Ps.de,Ps.ext,Ps.qC,fun b cl eb=>?_,Ps.cls,Ps.pre⟩ ⟨a,ws,ea,if_pos rfl,hr⟩;unfold Snap.claim at eb;dsimp only at eb;split at eb
    ·rename_i hb;exact .inr (hb▸hn)
    ·exact Ps.rO b cl eb
theorem VY{f:Expr->Option Str}:∀{ts:List MT},(∃t∈ts,f (toT nm t)=none)->((qA nm ts).filterMap f).length<(qA nm ts).length:=by
 intro zV
 induction zV with
 |nil=>
  exact @fun h=>by obtain⟨t,h,_⟩:=h;cases h
 |cons t ts zI=>
  exact @fun h=>by
   haveI le:((qA nm ts).filterMap f).length<=(qA nm ts).length:=E6 _ _
   simp only[Gp,Gq];generalize q:f (toT nm t)=zV
   induction zV using Oc with
   |none=>refine Rw (List.filterMap_cons_none q) (Rw List.length_cons ?_);exact vg le
   |some x=>
    simp only[Nb q,List.length_cons,List.length_cons];obtain⟨t',h1,h2⟩:=h;rcases cL.mp h1 with rfl|h1
    ·exact Ns h2 q
    ·have:=zI ⟨t',h1,h2⟩;exact vg this
theorem VZ{α:Type}[Decidable c]{a b:α}(h:b=a):(if c then a else b)=a:=(iy c).elim (fun z=>if_pos z) fun z=>(aw z).trans h
theorem AK{c:Cx}(go:g.Ok fA)(co:c.Ok g ks n)(h:ET ks (.tup ts k pt)=true)(hl:ts.all fF=false):
  swappedStores [toT g.nm (.tup ts k pt)] (aB g.nm (.tup es k' pe)) c.env=pure none:=by
 have hok:=jL.mp h
 obtain⟨t,h1,h2⟩:∃t∈ts,fF t=false:=by
  simpa using hl
 delta swappedStores;dsimp only;refine VZ (VZ ?_)
 rw[if_pos];rw[xj];refine .inl (bne_iff_ne.mpr (rn (VY ⟨t,h1,?_⟩)))
 haveI h3:=hok t h1
 induction t using MT.casesOn with
 |loc x p=>cases h2
 |aW x p=>
  apply aw;exact Rw (co.kindOf go.inj ..) (Rw (show look x ks=some .cell from bR h3) cO)
 |_=>cases h3
end
def jz(h:Heap)(z TI TO:Addr)(f0:Value)(f1:Bool):Prop:=h.get? z=some {cls:=.type "zip",dict:=none,data:=.fields #[f0,.bool f1,.bool false,.ref TI,.ref TO],slots:=#[]}
structure ZAp(z TI TO i1 i2:Addr)(oJ oK:List Addr):Prop where
 TIz:TI≠z
 TOz:TO≠z
 i1z:i1≠z
 i2z:i2≠z
 TITO:TI≠TO
 TIi1:TI≠i1
 TIi2:TI≠i2
 TOi1:TO≠i1
 TOi2:TO≠i2
 i12:i1≠i2
 f1:z∉oJ/\TO∉oJ/\i2∉oJ
 f2:z∉oK/\TO∉oK/\i1∉oK
section
theorem bK(D:Draws prog w A it fp n P S)(hc:c∉fp)(hs:Heap.SameBut c h h')(st:S i h):S i h':=
 D.frame i h h' st fun b hb o e=>hs.extBut b o (fun x=>hc (x▸hb)) e
theorem Ib{prog:Program}{w:World}{A:Around}{E:Value->Shared->Prop}{s:Shared}{z TI TO i1 i2:Addr}{oJ oK:List Addr}{n1 n2 k:Nat}{P1 P2:Nat->Value->Prop}{S1 S2:Nat->Heap->Prop}(D1:Draws prog w A i1 oJ n1 P1 S1)(D2:Draws prog w A i2 oK n2 P2 S2)(D:ZAp z TI TO i1 i2 oJ oK){a b:Value}{Q:Value->Shared->Prop}(hz:jz s.heap z TI TO .none false)(hTI:IsPair s.heap TI (.ref i1) (.ref i2))(XR:IsPair s.heap TO a b)(h1:S1 k s.heap)(h2:S2 k s.heap)(l1:k<n1)(l2:k<n2)(hQ:∀x y h' tk T,P1 k x->P2 k y->jz h' z TI TO (rawInt (T:Nat)) false->IsPair h' TO x y->S1 (k+1) h'->S2 (k+1) h'->IsPair h' T x y->s.heap.get? T=none->(∀c o,c≠z->c≠TO->c≠i1->c≠i2->s.heap.get? c=some o->h'.get? c=some o)->Q (.ref T) {s with heap:=h',toks:=tk}):
  wpAny (model prog w) A (Builtin.«zip.__next__» ⟨[.ref z],[]⟩) (fun fin s'=>∃v,fin= .done (.ret v)/\Q v s') E s:=by
 show wpAny _ _ (field (.ref z) 2>>=_) _ _ _;refine aF (gV hz rfl (x:=.bool false) rfl ?_);refine aF (gV hz rfl (x:=.ref TI) rfl ?_);refine aF (ua hTI rfl ?_);apply aF;refine aF (gV hz rfl (x:=.none) rfl (bY ?_));refine aF (uc ?_);refine aF (gV hz rfl (x:=.ref TO) rfl ?_);refine aF (tS hz (gU _) fun h₁ qk eA=>?_);replace qk:jz h₁ z TI TO .ellipsis false:=qk;apply aF;simp only[NZ,N6,t7,Ob];refine aF (aF (BS ?_));refine aF (D1.item k _ _ _ l1 (bK D1 D.f1.1 eA h1) fun x AL V0 px Pt eE=>bY ?_);replace eE:Heap.SameBut i1 h₁ AL:=eE;have sq:=eE.extBut _ _ D.TOi1 (eA.extBut _ _ D.TOz XR);refine aF (ua sq rfl ?_);refine aF (Fs sq fun qG sr gi=>?_);replace sr:IsPair qG TO x b:=sr;replace gi:Heap.SameBut TO AL qG:=gi;refine aF (F4 (bY ?_));refine aF (aF (BS ?_));refine aF (D2.item k _ _ _ l2 (bK D2 D.f2.2.1 gi (bK D2 D.f2.2.2 eE (bK D2 D.f2.1 eA h2))) fun y LA V1 py V4 jA=>bY ?_);replace jA:Heap.SameBut i2 qG LA:=jA;have Ic:=jA.extBut _ _ D.TOi2 sr;refine aF (ua Ic rfl ?_);refine aF (Fs Ic fun qI vY kO=>?_);replace vY:IsPair qI TO x y:=vY;replace kO:Heap.SameBut TO LA qI:=kO;refine aF (F4 (bY (bY ?_)));refine aF (ua vY rfl ?_);refine aF (BJ ?_);have Pu:=kO.extBut _ _ D.TOz.symm (jA.extBut _ _ D.i2z.symm (gi.extBut _ _ D.TOz.symm (eE.extBut _ _ D.i1z.symm qk)))
 haveI V5:∀c o,c≠z->c≠TO->c≠i1->c≠i2->s.heap.get? c=some o->qI.get? c=some o:=fun c o c1 c2 c3 c4 e=>
  kO.extBut _ _ c2 (jA.extBut _ _ c4 (gi.extBut _ _ c2 (eE.extBut _ _ c3 (eA.extBut _ _ c1 e))))
 have hsz:qI.objs.size=s.heap.objs.size:=by simp only[kO.1,jA.1,gi.1,eE.1,eA.1]
 haveI V6:=bK D2 D.f2.2.1 kO V4
 haveI V7:=fk Pu
 apply aF
 haveI V8:jz (qI.push {cls:=.type "tuple",data:=.seq #[x,y]}) z TI TO .ellipsis false:=il _ Pu;refine aF (tS V8 (by simp) fun aa4 Ie Pw=>?_);replace Ie:jz aa4 z TI TO (rawInt qI.objs.size) false:=Ie
 refine tS Ie (Dn rfl) fun Rj Ig Px=>?_;replace Ig:jz Rj z TI TO (rawInt qI.objs.size) false:=Ig;have up:∀c o,c≠z->qI.get? c=some o->Rj.get? c=some o:=fun c o c1 e=>Px.extBut _ _ c1 (Pw.extBut _ _ c1 (il _ e));refine bY ⟨_,rfl,?_⟩;refine hQ x y Rj V1 qI.objs.size px py Ig (up _ _ D.TOz vY) (D1.frame _ _ _ (bK D1 D.f1.2.1 kO (bK D1 D.f1.2.2 jA (bK D1 D.f1.2.1 gi Pt))) fun c hc o e=>up c o (fun q=>D.f1.1 (q▸hc)) e) (D2.frame _ _ _ V6 fun c hc o e=>up c o (fun q=>D.f2.1 (q▸hc)) e) (Px.extBut _ _ (pQ V7) (Pw.extBut _ _ (pQ V7) (fX _ rfl))) ?_ fun c o c1 c2 c3 c4 e=>up c o c1 (V5 c o c1 c2 c3 c4 e);generalize q:s.heap.get? qI.objs.size=zV
 induction zV using Oc with
 |none=>rfl
 |some o=>exact absurd (fk q) (Rw hsz (mD _))
theorem vZ{prog:Program}{w:World}{A:Around}{E:Value->Shared->Prop}{s:Shared}{z TI TO i1 i2:Addr}{oJ oK:List Addr}{n1 n2 k:Nat}{P1 P2:Nat->Value->Prop}{S1 S2:Nat->Heap->Prop}(D1:Draws prog w A i1 oJ n1 P1 S1)(D2:Draws prog w A i2 oK n2 P2 S2)(D:ZAp z TI TO i1 i2 oJ oK){a b:Value}{Q:Fin->Shared->Prop}(hz:jz s.heap z TI TO .none false)(hTI:IsPair s.heap TI (.ref i1) (.ref i2))(XR:IsPair s.heap TO a b)(h1:S1 k s.heap)(h2:S2 k s.heap)(hk:k=n1\/(k<n1/\k=n2))(hE:∀h' tk e,(∀c o,c≠z->c≠TO->c≠i1->c≠i2->s.heap.get? c=some o->h'.get? c=some o)->(∃o,h'.get? TO=some o)->(∃o,h'.get? e=some o/\o.cls= .type "StopIteration")->E (.ref e) {s with heap:=h',toks:=tk}):
  wpAny (model prog w) A (Builtin.«zip.__next__» ⟨[.ref z],[]⟩) Q E s:=by
 show wpAny _ _ (field (.ref z) 2>>=_) _ _ _;refine aF (gV hz rfl (x:=.bool false) rfl ?_);refine aF (gV hz rfl (x:=.ref TI) rfl ?_);refine aF (ua hTI rfl ?_);apply aF;refine aF (gV hz rfl (x:=.none) rfl (bY ?_));refine aF (uc ?_);refine aF (gV hz rfl (x:=.ref TO) rfl ?_);refine aF (tS hz (gU _) fun h₁ qk eA=>?_);replace qk:jz h₁ z TI TO .ellipsis false:=qk;apply aF;simp only[NZ,N6,t7,Ob];refine aF (aF (BS ?_));refine Bc fun au=>?_;rcases hk with rfl|⟨l1,rfl⟩
 ·refine au ?_;refine aF (D1.done _ _ _ (bK D1 D.f1.1 eA h1) fun AL e eE he=>?_);obtain⟨oe,Rk,J3⟩:=he;replace eE:Heap.ExtBut i1 h₁ AL:=eE;have Py:=eE _ _ D.i1z.symm qk;have hez:e≠z:=fun x=>by obtain rfl:=x.symm;rw[Py]at Rk;cases Rk;simp at J3
  exact tS Py (gU _) fun qG ω gi=>hE qG _ e (fun c o c1 ω c3 ω x=>gi.extBut _ _ c1 (eE _ _ c3 (eA.extBut _ _ c1 x))) ⟨_,gi.extBut _ _ D.TOz (eE _ _ D.TOi1 (eA.extBut _ _ D.TOz XR))⟩ ⟨oe,gi.extBut _ _ hez Rk,J3⟩
 ·refine au ?_;refine aF (D1.item _ _ _ _ l1 (bK D1 D.f1.1 eA h1) fun x AL V0 px Pt eE=>bY ?_);replace eE:Heap.SameBut i1 h₁ AL:=eE;have sq:=eE.extBut _ _ D.TOi1 (eA.extBut _ _ D.TOz XR);refine aF (ua sq rfl ?_);refine aF (Fs sq fun qG sr gi=>?_);replace gi:Heap.SameBut TO AL qG:=gi;refine aF (F4 (bY ?_));refine aF (aF (BS ?_));refine aF (D2.done _ _ _ (bK D2 D.f2.2.1 gi (bK D2 D.f2.2.2 eE (bK D2 D.f2.1 eA h2))) fun LA e jA he=>?_);obtain⟨oe,Rk,J3⟩:=he;replace jA:Heap.ExtBut i2 qG LA:=jA;have Pz:=jA _ _ D.i2z.symm (gi.extBut _ _ D.TOz.symm (eE.extBut _ _ D.i1z.symm qk));have hez:e≠z:=fun x=>by obtain rfl:=x.symm;rw[Pz]at Rk;cases Rk;simp at J3
  exact tS Pz (gU _) fun qI ω kO=>hE qI _ e (fun c o c1 c2 c3 c4 x=>kO.extBut _ _ c1 (jA _ _ c4 (gi.extBut _ _ c2 (eE.extBut _ _ c3 (eA.extBut _ _ c1 x))))) ⟨_,kO.extBut _ _ D.TOz (jA _ _ D.TOi2 sr)⟩ ⟨oe,kO.extBut _ _ hez Rk,J3⟩
theorem yL(hz:jz s.heap z TI TO f0 f1)(h:wpAny (model prog w) A.in1 (Builtin.«zip.__next__» ⟨[.ref z],[]⟩) (fun fin s'=>∃v,fin= .done (.ret v)/\Q (some v) s') (fun e s'=>∃o a,e= .ref a/\s'.heap.get? a=some o/\o.cls= .type "StopIteration" /\Q none s') s):
  wpAny (model prog w) A (pyNext (.ref z)) Q E s:=by
 refine aF (wpAny_attempt (Ff (name:=Str.ofString "__next__") (⟨_,hz,rfl⟩) M9
  (BC M9 (⟨_,hz,rfl⟩) PySem.F.entry_zip_next (bA h (fun fin s' z=>?_) fun e s' z=>?_) (PySem.F.args_zip_next_1 _))))
 ·obtain⟨v,rfl,q⟩:=z;exact⟨v,rfl,bY q⟩
 ·obtain⟨o,a,rfl,z6⟩:=z;exact aF (wpAny_isInstance (T:="StopIteration") (b:=true) ⟨o,z6.1,z6.2.1⟩ isSubtype_stop (bY z6.2.2))
end
section
def mV(g:Gl)(P:Nat->Value->Prop)(ds:List D)(V:Addr->Prop)(h:Heap):Prop:=∀j x d,P j x->ds[j]?=some d->aU g.w V h x d
structure ZK(g:Gl)(c:Cx)(p:Snap)(z TI TO i1 i2:Addr)(P1 P2:Nat->Value->Prop)(S1 S2:Nat->Heap->Prop)(oJ oK:List Addr)(xs ys:List D):Prop where
 ap:ZAp z TI TO i1 i2 oJ oK
 d1:Draws g.prog g.w c.A.in1 i1 oJ xs.length P1 S1
 d2:Draws g.prog g.w c.A.in1 i2 oK ys.length P2 S2
 f1:∀k h,S1 k h->∃o vs,h.get? i1=some o/\o.data= .fields vs
 f2:∀k h,S2 k h->∃o vs,h.get? i2=some o/\o.data= .fields vs
 new:∀b∈ [z,TO,i1,i2],g.base.get? b=none/\p.h.get? b=none
structure ZJ(g:Gl)(c:Cx)(z TI TO i1 i2:Addr)(P1 P2:Nat->Value->Prop)(S1 S2:Nat->Heap->Prop)(oJ oK:List Addr)(xs ys:List D)(k:Nat)(q:Snap):Prop where
 XS:jz q.h z TI TO .none false
 ti:IsPair q.h TI (.ref i1) (.ref i2)
 LB:∃a b,Ue c q TO {cls:=.type "tuple",data:=.seq #[a,b]}
 s1:S1 k q.h
 s2:S2 k q.h
 r1:mV g P1 xs q.V q.h
 r2:mV g P2 ys q.V q.h
 nv:∀b∈z::TI::i1::i2::(oJ++oK),¬q.V b/\ ∃o,q.h.get? b=some o
theorem mV.imp(hV:∀a o,¬V a->(∀vs,o.data≠ .fields vs)->h.get? a=some o->¬V' a/\h'.get? a=some o)(x:mV g P ds V h):mV g P ds V' h':=fun j v d a b=>(x j v d a b).rN hV
section
theorem ZJ.moves(K:ZK g c p z TI TO i1 i2 P1 P2 S1 S2 oJ oK xs ys)(j:ZJ g c z TI TO i1 i2 P1 P2 S1 S2 oJ oK xs ys k q)(ok:q.Ok g.base c.envs)(m:af (aK c.envs) q r):ZJ g c z TI TO i1 i2 P1 P2 S1 S2 oJ oK xs ys k r:=by
 have nv (b:Addr) (hb:b∈z::TI::i1::i2::(oJ++oK)) (o:Obj) (e:q.h.get? b=some o):=m.imp ok b o (j.nv b hb).1 e;obtain⟨a,b,op⟩:=j.LB;refine⟨(nv z (.head _) _ j.XS).2,(nv TI (.tail _ (.head _)) _ j.ti).2,⟨a,b,op.moves m⟩,K.d1.frame _ _ _ j.s1 fun b hb o e=>(nv b (.tail _ (.tail _ (.tail _ (.tail _ (iF _ hb))))) o e).2,K.d2.frame _ _ _ j.s2 fun b hb o e=>(nv b (.tail _ (.tail _ (.tail _ (.tail _ (u7 _ hb))))) o e).2,j.r1.imp fun a o n ω e=>m.imp ok a o n e,j.r2.imp fun a o n ω e=>m.imp ok a o n e,fun b hb=>?_⟩;obtain⟨o,e⟩:=(j.nv b hb).2;exact⟨(nv b hb o e).1,o,(nv b hb o e).2⟩
theorem ZJ.zf(j:ZJ g c z TI TO i1 i2 P1 P2 S1 S2 oJ oK xs ys k q):∃o vs,q.h.get? z=some o/\o.data= .fields vs:=⟨_,_,j.XS,rfl⟩
theorem ZJ.alter{st:St}(K:ZK g c p z TI TO i1 i2 P1 P2 S1 S2 oJ oK xs ys)(j:ZJ g c z TI TO i1 i2 P1 P2 S1 S2 oJ oK xs ys k q)(mv:af (aK c.envs) p q)(iv:Inv g (c.at m0) st q s)(hk:∀b o,b≠z->b≠TO->b≠i1->b≠i2->s.heap.get? b=some o->h'.get? b=some o)(J4:∃o,h'.get? TO=some o):
  Inv g (c.at m0) st {q with h:=h'} {s with heap:=h',toks:=tk}/\af (aK c.envs) p {q with h:=h'}:=by
 have off:∀b,b∉ [z,TO,i1,i2]->b≠z/\b≠TO/\b≠i1/\b≠i2:=fun b hb=>by simpa using hb
 refine⟨iv.alter (s':={s with heap:=h',toks:=tk}) (X:=[z,TO,i1,i2]) (fun b o hb e=>let w:=off b hb;hk b o w.1 w.2.1 w.2.2.1 w.2.2.2 (Rw iv.heap e)) (fun b hb=>⟨(K.new b hb).1,?_⟩) rfl rfl,mQ mv (fun b hb=>(K.new b hb).2) (fun b o hb e=>let w:=off b hb;hk b o w.1 w.2.1 w.2.2.1 w.2.2.2 (Rw iv.heap e))⟩;simp only[cL,eF,jr]at hb;refine Bc fun au=>?_;rcases hb with rfl|rfl|rfl|rfl
 ·apply au;exact .inl ⟨(j.nv b (.head _)).1,j.zf⟩
 ·apply au;obtain⟨a,b',op⟩:=j.LB;exact .inr ⟨op.V,op.led,op.de,J4,_,op.at_,fun ω z=>nomatch z⟩
 ·apply au;exact .inl ⟨(j.nv b (.tail _ (.tail _ (.head _)))).1,K.f1 k _ j.s1⟩
 ·apply au;exact .inl ⟨(j.nv b (.tail _ (.tail _ (.tail _ (.head _))))).1,K.f2 k _ j.s2⟩
theorem ZJ.step{g:Gl}{c:Cx}{st:St}{p q:Snap}{s:Shared}{z TI TO i1 i2:Addr}{oJ oK:List Addr}{P1 P2:Nat->Value->Prop}{S1 S2:Nat->Heap->Prop}{xs ys:List D}{k:Nat}(K:ZK g c p z TI TO i1 i2 P1 P2 S1 S2 oJ oK xs ys)(j:ZJ g c z TI TO i1 i2 P1 P2 S1 S2 oJ oK xs ys k q){m0:Str->Option Value}(iv:Inv g (c.at m0) st q s){h':Heap}(hk:∀b o,b≠z->b≠TO->b≠i1->b≠i2->s.heap.get? b=some o->h'.get? b=some o){x y:Value}(J4:IsPair h' TO x y)(s1:S1 (k+1) h')(s2:S2 (k+1) h')(hz:jz h' z TI TO .none false):
  ZJ g c z TI TO i1 i2 P1 P2 S1 S2 oJ oK xs ys (k+1) {q with h:=h'}:=by
 obtain⟨a,b,op⟩:=j.LB
 haveI kp:∀b o,¬q.V b->(∀vs,o.data≠ .fields vs)->q.h.get? b=some o->¬q.V b/\h'.get? b=some o:=fun b o nv nf e=>by
  refine⟨nv,hk b o (fun z=>?_) (fun z=>nv (z▸op.V)) (fun z=>?_) (fun z=>?_) (Rw iv.heap e)⟩
  ·obtain⟨o',vs,e1,e2⟩:=j.zf;rw[z,e1]at e;cases e;exact nf _ e2
  ·obtain⟨o',vs,e1,e2⟩:=K.f1 k _ j.s1;rw[z,e1]at e;cases e;exact nf _ e2
  ·obtain⟨o',vs,e1,e2⟩:=K.f2 k _ j.s2;rw[z,e1]at e;cases e;exact nf _ e2
 refine⟨hz,hk _ _ K.ap.TIz K.ap.TITO K.ap.TIi1 K.ap.TIi2 (Rw iv.heap j.ti),⟨x,y,op.V,op.led,op.de,J4⟩,s1,s2,j.r1.imp kp,j.r2.imp kp,fun b hb=>⟨(j.nv b hb).1,?_⟩⟩;obtain⟨o,e⟩:=(j.nv b hb).2;by_cases h1:b=z
 ·exact⟨_,h1▸hz⟩
 by_cases h2:b=TO
 ·exact⟨_,h2▸J4⟩
 by_cases h3:b=i1
 ·obtain⟨o,_,e,_⟩:=K.f1 _ _ s1;exact⟨o,h3▸e⟩
 by_cases h4:b=i2
 ·obtain⟨o,_,e,_⟩:=K.f2 _ _ s2;exact⟨o,h4▸e⟩
 exact⟨o,hk b o h1 h2 h3 h4 (Rw iv.heap e)⟩
theorem Rm(h:d::items=(kr xs ys).drop k):∃x y,xs[k]?=some x/\ys[k]?=some y/\d= .tuple [x,y]/\items=(kr xs ys).drop (k+1):=by
 refine Bc fun au=>?_
 haveI h0:=by
  haveI:((kr xs ys).drop k)[0]?=some d:=Rl h rfl
  rwa [NM,Oz]at this
 haveI h1:items=(kr xs ys).drop (k+1):=by
  haveI:((kr xs ys).drop k).tail=items:=Rl h rfl
  exact this.symm.trans Oa
 unfold kr at h0;rw[List.getElem?_zipWith_eq_some]at h0;obtain⟨x,y,xQ⟩:=h0;exact au ⟨x,y,xQ.1,xQ.2.1,xQ.2.2.symm,h1⟩
theorem Ih(h:[]=(kr xs ys).drop k)(h1:k<=xs.length)(h2:k<=ys.length):k=xs.length\/(k<xs.length/\k=ys.length):=by
 haveI:((kr xs ys).drop k).length=0:=bz _ h.symm
 simp only[tg,kr,List.length_zipWith]at this;exact(Nat.lt_or_eq_of_le h1).elim (fun z=>.inr ⟨z,xk h2 (kl fun y=>absurd (Nat.lt_min.mpr ⟨z,y⟩) (mh.mpr (Bn this)))⟩) .inl
theorem uO{l:List D}(h:l[i]?=some d):i<l.length:=(wZ.mp h).1
theorem Ii{g:Gl}{c:Cx}{p:Snap}{z TI TO i1 i2:Addr}{oJ oK:List Addr}{P1 P2:Nat->Value->Prop}{S1 S2:Nat->Heap->Prop}{xs ys:List D}(K:ZK g c p z TI TO i1 i2 P1 P2 S1 S2 oJ oK xs ys)(es:List Expr)(u:Nat)(ps:Pos):Ax g c p (.Tuple es u ps) z fun items q=>∃k,items=(kr xs ys).drop k/\k<=xs.length/\k<=ys.length/\ZJ g c z TI TO i1 i2 P1 P2 S1 S2 oJ oK xs ys k q where
 done:=fun{st q s m0} Q E j mv iv h=>by
  obtain⟨k,hd,l1,l2,j⟩:=j;have hk:=Ih hd l1 l2;have TY:=iv;obtain⟨a,b,op⟩:=j.LB
  have fin:∀h' tk e,(∀c o,c≠z->c≠TO->c≠i1->c≠i2->s.heap.get? c=some o->h'.get? c=some o)->(∃o,h'.get? TO=some o)->(∃o,h'.get? e=some o/\o.cls= .type "StopIteration")->∃o a,Value.ref e= .ref a/\({s with heap:=h',toks:=tk}:Shared).heap.get? a=some o/\o.cls= .type "StopIteration" /\Q none {s with heap:=h',toks:=tk}:=fun h' tk e hk J4 he=>by
   refine Bc fun au=>?_;obtain⟨o,h1,h2⟩:=he;obtain⟨i2,m2⟩:=ZJ.alter (tk:=tk) K j mv iv hk J4;exact au ⟨o,e,rfl,h1,h2,h _ _ i2 m2⟩
  have s1:S1 k s.heap:=Rw iv.heap j.s1;have s2:S2 k s.heap:=Rw iv.heap j.s2;have ti:IsPair s.heap TI (.ref i1) (.ref i2):=Rw iv.heap j.ti;have J4:IsPair s.heap TO a b:=Rw iv.heap op.at_
  haveI hz:jz s.heap z TI TO .none false:=Rw iv.heap j.XS
  exact yL hz (vZ K.d1 K.d2 K.ap hz ti J4 s1 s2 hk fin)
 item:=fun{d items st q s m0} Q E j mv iv h=>by
  refine Bc fun au=>?_;obtain⟨k,hd,l1,l2,j⟩:=j;obtain⟨x,y,e1,e2,rfl,hd'⟩:=Rm hd;have l1:=uO e1;have l2:=uO e2;obtain⟨a,b,op⟩:=j.LB;have s1:S1 k s.heap:=Rw iv.heap j.s1;have s2:S2 k s.heap:=Rw iv.heap j.s2;have ti:IsPair s.heap TI (.ref i1) (.ref i2):=Rw iv.heap j.ti;have J4:IsPair s.heap TO a b:=Rw iv.heap op.at_
  have nT:∀T,s.heap.get? T=none->¬q.V T:=fun T hT v=>by
   obtain⟨o,e⟩:=iv.ok.all T v;exact Ns hT (iv.heap.symm▸e)
  haveI hz:jz s.heap z TI TO .none false:=Rw iv.heap j.XS
  refine au ?_;refine yL hz (bA (Ib (Q:=fun v s1=>∃v',some v=some v'/\wpAny g.M c.A (letOwnedTupleGo (.Tuple es u ps) (.ref z) v') (fun ω s2=>Q v' s2) E s1) K.d1 K.d2 K.ap hz ti J4 s1 s2 l1 l2 fun vx vy h' tk T px py hz' V9 XA s2' hT hn hk=>⟨_,rfl,?_⟩) (fun ω ω z=>z) fun ω ω z=>z);refine wpAny_letOwnedTupleGo_zip (s:={s with heap:=h',toks:=tk}) hz' fun h2 Vw D6=>?_;replace D6:Heap.SameBut z h' h2:=D6;obtain⟨i2,m2⟩:=ZJ.alter (tk:=tk) K j mv iv (fun c o c1 c2 c3 c4 e=>D6.extBut _ _ c1 (hk c o c1 c2 c3 c4 e)) ⟨_,D6.extBut _ _ K.ap.TOz V9⟩
  haveI j2:=ZJ.step K j iv (fun c o c1 c2 c3 c4 e=>D6.extBut _ _ c1 (hk c o c1 c2 c3 c4 e)) (D6.extBut _ _ K.ap.TOz V9) (bK K.d1 K.ap.f1.1 D6 XA) (bK K.d2 K.ap.f2.1 D6 s2') Vw
  exact h _ _ _ i2 m2 (aU.tuple (nT T hn) ⟨0,D6.extBut _ _ (fun e=>Ns hn (e▸hz)) hT⟩ (.cons (j2.r1 k vx x px e1) (.cons (j2.r2 k vy y py e2) .nil))) ⟨k+1,hd',l1,l2,j2⟩
 move:=fun{items q r} j XJ XC m=>by
  letI k:=Ce j
  haveI LC:=(Cs j)
  haveI hd:=LC.1
  haveI l1:=LC.2.1
  haveI l2:=LC.2.2.1
  haveI j:=LC.2.2.2
  exact⟨k,hd,l1,l2,j.moves K XJ m⟩
end
end
noncomputable def CF(l:Addr):Obj:={cls:=.type "list_iterator",data:=.fields #[.ref l,.int 0 0]}
noncomputable def PA(a b:Value):Obj:={cls:=.type "tuple",data:=.seq #[a,b]}
def XT(o1:Obj)(h:Heap)(l2:Addr):Heap:=(h.push o1).push (CF l2)
def XU(o1:Obj)(h:Heap)(l2:Addr):Heap:=(XT o1 h l2).push (PA (.ref h.objs.size) (.ref (h.push o1).objs.size))
def zhC(o1:Obj)(h:Heap)(l2:Addr):Heap:=(XU o1 h l2).push (PA .none .none)
def zhD(o1:Obj)(h:Heap)(l2:Addr):Heap:=(zhC o1 h l2).push {cls:=.type "zip",data:=.fields #[.none,.bool false,.bool false,.ref (XT o1 h l2).objs.size,.ref (XU o1 h l2).objs.size]}
theorem v7(a b):Builtin.SmallTypes.newClass "zip" ⟨[.type "zip",a,b],[]⟩=pure (.type "zip",[a,b]):=by
 dsimp only[Builtin.SmallTypes.newClass];simp only[isType,PySem.sub_zip,pure_bind,Bool.not_true,iw,eH]
def AM(v:Value)(o:Obj)(s:Shared):Prop:=∀(prog:Program) (w:World) (A:Around) (E Q:Value->Shared->Prop),Q (.ref s.heap.objs.size) {s with heap:=s.heap.push o}->wpAny (model prog w) A (pyIter v) Q E s
theorem AO(v1)(o1)(l2)(ys):
  Meets (Builtin.«zip.__new__» ⟨[.type "zip",v1,.ref l2],[]⟩) (fun ω R s=>AM v1 o1 s/\s.heap.IsList l2 ys/\
   R (.ok (.ret (.ref (zhC o1 s.heap l2).objs.size))) {s with heap:=zhD o1 s.heap l2}):=
 .of_wp fun prog w A R s h=>by
  haveI h1:=h.1
  haveI nQ:=h.2.1
  haveI h:=h.2.2
  refine aF (wpAny_of_eq (v7 _ _) ?_);apply aF;refine aF (aF (aF (ix (h1 _ _ _ _ _ (bY ?_)))));refine aF (aF (ix (Bz (nQ.push o1) (bY (bY (bY ?_))))))
  haveI two:(2:Nat)<=sizeLine:=by rw[kq];decide
  refine aF (BJ (aF (BJ (aF ?_) two)) two);show wpAny _ _ (newObj (.type "zip") (.fields #[.none,.bool false,.bool false,.ref (XT o1 s.heap l2).objs.size,.ref (XU o1 s.heap l2).objs.size])) _ _ _;refine rx (bY ?_);exact⟨_,rfl,h⟩
structure Ij(h h':Heap)(o1:Obj)(l2 z TI TO i1 i2:Addr):Prop where
 zip:h'.get? z=some {cls:=.type "zip",dict:=none,data:=.fields #[.none,.bool false,.bool false,.ref TI,.ref TO],slots:=#[]}
 ti:IsPair h' TI (.ref i1) (.ref i2)
 LB:IsPair h' TO .none .none
 i1_:h'.get? i1=some o1
 i2_:h'.get? i2=some (CF l2)
 kp:∀c o,h.get? c=some o->h'.get? c=some o
 at_:i1=h.objs.size/\i2=h.objs.size+1/\TI=h.objs.size+2/\TO=h.objs.size+3/\z=h.objs.size+4
section
theorem D7(h1:AM v1 o1 s)(hf:o1.isFreed=false)(nQ:s.heap.IsList l2 ys)(h:∀h' z TI TO i1 i2,Ij s.heap h' o1 l2 z TI TO i1 i2->Q (.ref z) {s with heap:=h'}):wpAny (model prog w) A (call (.type "zip") [v1,.ref l2]) Q E s:=by
 refine callType_new PySem.F.called_zip (rfl) (PySem.F.typeCall_zip_2 _ _) (PySem.F.newCall_zip_2 _ _) (fun obj=>PySem.F.args_object_init_3 obj _ _) PySem.F.entry_zip_new (AO v1 o1 l2 ys) ⟨h1,nQ,?_⟩
 haveI z1:(s.heap.push o1).objs.size=s.heap.objs.size+1:=t9 ..
 have z2:(XT o1 s.heap l2).objs.size=s.heap.objs.size+2:=Rw (t9 ..) (Rw z1 rfl)
 haveI z3:(XU o1 s.heap l2).objs.size=s.heap.objs.size+3:=Rw (t9 ..) (Rw z2 rfl)
 refine⟨⟨_,(fX _ rfl),rfl⟩,h _ _ _ _ _ _ ⟨(fX _ rfl),?_,?_,?_,?_,fun c o x=>?_,rfl,z1,z2,z3,(Rw (t9 ..) (Rw z3 rfl))⟩⟩
 ·exact il _ (il _ (fX _ rfl))
 ·exact il _ (fX _ rfl)
 ·exact il _ (il _ (il _ (il _ (fX _ hf))))
 ·exact il _ (il _ (il _ (fX _ rfl)))
 ·exact il _ (il _ (il _ (il _ (il _ x))))
end
structure SrcAt(g:Gl)(A:Around)(q:Snap)(ds:List D)(v:Value)(o:Obj)(src:List Addr)(P:Nat->Value->Prop)(S:Addr->Nat->Heap->Prop):Prop where
 start:∀s:Shared,s.heap=q.h->AM v o s
 nf:o.isFreed=false
 draws:∀I,(∀b∈src,b≠I)->Draws g.prog g.w A.in1 I (I::src) ds.length P (S I)
 gW:∀I k h,S I k h->∃o vs,h.get? I=some o/\o.data= .fields vs
 rep:mV g P ds q.V q.h
 old:∀b∈src,¬q.V b/\ ∃o,q.h.get? b=some o
 mK:∀I h,h.get? I=some o->(∀b o,q.h.get? b=some o->h.get? b=some o)->S I 0 h
noncomputable def aa5(x:Str)(t:Tok):Obj:={cls:=.type (strIterType x),data:=.fields #[.str x t,.int 0 0]}
section
theorem src_list(hh:A.handled=none)(nv:¬q.V l)(pl:q.h.PlainList l vs)(hr:ak g.w q.V q.h vs.toList ds):SrcAt g A q ds (.ref l) (CF l) [l] (fun i v=>vs[i]?=some v) (fun I k h=>h.IsListIter I l k/\h.IsList l vs):=by
 haveI hz:vs.size=ds.length:=Rl hr.length (Rw gT rfl)
 refine⟨fun s hs prog w A E Q h=>Bz (Rw hs pl.isList) h,rfl,fun I hI=>?_,fun I k h x=>?_,fun j x d hx hd=>?_,fun b hb=>?_,fun I h e k=>⟨⟨_,e,rfl,rfl⟩,?_⟩⟩
 ·exact Rl hz (Draws.list (A:=A.in1) hh I l (hI l (.head _)) vs)
 ·obtain⟨⟨o,e1,e2,e3⟩,_⟩:=x;exact⟨o,_,e1,e3⟩
 ·obtain⟨u,e1,r⟩:=hr.get hd;exact dS (hx▸tf▸e1)▸r
 ·obtain⟨k,e⟩:=pl;exact Rw (dp.mp hb) ⟨nv,_,e⟩
 ·exact Heap.IsList.at pl.isList fun o e=>k _ o e
theorem D8(hh:A.handled=none)(I)(x)(t):Draws prog w A I [I] x.cps.size (fun i v=>∃c u,x.cps[i]?=some c/\v= .str ⟨#[c]⟩ u) (fun i h=>h.IsStrIter I (strIterType x) x t i):=by
 unfold strIterType;cases x.cps.all (· <128)
 ·exact Draws.strWide hh I x t
 ·exact Draws.strAscii hh I x t
theorem LD(hh:A.handled=none)(x)(t):SrcAt g A q (x.cps.toList.map fun c=>.str ⟨#[c]⟩) (.str x t) (aa5 x t) [] (fun i v=>∃c u,x.cps[i]?=some c/\v= .str ⟨#[c]⟩ u) (fun I k h=>h.IsStrIter I (strIterType x) x t k):=by
 refine⟨fun s hs prog w A E Q h=>Oq h,rfl,fun I hI=>?_,fun I k h z=>?_,fun j v d hx hd=>?_,(fun ω z=>nomatch z),fun I h e k=>⟨_,e,rfl,rfl⟩⟩
 ·simp only[cn,gT];exact D8 (A:=A.in1) hh I x t
 ·letI o:=Ce z
  haveI TU:=(Cs z)
  haveI e1:=TU.1
  haveI e3:=TU.2.2
  exact⟨o,_,e1,e3⟩
 ·obtain⟨k,u,e1,rfl⟩:=hx;rw[jK,tf,e1]at hd;exact dS hd▸aU.str _ _
theorem Ik(h:xr x y=some ds):∃xs ys,y= .list ys/\Gh x=some xs/\kr xs ys=ds:=by
 induction y using PyData.casesOn with
 |list ys=>obtain⟨xs,e1,e2⟩:=iu.mp h;exact⟨xs,ys,rfl,e1,e2⟩
 |_=>exact ax h
theorem Rn(hh:A.handled=none)(hv:aU g.w q.V q.h v d)(hd:Gh d=some ds):∃o src P S,SrcAt g A q ds v o src P S:=by
 induction d using PyData.casesOn with
 |list xs=>cases hd;obtain⟨a,vs,rfl,nv,pl,r⟩:=hv.cD;exact⟨_,_,_,_,src_list hh nv pl r⟩
 |str x=>cases hd;obtain⟨t,rfl⟩:=hv.str_inv;exact⟨_,_,_,_,LD hh x t⟩
 |_=>exact ax hd
theorem SrcAt.moves(x:SrcAt g A q ds v o src P S)(hV:∀a o,¬q.V a->q.h.get? a=some o->¬V' a/\h'.get? a=some o):mV g P ds V' h'/\ ∀b∈src,¬V' b/\ ∃o,h'.get? b=some o:=
 ⟨x.rep.imp fun a o n ω e=>hV a o n e,fun b hb=>(x.old b hb).elim fun n zL=>zL.elim fun o e=>⟨(hV b o n e).1,o,(hV b o n e).2⟩⟩
theorem uP{st:St}(i2:Inv g c st q s)(mp:af (aK c.envs) p q)(gH:p.Ok g.base c.envs)(A1:SrcAt g c.A q xs v1 o1 Ro P1 T1)(A2:SrcAt g c.A q ys v2 (CF l2) Hd P2 T2)(N:Ij s.heap h' o1 l2 z TI TO i1 LF):
  ∃q3,Inv g c st q3 {s with heap:=h'}/\af (aK c.envs) p q3/\ZK g c p z TI TO i1 LF P1 P2 (T1 i1) (T2 LF) (i1::Ro) (LF::Hd) xs ys/\ZJ g c z TI TO i1 LF P1 P2 (T1 i1) (T2 LF) (i1::Ro) (LF::Hd) xs ys 0 q3:=by
 have Ug:=fun b o e=>N.kp b o (Rw i2.heap e)
 have new:∀b:Nat,s.heap.objs.size<=b->q.h.get? b=none:=fun b hb=>by
  generalize e:q.h.get? b=zV
  induction zV using Oc with
  |none=>rfl
  |some o=>replace e:=(i2.heap).symm▸e;exact((mh.mpr hb) (fk e)).elim
 obtain⟨zip,ti,LB,hi1,QH,kp,e1,e2,e3,e4,e5⟩:=N
 haveI e3:=e3
 have nV:∀b,q.h.get? b=none->¬q.V b:=fun b hb v=>by obtain⟨o,e⟩:=i2.ok.all b v;exact Ns hb e
 have nz:=new z (Ng e5)
 haveI nTI:=new TI (Ng e3)
 have Rp:=new TO (Ng e4);have n1:=new i1 (dN e1.symm);have n2:=new LF (Ng e2);obtain⟨i3,m3⟩:=Inv.quiet (V:=fun a=>q.V a\/a=TO) (s':={s with heap:=h'}) (wr:=[]) i2.ok (af.refl _ _) (fun ω z=>nomatch z) i2 ⟨fun b o e ω ω=>Ug b o e,fun b o e ω=>⟨o.slots,Ug b o e⟩,fun a v=>v.elim .inl fun z=>.inr (z▸Rp),fun a v=>.inl v,fun a v=>v.elim (fun v=>(i2.ok.all a v).elim fun o e=>⟨o,Ug a o e⟩) fun z=>⟨_,z▸LB⟩⟩ rfl rfl (i2.grow (s':={s with heap:=h'}) ⟨h',s.toks,rfl,kp⟩).1.ok.f9;have im:∀a o,¬q.V a->q.h.get? a=some o->¬(q.V a\/a=TO)/\h'.get? a=some o:=fun a o n e=>⟨fun z=>z.elim n (fun z=>Ns Rp (z▸e)),Ug a o e⟩;have r1:=(A1.moves im).1;have u1:=(A1.moves im).2
 have off:∀{src:List Addr},(∀b∈src,¬q.V b/\ ∃o,q.h.get? b=some o)->∀a,q.h.get? a=none->∀b∈src,b≠a:=fun h a ha b hb z=>by
  obtain⟨_,o,e⟩:=h b hb;exact Ns ha (z▸e)
 haveI Uh:∀{src:List Addr} {i a:Addr},(∀b∈src,¬q.V b/\ ∃o,q.h.get? b=some o)->q.h.get? a=none->a≠i->a∉i::src:=fun h ha hi hm=>by
  rcases cL.mp hm with z|z
  ·exact hi z
  ·exact off h _ ha _ z rfl
 refine⟨_,i3,mp.trans gH m3,⟨⟨(No e3 e5 rfl),(No e4 e5 rfl),(No (i:=0) e1 e5 rfl),(No e2 e5 rfl),(No e3 e4 rfl),(No (j:=0) e3 e1 rfl),(No e3 e2 rfl),(No (j:=0) e4 e1 rfl),(No e4 e2 rfl),(No (i:=0) e1 e2 rfl),⟨Uh A1.old nz (No (j:=0) e5 e1 rfl),Uh A1.old Rp (No (j:=0) e4 e1 rfl),Uh A1.old n2 (No (j:=0) e2 e1 rfl)⟩,⟨Uh A2.old nz (No e5 e2 rfl),Uh A2.old Rp (No e4 e2 rfl),Uh A2.old n1 (No (i:=0) e1 e2 rfl)⟩⟩,A1.draws i1 (off A1.old _ n1),A2.draws LF (off A2.old _ n2),A1.gW i1,A2.gW LF,fun b hb=>?_⟩,
  ⟨zip,ti,⟨.none,.none,.inr rfl,?_,fun w=>nV _ Rp (i2.ok.de _ w),LB⟩,A1.mK _ _ hi1 Ug,A2.mK _ _ QH Ug,r1,(A2.moves im).1,fun b hb=>?_⟩⟩
 ·have hb':q.h.get? b=none:=by
   simp only[cL,eF,jr]at hb;rcases hb with rfl|rfl|rfl|rfl
   ·exact nz
   ·exact Rp
   ·exact n1
   ·exact n2
  refine⟨?_,mp.back hb'⟩;generalize e:g.base.get? b=zV
  induction zV using Oc with
  |none=>rfl
  |some o=>exact Ns hb' (i2.ok.stays b o e)
 ·generalize w:q.led TO=zV
  induction zV using Oc with
  |none=>rfl
  |some cl=>exact absurd (i2.ok.led _ _ w).1 (nV _ Rp)
 ·have nw:∀{a:Addr} {o:Obj},q.h.get? a=none->a≠TO->h'.get? a=some o->¬(q.V a\/a=TO)/\ ∃o,h'.get? a=some o:=fun h1 h2 e=>⟨fun z=>z.elim (nV _ h1) h2,_,e⟩;simp only[cL,cG]at hb;refine Bc fun au=>?_;rcases hb with rfl|rfl|rfl|rfl|(rfl|hb)|(rfl|hb)
  ·exact au (nw nz (by show @Ne Nat _ _;exact No e5 e4 rfl) zip)
  ·exact au (nw nTI (by show @Ne Nat _ _;exact No e3 e4 rfl) ti)
  ·exact au (nw n1 (by show @Ne Nat _ _;exact No (i:=0) e1 e4 rfl) hi1)
  ·exact au (nw n2 (by show @Ne Nat _ _;exact No e2 e4 rfl) QH)
  ·exact au (nw n1 (by show @Ne Nat _ _;exact No (i:=0) e1 e4 rfl) hi1)
  ·exact au (u1 b hb)
  ·exact au (nw n2 (by show @Ne Nat _ _;exact No e2 e4 rfl) QH)
  ·exact au ((A2.moves im).2 b hb)
theorem Il{g:Gl}{fA:Nat->Option Addr}{ks:List (Nat×NameKind)}{n:Nat}{c:Cx}{cf:Call}(go:g.Ok fA)(co:c.Ok g ks n)(hc:c.comp=false){ts:List MT}{kt:Nat}{pt:Pos}{a b:ME}{np pz pos:Pos}{body:List Stmt}{P:dH}{f:St->Res dJ}(hok:ET ks (.tup ts kt pt)=true)(hk:look 8 ks=some .globalImplicit)(ha:aA g c (aB g.nm a) (ev P cf a))(hB:aA g c (aB g.nm b) (ev P cf b))(hb:∀m,rY g (c.at m) body f):
  gf g c (.For (toT g.nm (.tup ts kt pt)) (aB g.nm (.pU .zip [a,b] np pz)) body [] pos) fun st=>((ev P cf (.pU .zip [a,b] np pz)).it st).bind fun r st=>if r.2 then bx st.objs (aO (.tup ts kt pt) f r.1 {st with objs:=hidden st.objs})else aO (.tup ts kt pt) f r.1 st:=by
 intro st p s iv eT;revert eT;show(((ev P cf a).dat st).bind fun x st=>((ev P cf b).dat st).bind fun y st=>opt ((xr x y).map (·,false)) st).bind (fun r st=>if r.2 then bx st.objs (aO (.tup ts kt pt) f r.1 {st with objs:=hidden st.objs})else aO (.tup ts kt pt) f r.1 st)≠ .bad->wpAny g.M c.A _ (Cm g c p _ ((((ev P cf a).dat st).bind fun x st=>((ev P cf b).dat st).bind fun y st=>opt ((xr x y).map (·,false)) st).bind (fun r st=>if r.2 then bx st.objs (aO (.tup ts kt pt) f r.1 {st with objs:=hidden st.objs})else aO (.tup ts kt pt) f r.1 st))) (rW g c p ((((ev P cf a).dat st).bind fun x st=>((ev P cf b).dat st).bind fun y st=>opt ((xr x y).map (·,false)) st).bind (fun r st=>if r.2 then bx st.objs (aO (.tup ts kt pt) f r.1 {st with objs:=hidden st.objs})else aO (.tup ts kt pt) f r.1 st))) s;generalize hw:(((ev P cf a).dat st).bind fun x st=>((ev P cf b).dat st).bind fun y st=>opt ((xr x y).map (·,false)) st).bind (fun r st=>if r.2 then bx st.objs (aO (.tup ts kt pt) f r.1 {st with objs:=hidden st.objs})else aO (.tup ts kt pt) f r.1 st)=whole;intro eT;refine wpAny_For (gK go co (b:=.zip) (args:=[a,b]) hk iv (Cr (iQ (ha.val.dat st p s iv (ah (ah (hw▸eT)))) iv.ok (af.refl _ _) (fun x aE e=>hw▸ar (ar e)) fun x st1 q1 s1 v1 e1 m1 ω i1 r1=>?_))) (fun x=>lH g.nm (.pU .zip [a,b] np pz) c.env x);replace hw:=(aa e1)▸hw;refine iQ (hB.val.dat st1 q1 s1 i1 (ah (ah (hw▸eT)))) iv.ok m1 (fun x aE e=>hw▸ar (ar e)) fun y st2 q2 s2 v2 e2 m2 qQ i2 r2=>?_;refine Bc fun au=>?_;rw[aa e2]at hw;generalize hz:xr x y=zV
 induction zV using Oc with
 |none=>rw[hz]at hw;exact absurd hw.symm eT
 |some ds=>
  rw[hz]at hw;obtain⟨xs,ys,rfl,hx,rfl⟩:=Ik hz;obtain⟨o1,Ro,P1,T1,A1⟩:=Rn (A:=c.A) co.handled (qQ.rep i1.ok r1) hx;obtain⟨l2,vs,rfl,nv,pl,hr⟩:=r2.cD;refine au ?_;refine D7 (A1.start s2 i2.heap) A1.nf (Rw i2.heap pl.isList) fun h' z TI TO j1 j2 N=>?_
  letI q3:=Ce (uP i2 m2 iv.ok A1 (src_list (A:=c.A) co.handled nv pl hr) N)
  haveI o7:=(Cs (uP i2 m2 iv.ok A1 (src_list (A:=c.A) co.handled nv pl hr) N))
  haveI i3:=o7.1
  haveI m3:=o7.2.1
  haveI K:=o7.2.2.1
  haveI j:=o7.2.2.2
  apply wpAny_pyIter_zip N.zip;refine vP (t:=.tup ts kt pt) (p:=p) go co hc (Ii K _ _ _) hok hb iv.ok (W:=whole) eT ?_ ?_ (kr xs ys) st2 q3 {s2 with heap:=h'} c.m hw m3 i3 ⟨0,rfl,ft _,ft _,j⟩
  ·intro fl a aE q' s' mm e m i rr _;exact⟨mm,a,aE,q',e,m,i,rr⟩
  ·intro e x aE q' s' mm ee m i ex sn;exact vO (c:=c.at mm) iv.ok m i ex sn fun q2 s3 m3 i3 x3=>⟨mm,x,aE,q2,ee,m3,i3,x3⟩
end
section
theorem yM(go:g.Ok fA)(co:c.Ok g ks n)(h9:look 9 ks=some .globalImplicit)(h10:look 10 ks=some .globalImplicit)(h:aA g c (aB g.nm e) (ev P cf e)):
  Dx g c (aB g.nm (.iG e np p1 Xq pos)) fun st=>((ev P cf e).dat st).bind fun d st=>if vp d then .ok false st else .bad:=by
 intro st p s iv hb;refine NW (op:=.IsNot) (BW rfl (jo (eP co ((co.kindOf go.inj ..).trans (h9 ..)) (Rw iv.heap iv.ok.stays) go.ty.1 go.ty.2 (Nq (plain_any g.nm c.env p1 [e]) (iP [e] (iT (step (h.val.dat st p s iv (ah hb)) iv.ok (af.refl _ _) (fun x aE e=>ar e) fun d st1 q1 s1 v e1 m1 ω i1 r1=>?_))))) (go.o4 _))) rfl
 induction d using PyData.casesOn with
 |bool b=>
  refine Rw r1.bool_inv ?_;refine call_type_of (Tx:="bool") rfl rfl (jo (eP co ((co.kindOf go.inj ..).trans (h10 ..)) (Rw i1.heap i1.ok.stays) go.bo.1 go.bo.2 (Ot rfl (xi ?_))) (go.o4 _));exact⟨false,st1,q1,(aa e1).trans rfl,m1,i1,rfl⟩
 |_=>exact absurd rfl (fun z=>hb ((aa e1).trans z))
end
def qm(ks:List (Nat×NameKind))(x:Nat):Bool:=decide (look x ks=some .globalImplicit)
def Rq(ks ks':List (Nat×NameKind))(t:MT):Bool:=
 ks'.all (fun x=>decide (x.2= .free->look x.1 ks=some .cell))&&ks'.all (fun x=>decide (x.2≠ .cell))&&ks'.all (fun x=>decide (x.2= .local->look x.1 ks'=some .local))&&Ad (bN ks') t
theorem v9(h:Rq ks ks' t=true):yc ks ks' t:=by
 simp only[Rq,dg,jL,iZ]at h;exact⟨h.1.1.1,h.1.1.2,h.1.2,h.2⟩
noncomputable def yN:List ME->Bool
 | [_]=>true
 |_=>false
theorem ic(h:yN l=true):∃e,l= [e]:=by
 rcases l with _|⟨e,_|_⟩
 ·exact absurd h cO
 ·exact⟨e,rfl⟩
 ·exact absurd h cO
def LG(l:List ME):Bool:=match l with
 |_::r=>yN r
 |_=>false
theorem su(h:LG l=true):∃a b,l= [a,b]:=by
 rcases l with _|⟨a,r⟩
 ·exact absurd h cO
 ·obtain⟨b,rfl⟩:=ic h;exact⟨a,b,rfl⟩
noncomputable def aa6:BF->Bool
 |.sorted=>true
 |_=>false
def Wa(b:BF)(l:List ME):Bool:=match b with
 |.len=>yN l
 |.list=>yN l&&!shape l
 |.sum=>yN l
 |.min=>LG l
 |.max=>LG l
 |.sorted=>yN l&&!shape l
 |.dict=>yN l
 |.range=>yN l
 |.zip=>false
mutual
noncomputable def gQ(P:dH)(ks:List (Nat×NameKind))(comp:Bool):ME->Bool
 |.i9 ..=>true
 |.oL ..=>true
 |.mj ..=>true
 |.jt ..=>true
 |.neg e _=>gQ P ks comp e
 |.not e _=>gQ P ks comp e
 |.loc x _=>!comp&&decide (look x ks=some .local)
 |.aW x _=>decide (look x ks=some .cell)
 |.cmp x _=>comp&&decide (look x ks=some .local)
 |.oM x _=>qm ks x
 |.bin _ l r _=>gQ P ks comp l&&gQ P ks comp r
 |.rel _ l r _=>gQ P ks comp l&&gQ P ks comp r
 |.zR _ _ a b c _=>gQ P ks comp a&&gQ P ks comp b&&gQ P ks comp c
 |.bool _ es _=>l6 P ks comp es
 |.ite t a b _=>gQ P ks comp t&&gQ P ks comp a&&gQ P ks comp b
 |.sub o i _=>nN ks comp i&&gQ P ks comp o&&gQ P ks comp i
 |.PY o lo hi _ _=>gQ P ks comp o&&okO P ks comp lo&&okO P ks comp hi
 |.attr o _ _=>gy o&&gQ P ks comp o
 |.lst es _=>decide (es.length<=1000)&&l6 P ks comp es
 |.tup es _ _=>decide (es.length<=1000)&&l6 P ks comp es
 |.OT a b _=>decide (a.length=b.length)&&!a.isEmpty&&decide (a.length<=15)&&l6 P ks comp a&&l6 P ks comp b
 |.comp elt g gs ks' _=>gQ P (bN ks') true elt&&okG P ks comp ks' g&&aa7 P ks' gs
 |.call f args _ _=>(P.fn f).isSome&&decide (f<1000)&&qm ks f&&l6 P ks comp args
 |.new c args _ _=>(match P.init c with|some f=>(P.fn f).isSome|none=>false)&&qm ks c&&l6 P ks comp args
 |.pU b args _ _=>qm ks (oP b)&&((Wa b args&&l6 P ks comp args)||(aa6 b&&Wb P ks comp args))
 |.gv o _ args ap p=>gy o&&decide (ap.endLine=p.line)&&decide (args.length<30)&&gQ P ks comp o&&l6 P ks comp args
 |.items ..=>false
 |.iG e _ _ _ _=>qm ks 9&&qm ks 10&&gQ P ks comp e
noncomputable def l6(P:dH)(ks:List (Nat×NameKind))(comp:Bool):List ME->Bool
 | []=>true
 |e::es=>gQ P ks comp e&&l6 P ks comp es
noncomputable def Wb(P:dH)(ks:List (Nat×NameKind))(comp:Bool):List ME->Bool
 | []=>false
 |e::es=>es.isEmpty&&okI P ks comp e
noncomputable def okI(P:dH)(ks:List (Nat×NameKind))(comp:Bool):ME->Bool
 |.items o ap p=>gy o&&decide (ap.endLine=p.line)&&gQ P ks comp o
 |_=>false
noncomputable def okO(P:dH)(ks:List (Nat×NameKind))(comp:Bool):Option ME->Bool
 |none=>true
 |some e=>gQ P ks comp e
noncomputable def okG(P:dH)(ks:List (Nat×NameKind))(comp:Bool)(ks':List (Nat×NameKind)):MG->Bool
 |.mk t it ifs=>Rq ks ks' t&&gQ P ks comp it&&l6 P (bN ks') true ifs
noncomputable def aa7(P:dH)(ks':List (Nat×NameKind)):List MG->Bool
 | []=>true
 |g::gs=>gs.isEmpty&&aa8 P ks' g
noncomputable def aa8(P:dH)(ks':List (Nat×NameKind)):MG->Bool
 |.mk t it ifs=>Ad (bN ks') t&&gQ P (bN ks') true it&&l6 P (bN ks') true ifs
end
def Wc(P:dH)(ks:List (Nat×NameKind))(o e:ME):Bool:=match o with
 |.loc y _=>decide (look y ks=some .local)&&gQ P ks false e
 |_=>false
inductive AtV(ks:List (Nat×NameKind)):ME->Prop
 |mk(y p)(h:look y ks=some .local):AtV ks (.loc y p)
theorem Im(h:Wc P ks o e=true):AtV ks o/\gQ P ks false e=true:=by
 induction o using ME.casesOn with
 |loc y p=>have h:=fW.mp h;exact⟨.mk y p (bR h.1),h.2⟩
 |_=>exact absurd h cO
noncomputable def XV:List MT->List (Nat×Pos)
 |.loc x p::r=>(x,p)::XV r
 |_=>[]
theorem Io:∀xs:List (Nat×Pos),XV (xs.map lT)=xs
 | []=>rfl
 |_::xs=>bz (_:: ·) (Io xs)
def Wd(P:dH)(ks:List (Nat×NameKind))(t:MT)(ts:List MT)(e:ME):Bool:=match e with
 |.tup es _ _=>decide (es.length<=1000)&&l6 P ks false es&&(bif ts.all fF then D4 ks (XV ts) es else ET ks t)
 |_=>ET ks t&&!fK e&&gQ P ks false e
inductive TAV(P:dH)(ks:List (Nat×NameKind))(t:MT)(ts:List MT):ME->Prop
 |tup(es k p)(h:gQ P ks false (.tup es k p)=true)(h2:(bif ts.all fF then D4 ks (XV ts) es else ET ks t)=true):TAV P ks t ts (.tup es k p)
 |no(e)(h:Ay e=false)(h1:ET ks t=true)(h2:fK e=false)(h3:gQ P ks false e=true):TAV P ks t ts e
theorem Ip(h:Wd P ks t ts e=true):TAV P ks t ts e:=by
 generalize q:Ay e=zV
 induction zV using Tc with
 |true=>
  induction e using ME.casesOn with
  |tup es k p=>exact .tup es k p (fW.mp h).1 (fW.mp h).2
  |_=>exact absurd q cO
 |false=>
  haveI h:(ET ks t&&!fK e&&gQ P ks false e)=true:=by
   induction e using ME.casesOn with
   |tup es k p=>cases q
   |_=>exact h
  rw[dg,dg,rp]at h;exact .no e q h.1.1 h.1.2 h.2
noncomputable def Rr:ME->Bool
 |.comp _ _ gs _ _=>gs.isEmpty
 |_=>true
def Rt(P:dH)(ks:List (Nat×NameKind))(t:MT)(e:ME):Bool:=match t with
 |.loc x _=>decide (look x ks=some .local)&&Rr e&&gQ P ks false e
 |.aW x _=>decide (look x ks=some .cell)&&!iI e&&gQ P ks false e
 |.attr o _ _=>Rr e&&Wc P ks o e
 |.sub o i _=>HD ks o&&nN ks false i&&!fK e&&gQ P ks false e
 |.tup ts k p=>Wd P ks (.tup ts k p) ts e
 |_=>false
def We(P:dH)(ks:List (Nat×NameKind))(t:MT)(it:ME):Bool:=match it with
 |.pU b l _ _=>(match b with
  |.zip=>(match t with|.tup _ _ _=>LG l&&qm ks 8&&l6 P ks false l|_=>false)
  |_=>gQ P ks false it)
 |_=>gQ P ks false it
inductive Ru(P:dH)(ks:List (Nat×NameKind)):MT->ME->Prop
 |zip(ts k pt a b np p)(h8:look 8 ks=some .globalImplicit)(ha:gQ P ks false a=true)(hb:gQ P ks false b=true):Ru P ks (.tup ts k pt) (.pU .zip [a,b] np p)
 |no(t e)(h:gQ P ks false e=true):Ru P ks t e
theorem Iq{P:dH}{ks:List (Nat×NameKind)}{t:MT}{e:ME}(h:We P ks t e=true):Ru P ks t e:=by
 cases e with
 |pU b l np p=>
  induction b using BF.casesOn with
  |zip=>
   induction t using MT.casesOn with
   |tup ts k pt=>
    have h:=fW.mp h;obtain⟨a,b,rfl⟩:=su (fW.mp h.1).1;exact .zip ts k pt a b np p (bR (fW.mp h.1).2) (fW.mp h.2).1 (fW.mp (fW.mp h.2).2).1
   |_=>exact absurd h cO
  |_=>exact .no _ _ h
 |_=>exact .no _ _ h
mutual
noncomputable def okS(P:dH)(ks:List (Nat×NameKind)):MS->Bool
 |.asg t e _=>Rt P ks t e
 |.app o e ap cp _=>HD ks o&&decide (ap.endLine=cp.line)&&gQ P ks false e
 |.expr e _=>!fK e&&gQ P ks false e
 |.ifs t b o _=>gQ P ks false t&&AP P ks b&&AP P ks o
 |.for t it b _=>ET ks t&&We P ks t it&&AP P ks b
 |.ret e _=>gQ P ks false e
 |.zS _=>true
 |.raise c _ _ _ _ _ _=>qm ks c&&Ub c
 |.eI _=>false
 |.try b hs _=>AP P ks b&&hs.all (Rh ks)&&!hs.isEmpty
 |.cont _=>true
 |.pass _=>true
noncomputable def AP(P:dH)(ks:List (Nat×NameKind)):List MS->Bool
 | []=>true
 |s::ss=>okS P ks s&&AP P ks ss
end
def LH(P:dH)(fd:FD):Bool:=QM fd.kinds fd.params&&AP P fd.kinds fd.body
structure Gl.Wf(g:Gl):Prop where
 Ir:∀cl m f,g.P.gv cl m=some f->∃fd,g.P.fn f=some fd
 keep:∀cl C,g.cA cl=some C->keepIn g.K (.ref C)=true
section
theorem cM(h:(a&&b)=true):a=true/\b=true:=fW.mp h
theorem d5(h:(a&&b&&c)=true):(a=true/\b=true)/\c=true:=⟨cM (cM h).1,(cM h).2⟩
theorem Rv(h:(a&&b&&c&&d)=true):((a=true/\b=true)/\c=true)/\d=true:=⟨d5 (cM h).1,(cM h).2⟩
theorem Wg(h:(a&&b&&c&&d&&e)=true):(((a=true/\b=true)/\c=true)/\d=true)/\e=true:=⟨Rv (cM h).1,(cM h).2⟩
theorem lI(h:(!a)=true):a=false:=(rp ..)▸h
theorem ie:∀{ms:List ME},l6 P ks comp ms=true->∀m∈ms,gQ P ks comp m=true:=by
 intro ms
 induction ms with
 |nil=>exact fun ω m h=>absurd h eF
 |cons x xs ih=>exact fun h m hm=>(cL.mp hm).elim (fun e=>e▸(cM h).1) (ih (cM h).2 m)
theorem SVal.pk'(h:SVal g c e f):SPk g c e (bc f).pk:=by
 intro st p s i hb;refine step (h st p s i (ah hb)) i.ok (af.refl _ _) (fun x aE e=>ar e) fun a st1 r s1 v e mv ω i1 rr=>?_
 induction a with
 |dat d=>exact⟨d,st1,r,aa e,mv,i1,.inl rr⟩
 |ref k=>exact(hb (aa e)).elim
theorem SVal.it'(hh:c.A.handled=none)(h:SVal g c e f):Xv g c e (bc f).it:=by
 intro st p s i hb;refine step (h st p s i (ah hb)) i.ok (af.refl _ _) (fun x aE e=>ar e) fun a st1 r s1 v e mv ω i1 rr=>?_;refine Bc fun au=>?_
 induction a with
 |ref k=>exact hb (aa e)
 |dat d=>
  obtain⟨b,eb⟩:=b7 (fun z=>hb ((aa e).trans z));obtain⟨ds,e1,rfl⟩:=iu.mp eb;refine au ?_;refine bA (o5 (E:=fun ω ω=>False) hh i1 rr e1 rfl) (fun it s2 z=>zU.lift i.ok mv ?_ z) fun ω ω z=>z.elim;exact((aa e).trans (by dsimp only;refine Rw eb ?_;rfl)).symm
theorem yO(h:Xv g c e f):aA g c e (rz f):=
 ⟨Ca,fun ω ω ω ω z=>absurd rfl z,fun ω ω ω ω z=>absurd rfl z,h⟩
theorem gL(h:Dx g c e f):aA g c e (lB f):=
 ⟨Ca,h,fun ω ω ω ω z=>absurd rfl z,fun ω ω ω ω z=>absurd rfl z⟩
theorem sv(nm:Nat->Str)(op)(r):behindInMarks op (aB nm r)=false:=by induction r using ME.casesOn<;>rfl
theorem yP(hu:c.A.units+66<cLine)(co:c.Ok g ks n)(hl:aA g c (aB g.nm l) (ev P cf l))(hr:aA g c (aB g.nm r) (ev P cf r)):aA g c (aB g.nm (.rel op l r p)) (ev P cf (.rel op l r p)):=by
 haveI hv:=xN (pos:=p) hu (sv g.nm op r) hl hr
 exact⟨hv,xO hu (sv g.nm op r) hl hr,hv.pk',hv.it' co.handled⟩
theorem len_eq:ev P cf (.pU .len [e] np p)=bV fun st=>((ev P cf e).pk st).bind fun d st=>opt ((xp d).map fun(k:Nat)=>PyData.int k) st:=by
 show bV _=bV _
 congr 1
 funext st
 congr 1
 funext d st;generalize xp d=zV;induction zV using Oc<;>rfl
section
theorem zd{x:Nat}(h:x+y<M):x<M:=fj (fy ..) h
theorem zl{x:Nat}(h:x+y<M):y<M:=fj (jm ..) h
theorem zt(h:x+y<N+1)(hx:1<=x):y<N:=Fz (fj (aI (dN (ro y 1)) (l4 hx y)) h)
theorem CG:1<=1:=fB _
theorem yQ:1<=1+a:=fy ..
theorem J5:1<=1+a+b:=aI yQ (fy ..)
theorem zo3:1<=1+a+b+c:=aI J5 (fy ..)
theorem zo4:1<=1+a+b+c+d:=aI zo3 (fy ..)
theorem zr{a:Nat}(h:a<=b):a<=b+c:=aI h (fy ..)
theorem zs2{a:Nat}(h:a<=c):a<=b+c:=aI h (jm ..)
end
inductive ItV(P:dH)(ks:List (Nat×NameKind))(comp:Bool):List ME->Prop
 |mk(o ap p)(h:(gy o&&decide (ap.endLine=p.line)&&gQ P ks comp o)=true):ItV P ks comp [.items o ap p]
theorem It{P:dH}{ks:List (Nat×NameKind)}{comp:Bool}{l:List ME}(h:Wb P ks comp l=true):ItV P ks comp l:=by
 induction l using Lc with
 |nil=>exact absurd h cO
 |cons e es=>
  have h:=cM h;obtain rfl:=FG.mp h.1;have h:=h.2
  cases e with
  |items o ap p=>exact .mk o ap p h
  |_=>exact absurd h cO
theorem LI{g:Gl}{fA:Nat->Option Addr}{n:Nat}{cf:Call}(go:g.Ok fA){ks:List (Nat×NameKind)}{c:Cx}(co:c.Ok g ks n){b:BF}{args:List ME}{np p:Pos}(h1:Wa b args=true)(h2:look (oP b) ks=some .globalImplicit)(ha:∀m∈args,aA g c (aB g.nm m) (ev g.P cf m)):aA g c (aB g.nm (.pU b args np p)) (ev g.P cf (.pU b args np p)):=by
 haveI dat:∀{f:St->Res D},gG g c (aB g.nm (.pU b args np p)) f->aA g c (aB g.nm (.pU b args np p)) (bV f):=fun h=>aA.bV co.handled h fun ω=>rfl
 induction b using BF.casesOn with
 |len=>
  obtain⟨e,rfl⟩:=ic h1;exact Rw len_eq (dat (K9 go co h2 (ha _ (.head _))))
 |list=>
  haveI h1:=cM h1
  obtain⟨e,rfl⟩:=ic h1.1;have q:ev g.P cf (.pU .list [e] np p)=Kb false .list [ev g.P cf e]:=(lI h1.2)▸rfl;exact Rw q (dat (HH go co h2 (ha _ (.head _))))
 |sum=>obtain⟨e,rfl⟩:=ic h1;exact dat (Li go co h2 (ha _ (.head _)))
 |min=>obtain⟨a,b,rfl⟩:=su h1;exact dat (Le go co h2 (ha _ (.head _)) (ha _ (.tail _ (.head _))))
 |max=>obtain⟨a,b,rfl⟩:=su h1;exact dat (Lf go co h2 (ha _ (.head _)) (ha _ (.tail _ (.head _))))
 |sorted=>
  haveI h1:=cM h1
  obtain⟨e,rfl⟩:=ic h1.1;have q:ev g.P cf (.pU .sorted [e] np p)=Kb false .sorted [ev g.P cf e]:=(lI h1.2)▸rfl;exact Rw q (dat (AG go co h2 (ha _ (.head _))))
 |dict=>obtain⟨e,rfl⟩:=ic h1;exact dat (HU go co h2 (ha _ (.head _)))
 |range=>obtain⟨e,rfl⟩:=ic h1;exact yO (DP go co h2 (ha _ (.head _)))
 |zip=>cases h1
theorem u66{a b c:Nat}(h:a+b+120<c):a+66<c:=fj (xl (fy ..) (Dn rfl)) h
theorem LJ{g:Gl}{fA:Nat->Option Addr}{n:Nat}{cf:Call}(go:g.Ok fA)(g2:g.Wf)(sp:Spec g fA n cf):∀(N:Nat) (m:ME),sizeOf m<N->∀(ks:List (Nat×NameKind)) (c:Cx),c.Ok g ks n->gQ g.P ks c.comp m=true->aA g c (aB g.nm m) (ev g.P cf m):=by
 intro N
 induction N with
 |zero=>exact fun m hm=>absurd hm (pL _)
 |succ N ih=>
  intro m hm ks c co hok
  have LK:∀ms:List ME,sizeOf ms<N->l6 g.P ks c.comp ms=true->∀m∈ms,aA g c (aB g.nm m) (ev g.P cf m):=fun ms hN hk m hm=>
   ih m (BO (Fc hm) hN) ks c co (ie hk m hm)
  cases m with
  |i9 i k p=>exact aA.bc co.handled Kn fun ω=>rfl
  |oL x k p=>exact aA.bc co.handled Ko fun ω=>rfl
  |mj b k p=>exact aA.bc co.handled GQ fun ω=>rfl
  |jt k p=>exact aA.bc co.handled GS fun ω=>rfl
  |neg e p=>
   exact aA.bV co.handled (Kp (ih e (zt (zd hm) CG) ks c co hok)) fun ω=>rfl
  |«not» e p=>
   exact gL (Kr (ih e (zt (zd hm) CG) ks c co hok))
  |loc x p=>exact Kz go co (bR (cM hok).2) (lI (cM hok).1)
  |aW x p=>exact aA.bc co.handled (Kx go co (bR hok)) fun ω=>rfl
  |cmp x p=>exact aA.bc co.handled (Kw go co (bR (cM hok).2) (cM hok).1) fun ω=>rfl
  |oM x p=>exact aA.bc co.handled (Kv go co (bR hok)) fun ω=>rfl
  |bin op l r p=>
   exact aA.bV co.handled (Kq (ih l (zt (zd (zd hm)) yQ) ks c co (cM hok).1) (ih r (zt (zd hm) J5) ks c co (cM hok).2)) fun ω=>rfl
  |rel op l r p=>
   exact yP (u66 co.units) co (ih l (zt (zd (zd hm)) yQ) ks c co (cM hok).1) (ih r (zt (zd hm) J5) ks c co (cM hok).2)
  |zR o1 o2 a b d p=>
   exact gL (vG (u66 co.units) (sv g.nm o2 d) (ih a (zt (zd (zd (zd hm))) J5) ks c co (d5 hok).1.1) (ih b (zt (zd (zd hm)) zo3) ks c co (d5 hok).1.2) (ih d (zt (zd hm) zo4) ks c co (d5 hok).2))
  |bool op es p=>
   exact gL fun st p s iv hb=>wpAny_isTrue_BoolOp (GV op es (LK es (zt (zd ((ME.bool.sizeOf_spec ..)▸hm)) yQ) hok) st p s iv hb)
  |ite t a b p=>
   haveI hv:=xP (pos:=p) (ih t (zt (zd (zd (zd hm))) CG) ks c co (d5 hok).1.1) (ih a (zt (zd (zd hm)) yQ) ks c co (d5 hok).1.2) (ih b (zt (zd hm) J5) ks c co (d5 hok).2)
   exact⟨hv,fun ω ω ω ω z=>absurd rfl z,hv.pk',hv.it' co.handled⟩
  |sub o i p=>
   exact aA.bV co.handled (KG go co (d5 hok).1.1 (ih o (zt (zd (zd hm)) CG) ks c co (d5 hok).1.2) (ih i (zt (zd hm) yQ) ks c co (d5 hok).2)) fun ω=>rfl
  |PY o lo hi sp p=>
   refine aA.bV co.handled (KI (ih o (zt (zd (zd (zd (zd hm)))) CG) ks c co (d5 hok).1.1) (fun e he=>?_) fun e he=>?_) fun ω=>rfl
   ·subst he;exact ih e (zl (zt (zd (zd (zd hm))) yQ)) ks c co (d5 hok).1.2
   ·subst he;exact ih e (zl (zt (zd (zd hm)) J5)) ks c co (d5 hok).2
  |attr o x p=>
   exact GZ go co (cM hok).1 (ih o (zt (zd (zd hm)) CG) ks c co (cM hok).2)
  |lst es p=>
   exact aA.bV co.handled (Kt (bR (cM hok).1) (LK es (zt (zd ((ME.lst.sizeOf_spec ..)▸hm)) CG) (cM hok).2)) fun ω=>rfl
  |tup es k p=>
   exact aA.bV co.handled (Ku (bR (cM hok).1) (LK es (zt (zd (zd ((ME.tup.sizeOf_spec ..)▸hm))) CG) (cM hok).2)) fun ω=>rfl
  |OT a b p=>
   rw[ME.OT.sizeOf_spec]at hm
   haveI h:=Wg hok
   refine aA.bV co.handled (Lv go (bR h.1.1.1.1) (fun z=>?_) (bR h.1.1.2) (LK a (zt (zd (zd hm)) CG) h.1.2) (LK b (zt (zd hm) yQ) h.2)) fun ω=>rfl;replace h:=z▸h;exact absurd h.1.1.1.2 cO
  |comp elt gg gs ks' p=>
   obtain⟨t,it,ifs⟩:=gg
   haveI h1:=d5 hok
   haveI h2:=d5 h1.1.2
   rw[ME.comp.sizeOf_spec,MG.mk.sizeOf_spec]at hm;have he:∀c',c'.comp=true->c'.Ok g (bN ks') n->aA g c' (aB g.nm elt) (ev g.P cf elt):=fun c' hc sY=>ih elt (zt (zd (zd (zd (zd hm)))) CG) _ c' sY (Rw hc h1.1.1);have hi:∀c',c'.comp=true->c'.Ok g (bN ks') n->∀m∈ifs,aA g c' (aB g.nm m) (ev g.P cf m):=fun c' hc sY m hmem=>ih m (BO (Fc hmem) (zl (zt (zd (zd (zd hm))) yQ))) _ c' sY (Rw hc (ie h2.2 m hmem))
   induction gs using Lc with
   |nil=>exact aA.bV co.handled (yh go co (v9 h2.1.1) (ih it (zl (zd (zt (zd (zd (zd hm))) yQ))) ks c co h2.1.2) he hi) fun ω=>rfl
   |cons gg gs=>
    obtain⟨t2,sZ,nU⟩:=gg
    haveI h3:=cM h1.2
    obtain rfl:=FG.mp h3.1
    haveI h4:=d5 h3.2
    haveI uv:=zt (zd (zd hm)) J5
    rw[List.cons.sizeOf_spec,MG.mk.sizeOf_spec]at uv;have Vp:=zl (zd uv);exact aA.bV co.handled (DG go co (v9 h2.1.1) h4.1.1 (ih it (zl (zd (zt (zd (zd (zd hm))) yQ))) ks c co h2.1.2) he hi (fun c' hc sY=>ih sZ (zl (zd Vp)) _ c' sY (Rw hc h4.1.2)) fun c' hc sY m hmem=>ih m (BO (Fc hmem) (zl Vp)) _ c' sY (Rw hc (ie h4.2 m hmem))) fun ω=>rfl
  |call f args np p=>
   rw[ME.call.sizeOf_spec]at hm
   haveI h:=Rv hok
   obtain⟨fd,Pj⟩:=rk.mp h.1.1.1;exact aA.bc co.handled (Hq go co sp Pj (bR h.1.1.2) (bR h.1.2) (LK args (zt (zd (zd hm)) yQ) h.2)) fun ω=>rfl
  |new cl args np p=>
   rw[ME.new.sizeOf_spec]at hm
   haveI h:=d5 hok
   generalize hf:g.P.init cl=zV
   induction zV using Oc with
   |none=>replace h:=hf▸h;injection h.1.1
   |some f=>
    replace h:=hf▸h
    haveI Pj:=(Cs (rk.mp h.1.1))
    exact aA.bc co.handled (KS go co sp hf Pj (bR h.1.2) (fun C hC=>g2.keep cl C hC) (LK args (zt (zd (zd hm)) yQ) h.2)) fun ω=>rfl
  |pU b args np p=>
   rw[ME.pU.sizeOf_spec]at hm
   haveI h:=cM hok
   haveI h2:=bR h.1
   rcases Bool.or_eq_true_iff.mp h.2 with h|h
   ·exact LI go co (cM h).1 h2 (LK args (zt (zd (zd hm)) yQ) (cM h).2)
   ·haveI h:=cM h
    obtain⟨o,ap,p2,h3⟩:=It h.2
    haveI h3:=d5 h3
    induction b using BF.casesOn with
    |sorted=>exact aA.bV co.handled (yE go co h2 h3.1.1 (bR h3.1.2) (ih o (fj (zr (zs2 (zr (zr (zs2 (fB _)))))) (zt (zd (zd hm)) yQ)) ks c co h3.2)) fun ω=>rfl
    |_=>exact absurd h.1 cO
  |gv o m args ap p=>
   rw[ME.gv.sizeOf_spec]at hm
   haveI h:=Wg hok
   exact aA.bc co.handled (Hr go co sp h.1.1.1.1 (bR h.1.1.1.2) (bR h.1.1.2) (fun cl f hf=>g2.Ir cl m f hf) (ih o (zt (zd (zd (zd (zd hm)))) CG) ks c co h.1.2) (LK args (zt (zd (zd hm)) J5) h.2)) fun ω=>rfl
  |items o ap p=>exact absurd hok cO
  |iG e np p1 Xq p=>
   exact gL (yM go co (bR (d5 hok).1.1) (bR (d5 hok).1.2) (ih e (zt (zd (zd (zd (zd hm)))) CG) ks c co (d5 hok).2))
theorem cz(h:gf g c x f)(e:∀st,f' st=f st):gf g c x f':=by
 haveI:f'=f:=funext e
 exact Rw this h
theorem CH(hl:iI e=false)(st):nA P cf e st=((ev P cf e).val st).bind fun r st=>.ok r.lv st:=by induction e using ME.casesOn<;>first|(cases hl;done)|rfl
theorem LL(hl:iI e=false)(hc:fK e=false)(st):Kd P cf e st=((ev P cf e).val st).bind fun r st=>.ok r.lv st:=by induction e using ME.casesOn<;>first|(cases hl;done)|(cases hc;done)|rfl
inductive Wh:ME->Prop
 |mk(es p):Wh (.lst es p)
theorem uQ(h:iI e=true):Wh e:=by
 cases e with
 |lst es p=>exact .mk es p
 |_=>exact absurd h cO
inductive PB:ME->Prop
 |mk(a b c d p):PB (.comp a b c d p)
theorem sx(h:fK e=true):PB e:=by
 cases e with
 |comp a b c d p=>exact .mk a b c d p
 |_=>exact absurd h cO
theorem D9{c:Cx}(go:g.Ok fA)(co:c.Ok g ks n)(hk:look x ks=some .cell):swapsWith e (some (.Name (g.nm x) px)) l c.env=pure false:=by
 have q:(c.env.kindOf (g.nm x)==some NameKind.local)=false:=Rw (co.kindOf go.inj ..) (Rw (hk ..) rfl);induction e using Expr.casesOn<;>first|rfl|(show(pure (_&&(c.env.kindOf (g.nm x)==some NameKind.local)&&_&&_):Sem Bool)=_;simp only[q,FN,pO,pO])
theorem aa9{g:Gl}{fA:Nat->Option Addr}{n:Nat}{cf:Call}(go:g.Ok fA)(g2:g.Wf)(sp:Spec g fA n cf)(t:MT)(e:ME)(pos:Pos)(ks:List (Nat×NameKind))(c:Cx)(co:c.Ok g ks n)(hc:c.comp=false)(hok:Rt g.P ks t e=true):
  gf g c (.Assign [toT g.nm t] (aB g.nm e) pos) (Gi g.P cf t e):=by
 have E:=fun m h=>LJ go g2 sp _ m (wY _) ks c co (Rw hc h)
 have comp:∀{elt gg gs ks' p},Rr (.comp elt gg gs ks' p)=true->gQ g.P ks false (.comp elt gg gs ks' p)=true->∃t it ifs,gg= .mk t it ifs/\gs= []/\yc ks ks' t/\aA g c (aB g.nm it) (ev g.P cf it)/\
   (∀c',c'.comp=true->c'.Ok g (bN ks') n->aA g c' (aB g.nm elt) (ev g.P cf elt))/\(∀c',c'.comp=true->c'.Ok g (bN ks') n->∀m∈ifs,aA g c' (aB g.nm m) (ev g.P cf m)):=by
  intro elt gg gs ks' p hgs hok;obtain⟨t,it,ifs⟩:=gg
  haveI h1:=d5 hok
  haveI h2:=d5 h1.1.2
  exact⟨t,it,ifs,rfl,FG.mp hgs,v9 h2.1.1,E it h2.1.2,fun c' hc sY=>LJ go g2 sp _ elt (wY _) _ c' sY (Rw hc h1.1.1),fun c' hc sY m hm=>LJ go g2 sp _ m (wY _) _ c' sY (Rw hc (ie h2.2 m hm))⟩
 have lst:∀{es p},gQ g.P ks false (.lst es p)=true->es.length<=1000/\ ∀m∈es,aA g c (aB g.nm m) (ev g.P cf m):=by
  intro es p hok;exact⟨bR (cM hok).1,fun m hm=>E m (ie (cM hok).2 m hm)⟩
 induction t using MT.casesOn with
 |loc x px=>
  have hk:=bR (d5 hok).1.1;have h1C:=(d5 hok).1.2;have hE:=(d5 hok).2;generalize hl:iI e=zV
  induction zV using Tc with
  |true=>
   obtain⟨es,pe⟩:=uQ hl;obtain⟨h1,h2⟩:=lst hE;refine cz (K1 go co hc hk h1 h2) fun st=>?_;show((gx (bS g.P cf es) st).bind _).bind _=_;generalize gx (bS g.P cf es) st=zV;induction zV using Res.casesOn<;>rfl
  |false=>
   generalize Wi:fK e=zV
   induction zV using Tc with
   |true=>
    refine Bc fun au=>?_;obtain⟨elt,gg,gs,ks',p⟩:=sx Wi;obtain⟨t,it,ifs,rfl,rfl,XW⟩:=comp h1C hE
    haveI sc:=XW.1
    haveI h1:=XW.2.1
    haveI h2:=XW.2.2.1
    haveI h3:=XW.2.2.2
    apply au;refine cz (Hz go co hc hk sc h1 h2 h3) fun st=>?_;show((((bH (ev g.P cf elt) ⟨t,ev g.P cf it,bS g.P cf ifs⟩ [] st).bind _).bind _).bind _).bind _=_;generalize bH (ev g.P cf elt) ⟨t,ev g.P cf it,bS g.P cf ifs⟩ [] st=zV;induction zV using Res.casesOn<;>rfl
   |false=>
    refine cz (Cp (t:=.loc x px) go co hc (bP hk) (kI Wi _ _ _) (E e hE)) fun st=>?_
    haveI:=CH (cf:=cf) (P:=g.P) hl st
    show(nA g.P cf e st).bind _=_;refine Rw this ?_;generalize(ev g.P cf e).val st=zV;induction zV using Res.casesOn<;>rfl
 |aW x px=>
  haveI h:=d5 hok
  haveI hk:=bR h.1.1
  have hl:=lI h.1.2;refine cz (Cp (t:=.aW x px) go co hc (bP hk) (D9 go co hk) (E e h.2)) fun st=>?_
  haveI:=CH (cf:=cf) (P:=g.P) hl st
  show(nA g.P cf e st).bind _=_;refine Rw this ?_;generalize(ev g.P cf e).val st=zV;induction zV using Res.casesOn<;>rfl
 |cmp x px=>cases hok
 |tup ts k p=>
  rcases Ip hok with⟨es,k',p',hE,h2⟩|⟨_,h,h1,h2,h3⟩
  ·generalize hl:ts.all fF=zV
   induction zV using Tc with
   |true=>
    rw[hl]at h2;obtain⟨xs,rfl⟩:=VU hl;rw[Io]at h2;refine cz (Ia go co hc h2 (fun e he ms pos q=>lst (q▸ie (cM hE).2 e he)) fun e he=>E e (ie (cM hE).2 e he)) fun st=>?_;show(if(xs.map lT).all fF=true then _ else _)=_;rw[if_pos hl]
   |false=>
    rw[hl]at h2;refine cz (Cq go co hc h2 (AK go co h2 hl) rfl (E _ hE)) fun st=>?_;show(if ts.all fF=true then _ else _)=_;rw[aw (hl▸cO)]
  ·refine cz (Cq go co hc h1 (eB h) h2 (E e h3)) fun st=>?_
   induction e using ME.casesOn with
   |tup=>cases h
   |_=>rfl
 |attr o x px=>
  have h1C:=(cM hok).1;obtain⟨⟨y,py,hk⟩,hE⟩:=Im (cM hok).2;generalize hl:iI e=zV
  induction zV using Tc with
  |true=>
   obtain⟨es,pe⟩:=uQ hl;obtain⟨h1,h2⟩:=lst hE;refine cz (DL go co hc rfl hk h1 h2) fun st=>?_;show((gx (bS g.P cf es) st).bind _).bind _=_;generalize gx (bS g.P cf es) st=zV;induction zV using Res.casesOn<;>rfl
  |false=>
   generalize Wi:fK e=zV
   induction zV using Tc with
   |true=>
    refine Bc fun au=>?_;obtain⟨elt,z84⟩:=sx Wi;obtain⟨t,it,ifs,rfl,rfl,XX⟩:=comp h1C hE;apply au;refine cz (DM go co hc rfl hk XX.1 XX.2.1 XX.2.2.1 XX.2.2.2) fun st=>?_;show((bH (ev g.P cf elt) ⟨t,ev g.P cf it,bS g.P cf ifs⟩ [] st).bind _).bind _=_;generalize bH (ev g.P cf elt) ⟨t,ev g.P cf it,bS g.P cf ifs⟩ [] st=zV;induction zV using Res.casesOn<;>rfl
   |false=>
    refine cz (HC go co hc rfl hk (E e hE)) fun st=>?_
    haveI:=LL (cf:=cf) (P:=g.P) hl Wi st
    show(Kd g.P cf e st).bind _=_;refine Rw this ?_;generalize(ev g.P cf e).val st=zV;induction zV using Res.casesOn<;>rfl
 |sub o i ps=>
  haveI h:=Rv hok
  exact cz (K5 go co hc h.1.1.1 (Rw hc h.1.1.2) (E e h.2) (lI h.1.2)) fun st=>rfl
theorem aaa{g:Gl}{fA:Nat->Option Addr}{n:Nat}{cf:Call}(go:g.Ok fA)(g2:g.Wf)(xo:Lr g)(sp:Spec g fA n cf):∀(N:Nat),(∀(m:MS),sizeOf m<N->∀(ks:List (Nat×NameKind)) (c:Cx),c.Ok g ks n->c.comp=false->okS g.P ks m=true->gf g c (toS g.nm m) (exec g.P cf m))/\
  ∀(ms:List MS),sizeOf ms<N->∀(ks:List (Nat×NameKind)) (c:Cx),c.Ok g ks n->c.comp=false->AP g.P ks ms=true->rY g c (nB g.nm ms) (execs g.P cf ms):=by
 intro N
 induction N with
 |zero=>exact⟨fun m hm=>absurd hm (pL _),fun m hm=>absurd hm (pL _)⟩
 |succ N ih=>
  obtain⟨Rc,Rd⟩:=ih;refine⟨fun m hm ks c co hc hok=>?_,fun ms hm ks c co hc hok=>?_⟩
  ·have E:∀m,gQ g.P ks false m=true->aA g c (aB g.nm m) (ev g.P cf m):=fun m h=>LJ go g2 sp _ m (wY _) ks c co (Rw hc h)
   induction m using MS.casesOn with
   |asg t e p=>exact aa9 go g2 sp t e p ks c co hc hok
   |app o e ap cp p=>
    have h:=d5 hok;have h2:=bR h.1.2;rcases yv h.1.1 with⟨x,px,h1⟩|⟨y,py,x,px,h1⟩
    ·exact cz (K6 go co hc h1 h2 (E e h.2)) fun st=>rfl
    ·refine cz (K7 go co hc h1 h2 (E e h.2)) fun st=>?_;show(match(match look y st.loc with|some (.ref k)=>some (Place.fld k x)|_=>none)with|none=>Res.bad|some (.loc x)=>_|some (.fld k x)=>_)=_;unfold DN;generalize look y st.loc=zV
     induction zV using Oc with
     |none=>rfl
     |some lv=>induction lv<;>rfl
   |expr e p=>
    exact cz (Hx co (lI (cM hok).1) (E e (cM hok).2)) fun st=>rfl
   |ifs t b o p=>
    have hok:=d5 hok;rw[MS.ifs.sizeOf_spec]at hm;exact cz (KW (E t hok.1.1) (Rd b (zt (zd (zd hm)) yQ) ks c co hc hok.1.2) (Rd o (zt (zd hm) J5) ks c co hc hok.2)) fun st=>rfl
   |«for» t it b p=>
    have hok:=d5 hok;rw[MS.for.sizeOf_spec]at hm;have hB:=fun m=>Rd b (zt (zd hm) J5) ks _ (co.at m) hc hok.2;rcases Iq hok.1.2 with⟨ts,kt,pt,x,y,np,pz,h8,hx,hy⟩|⟨_,_,h⟩
    ·exact cz (Il go co hc hok.1.1 h8 (E x hx) (E y hy) hB) fun st=>rfl
    ·exact cz (K0 go co hc hok.1.1 (E it h) hB) fun st=>rfl
   |ret e p=>exact cz (KY (E e hok)) fun st=>rfl
   |zS p=>exact cz Hu fun st=>rfl
   |raise x msg k mp np cp p=>
    exact cz (DY go co xo (bR (cM hok).1) (xo.CC x (cM hok).2)) fun st=>rfl
   |eI p=>cases hok
   |«try» b hs p=>
    have hok:=d5 hok;rw[MS.try.sizeOf_spec]at hm;refine cz (Lu (P:=g.P) go co xo hc rfl (Rd b (zt (zd (zd hm)) CG) ks c co hc hok.1.1) hok.1.2 fun z=>?_) fun st=>rfl;replace hok:=z▸hok;cases hok.2
   |cont p=>exact cz Hv fun st=>rfl
   |pass p=>exact cz Hw fun st=>rfl
  ·induction ms using Lc with
   |nil=>exact KU
   |cons m ms=>
    have hok:=cM hok;exact Ht (Rc m (zt (zd hm) CG) ks c co hc hok.1) fun mm=>Rd ms (zt hm yQ) ks _ (co.at mm) hc hok.2
theorem yR(go:g.Ok fA)(g2:g.Wf)(xo:Lr g)(chk:∀f fd,g.P.fn f=some fd->LH g.P fd=true):∀n,Spec g fA n (ae g.P n)
 |0=>fun f fd a ω ω rs objs hb=>absurd rfl hb
 |n+1=>by
  intro f fd a hf ha rs objs hb A envs p s vs h1 h2 h3 h4 wi hr;have hk:=chk f fd hf;simp only[LH,dg]at hk;rw[qO hf]at hb⊢;refine Bc fun au=>?_;obtain⟨a',ha',Lo⟩:=go.fn f fd hf;rw[ha]at ha';cases ha';exact au (QQ (n:=n) go Lo hk.1 (fun c co hc=>(aaa go g2 xo (yR go g2 xo chk n) _).2 fd.body (wY _) fd.kinds c co hc hk.2) rs objs hb A envs p s vs h1 h2 (h3) (h4) wi hr)
end
noncomputable def mW(s:Str):Bool:=s.cps.toList.all (· <2000000)
noncomputable def wa:List Str->Bool
 | []=>true
 |x::r=>!r.contains x&&wa r
theorem Ea:∀{l:List Str},wa l=true->l.Nodup:=by
 intro zV
 induction zV with
 |nil=>
  exact @fun ω=>pN
 |cons x r zI=>
  exact @fun h=>by
   haveI h:(!r.contains x&&wa r)=true:=h
   rw[dg,rp,List.contains_eq_mem,Fp]at h;exact nu.mpr ⟨h.1,zI h.2⟩
theorem n7(h:i<l.length):iz l i=l[i]:=by
 unfold iz;rw[fi,nq h];rfl
theorem kU(h:¬i<l.length):iz l i=⟨#[2000000+i]⟩:=by
 unfold iz;rw[fi,wW (kl h)];rfl
theorem AQ(h:mW s=true):s≠⟨#[2000000+i]⟩:=by
 rintro rfl
 simp[mW]at h;exact mh.mpr (fy ..) h
theorem Iu(h1:wa l=true)(h2:l.all mW=true)(x y)(e:iz l x=iz l y):x=y:=by
 have h2:=jL.mp h2;by_cases hx:x<l.length
 ·by_cases hy:y<l.length
  ·rw[n7 hx,n7 hy]at e;have nd:=List.pairwise_iff_getElem.mp (Ea h1);rcases Nat.lt_trichotomy x y with z|z|z
   ·exact absurd e (nd x y hx hy z)
   ·exact z
   ·exact absurd e.symm (nd y x hy hx z)
  ·rw[n7 hx,kU hy]at e;exact absurd e (AQ (h2 _ (tW hx)))
 ·by_cases hy:y<l.length
  ·rw[kU hx,n7 hy]at e;exact absurd e.symm (AQ (h2 _ (tW hy)))
  ·rw[kU hx,kU hy]at e;simp at e;exact e
theorem wb(h1:l.all (fun s=>!(s==z))=true)(h2:mW z=true)(x):(iz l x==z)=false:=by
 by_cases hx:x<l.length
 ·rw[n7 hx]
  haveI:=jL.mp h1 _ (tW hx)
  simpa using this
 ·rw[kU hx]
  haveI:=AQ (i:=x) h2
  simp[eh this]
theorem LM(h1:l.all (fun s=>!(s==z))=true)(h2:mW z=true)(x):iz l x≠z:=fun e=>by
 haveI:=wb h1 h2 x
 rw[e]at this;simp at this
theorem Iv(h:O1 d=some f):d= .func f:=by
 induction d<;>first|exact bz _ (dS h)|exact nomatch h
theorem Iw(h:O4 d=some f):d= .fields f:=by
 induction d<;>first|exact bz _ (dS h)|exact nomatch h
theorem LN(h:UH d=some p):d= .seq p.1 p.2:=by
 induction d<;>first|exact dS h▸rfl|exact nomatch h
theorem jT{α β:Type}{o:Option α}{f:α->Option β}{b:β}(h:o.bind f=some b):∃a,o=some a/\f a=some b:=w9.mp h
theorem CJ(h:Qe v=some a):v= .ref a:=by
 induction v<;>first|exact bz _ (dS h)|exact nomatch h
theorem CK(h:vStr v=some p):v= .str p.1 p.2:=by
 induction v<;>first|exact dS h▸rfl|exact nomatch h
theorem Eb{K:Frag}(h:fnOf K a=some f):∃o,K.lookup a=some o/\o.data= .func f:=
 (jT h).elim fun o h=>⟨o,h.1,Iv h.2⟩
theorem AR{K:Frag}(X:K.In h)(e:codeOk K f=true):h.CodeRec f.code f.qualname:=by
 delta codeOk at e
 generalize z:codeOf K f.code=zV
 induction zV using Oc with
 |none=>rw[z]at e;exact absurd e cO
 |some p=>
  rw[z]at e;obtain⟨c,hc,z⟩:=jT z;obtain⟨o,z7⟩:=jT z;obtain⟨vs,z8⟩:=jT z7.2;obtain⟨v,z9⟩:=jT z8.2;exact⟨c,o,vs,p.2,CJ hc,X _ _ z7.1,Iw z8.1,z9.1.trans (bz some ((CK z9.2).trans (bz (fun y=>Value.str y p.2) (bR e))))⟩
theorem Ec{K:Frag}(h:Gr K v=some p):∃a,v= .ref a/\K.lookup a=some ⟨.type "tuple",none,.seq p.1 p.2,#[]⟩:=by
 refine Bc fun au=>?_;obtain⟨a,ha,h⟩:=jT h;obtain⟨o,ho,h⟩:=jT h;obtain⟨c,d,dt,sl⟩:=o;refine au ?_;rcases iy (c= .type "tuple" /\d=none/\sl.isEmpty=true)with q|q
 ·rw[if_pos q]at h;obtain⟨rfl,rfl,q⟩:=q;obtain rfl:=Array.isEmpty_iff.mp q;exact⟨a,CJ ha,ho.trans (bz (fun y=>some (Obj.mk _ _ y _)) (LN h))⟩
 ·exact Ns (aw q) h
theorem LO(h:vInt v=some p):v= .int p.1 p.2:=by
 induction v<;>first|exact dS h▸rfl|exact nomatch h
theorem AS{α:Type}{o:Option α}{f:α->Bool}(h:o.any f=true):∃a,o=some a/\f a=true:=by
 induction o with
 |none=>cases h
 |some a=>exact⟨a,rfl,h⟩
mutual
theorem jB{w:World}{K:Frag}{h:Heap}(X:K.In h):∀(d:PyData) (v:Value),B4 K d v=true->aU w (fun ω=>False) h v d
 |.none,v,e=>(bR e:v= .none)▸ .none
 |.bool b,v,e=>(bR e:v= .bool b)▸ .bool _
 |.int i,v,e=>by
  obtain⟨p,z,e⟩:=AS e;exact Rw (LO z) (bR e▸ .int _ _)
 |.str x,v,e=>by
  obtain⟨p,z,e⟩:=AS e;exact Rw (CK z) (bR e▸ .str _ _)
 |.tuple ds,v,e=>by
  obtain⟨p,z,y⟩:=AS e;obtain⟨a,ha,hl⟩:=Ec z;exact Rw ha (.tuple id ⟨p.2,X _ _ hl⟩ (qo X ds _ y))
 |.list _,_,e=>nomatch e
 |.dict _,_,e=>nomatch e
theorem qo{w:World}{K:Frag}{h:Heap}(X:K.In h):∀(ds:List PyData) (vs:List Value),rM K ds vs=true->ak w (fun ω=>False) h vs ds
 | [],vs,e=>(bR e:vs= [])▸ .nil
 |d::ds,[],e=>nomatch e
 |d::ds,v::vs,e=>have e:=fW.mp e;.cons (jB X d v e.1) (qo X ds vs e.2)
end
theorem Iy(N:h.Ns a m)(e:m x=v):Looks M h (nsGet a x) v:=by
 intro A Q E s k q;exact wpAny_nsGet (N.keeps k) (Rw e q)
theorem dT{lo:List Str}(T:Top pr lo LP mg mb h)(h1:l.all (fun s=>!(s== "__name__"))=true)(h2:mW "__name__" =true)(i)(e:bootBuiltins (iz l i)=some v):Looks M h (nsGet builtinsNs (iz l i)) (some v):=Iy T.b ((T.builtins _ (LM h1 h2 i)).trans e)
theorem Iz:∀{L:List Str} {vs:List Value} {n:Str},vs.length=L.length->n∈L->((L.zip vs).lookup n).isSome=true:=by
 intro zV
 induction zV with
 |nil=>
  intro zV;rcases zV with _|⟨v,vs⟩
  ·exact @fun ω ω h=>(nomatch h)
  ·exact @fun ω ω h=>(nomatch h)
 |cons x L zI=>
  intro zV;rcases zV with _|⟨v,vs⟩
  ·exact @fun n hl h=>by simp at hl
  ·exact @fun n hl h=>by
    simp only[xe,vh]
    cases e:n==x with
    |true=>rfl
    |false=>
     apply zI (by simpa using hl);rcases cL.mp h with rfl|z
     ·simp at e
     ·exact z
theorem LQ{v:Value}:∀{L:List Str},¬x∈L->(L.filterMap fun n=>(List.lookup n ((x,v)::m)).map (n,·))=L.filterMap fun n=>(m.lookup n).map (n,·):=by
 intro zV
 induction zV with
 |nil=>
  exact @fun ω=>rfl
 |cons y L zI=>
  exact @fun h=>by
   haveI:(y==x)=false:=by
    cases e:y==x with
    |false=>rfl
    |true=>rw[fY]at e;subst e;exact absurd (qw ..) h
   haveI e:List.lookup y ((x,v)::m)=m.lookup y:=by simp only[vh,this]
   simp only[wX,e];rw[zI fun z=>h (zM _ z)]
theorem Rx:∀{L:List Str} {vs:List Value},vs.length=L.length->L.Nodup->(L.filterMap fun n=>((L.zip vs).lookup n).map (n,·))=L.zip vs:=by
 intro zV
 induction zV with
 |nil=>
  intro zV;rcases zV with _|⟨v,vs⟩
  ·exact @fun ω ω=>rfl
  ·exact @fun hl ω=>by simp at hl
 |cons x L zI=>
  intro zV;rcases zV with _|⟨v,vs⟩
  ·exact @fun hl ω=>by simp at hl
  ·exact @fun hl nd=>by
    simp only[xe,wX,List.lookup_cons_self,FC]
    congr 1
    exact(LQ (nu.mp nd).1).trans (zI (by simpa using hl) (nu.mp nd).2)
theorem Wj{x:Sem α}{a:α}{k:α->Sem β}(h:x=pure a):(x>>=k)=k a:=Rw h rfl
theorem aab{α β:Type}{xs:List α}{ys:List β}(h:ys= []){s:γ}{f:α×β->γ->Sem (ForInStep γ)}{k:γ->Sem δ}:(forIn (xs.zip ys) s f>>=k)=k s:=by
 subst h;exact Rw List.zip_nil_right rfl
theorem LR{dl:List PySem.Expr}(h1:po= [])(h3:ko= [])(h4:va=none)(h5:ka=none)(h6:df= .none)(as)(vs)(nd:(as.map Arg.arg).Nodup)(hl:vs.length=(as.map Arg.arg).length):
  bindArgs ⟨nm,qn,⟨po,as,va,ko,kd,ka,dl⟩,bd,sc,gl,cl,df,kw,dc,pm,an,cd,ct,bi⟩ ⟨vs,[]⟩=pure ((as.map Arg.arg).zip vs):=by
 have e:((as.map Arg.arg).filter fun n=>(((as.map Arg.arg).zip vs).lookup n).isNone)= []:=by
  rw[Nl];intro n hn
  haveI:=Iz hl hn
  simp[Option.isSome_iff_ne_none]at this;simp[this]
 have z':(((as.map Arg.arg)++ []).filterMap fun n=>(((as.map Arg.arg).zip vs).lookup n).map (n,·))=(as.map Arg.arg).zip vs:=Rw (rm ..) (Rx hl nd)
 haveI H1:¬(decide (vs.length>(as.map Arg.arg).length)&&true)=true:=by rw[hl];simp
 haveI H2:¬(!(((as.map Arg.arg).take ((as.map Arg.arg).length-(List.drop (0-(as.map Arg.arg).length) ([]:List Value)).length)).filter fun n=>(((as.map Arg.arg).zip vs).lookup n).isNone).isEmpty)=true:=by
  simp only[BG,List.length_nil,Oy,N1,e];decide
 subst h1 h3 h4 h5 h6;unfold bindArgs
 extract_lets
 apply(Wj rfl).trans
 extract_lets
 apply(Wj rfl).trans
 extract_lets
 apply(aw H1).trans;apply(aw H2).trans;exact(aab BG).trans (bz (fun b=>(pure b:Sem (List (Str×Value)))) z')
theorem IA(h1:f.params.posonlyargs.map (·.arg)= [])(h2:f.params.args.map (·.arg)=L)(h3:f.params.kwonlyargs.map (·.arg)= [])(h4:f.params.vararg.isNone=true)(h5:f.params.kwarg.isNone=true)(h6:f.defaults= .none)(nd:L.Nodup)(vs)(hl:vs.length=L.length):bindArgs f ⟨vs,[]⟩=pure (L.zip vs):=by
 subst h2;exact LR (nm:=f.name) (qn:=f.qualname) (kd:=f.params.kw_defaults) (dl:=f.params.defaults) (bd:=f.body) (sc:=f.scope) (gl:=f.globals) (bi:=f.builtins) (cl:=f.closure) (kw:=f.kwdefaults) (dc:=f.doc) (pm:=f.pyModule) (cd:=f.code) (ct:=f.closureTuple) (an:=f.annotations) (NA.mp h1) (NA.mp h3) (E4.mp h4) (E4.mp h5) h6 f.params.args vs nd hl
theorem mX{α β:Type}{f g:α->β}{l:List α}(h:l.map f=l.map g){p:α}(hi:p∈l):f p=g p:=List.map_inj_left.mp h p hi
theorem aQ{α:Type}{l:List α}(i:Nat){p:α}(h:l[i]?=some p):p∈l:=zK h
structure Tab.Seen(t:Tab)(K:Frag):Prop where
 ns:∀{x:Nat} {v:Option Value},(x,v)∈t.ns->nsIn K mainGlobals (t.nm x)=some v
 fn:∀{fd:FD} {a:Addr},(fd,a)∈t.fns->Gs K a=Gu t.nm fd
 ty:∀{a:Addr},a∈t.Xr->typeIn K (.ref a)=some (.type "function")
 Ki:∀{C:Addr},C∈t.Ki->Qg K C=true
 cls:∀{C:Addr},C∈t.cls->(plainOver K C,hasDictIn K C,makesIn K C,keepIn K (.ref C))=(true,true,true,true)
 g9:∀{C:Addr} {n:Str} {v:Option Value},((C,n),v)∈t.g9->findIn K (.ref C) n=some v
 oM:∀{d:PyData} {v:Value},(d,v)∈t.oM->B4 K d v=true
theorem Tab.seen{t:Tab}{K:Frag}(e:t.obs K=t.val):t.Seen K:=
 ⟨fun h=>mX (bz (·.1) e) h,fun h=>mX (bz (·.2.1) e) h,fun h=>mX (bz (·.2.2.1) e) h,fun h=>mX (bz (·.2.2.2.1) e) h,fun h=>mX (bz (·.2.2.2.2.1) e) h,fun h=>mX (bz (·.2.2.2.2.2.1) e) h,fun h=>mX (bz (·.2.2.2.2.2.2) e) h⟩
theorem IB{t:Tab}(S:t.Seen g.K)(X:g.K.In g.base)(Pm:g.nm=t.nm)(inj:∀x y,g.nm x=g.nm y->x=y)(h:(fd,a)∈t.fns)(nd:(fd.params.map Prod.fst).Nodup):FnAt g fd a:=by
 refine Bc fun au=>?_;have e:=S.fn h;rw[<-Pm]at e
 delta Gs Gu at e
 generalize hf:fnOf g.K a=zV
 induction zV using Oc with
 |none=>rw[hf]at e;cases e
 |some f=>
  rw[hf]at e;simp only[FC,Fg,Prod.mk.injEq]at e;obtain⟨⟨p1,p2,p3⟩,⟨p4,p5⟩,⟨p6,p7,p8⟩,⟨p9,p10⟩,xQ⟩:=e;obtain⟨o,Cb⟩:=Eb hf;refine au ?_;refine⟨o,f,X _ _ Cb.1,Cb.2,p6,p7,p8,p9,p10,AR X xQ.2,fun vals hv=>IA p1 p2 p3 p4 p5 xQ.1 ?_ vals (by simpa using hv)⟩
  haveI:(fd.params.map fun q=>g.nm q.1)=(fd.params.map Prod.fst).map g.nm:=Rw qy rfl
  exact Rw this (Fu.mpr (nd.imp fun z q=>z (inj _ _ q)))
theorem CL{α:Type}{o:Option α}{f:α->Bool}(h:o.any f=true):∃a,o=some a/\f a=true:=by
 induction o with
 |none=>cases h
 |some a=>exact⟨a,rfl,h⟩
theorem six{α:Type}{a:Array α}(h:a.size=6):∃b c d e f g,a=#[b,c,d,e,f,g]:=by
 obtain⟨l⟩:=a;rcases l with _|⟨b,_|⟨c,_|⟨d,_|⟨e,_|⟨f,_|⟨g,_|⟨i,l⟩⟩⟩⟩⟩⟩⟩<;>first|exact⟨_,_,_,_,_,_,rfl⟩|(simp at h)
theorem Ed{K:Frag}(h:clsIn K C=some cd)(ho:K.lookup C=some o):o.data= .cls cd:=by
 delta clsIn at h
 replace h:=ho▸h;obtain⟨c,d,x,z⟩:=o;induction x using Data.casesOn<;>first|exact Ns rfl h|exact bz _ (dS h)
theorem lJ(X:g.K.In g.base)(h:Qg g.K C=true)(hl:nsIn g.K mainGlobals (g.nm x)=some (some (.ref C))):uM g x C:=by
 refine Bc fun au=>?_;obtain⟨o,ho,h⟩:=CL h;obtain⟨cd,hc,h3⟩:=CL (fW.mp h).2
 haveI h:=(fW.mp h).1
 haveI hd:=Ed hc ho
 simp only[dg,fY,rp]at h h3;obtain⟨c,dd,z7⟩:=o;obtain⟨h1,h2,h4⟩:=h;clear h hc;obtain⟨k0,k1,k2,k3,k4,k5,rfl⟩:=six h2;obtain⟨nm,bs,mro,ns,qn,hdct,sn,sub,ab,col,del⟩:=cd;obtain⟨⟨⟨h5,h6⟩,hok⟩,XQ⟩:=h3;dsimp only at h1 h5 h6 hok XQ hd;subst h1 h5 h6 hd h4;exact au ⟨nm,qn,ns,bs,hdct,sn,sub,ab,col,dd,k0,k1,k2,k3,k5,_,X _ _ ho,.of_isNs (isNs_of_in X hok),nsMap_none_of_in X hok XQ,i8 X hl⟩
theorem IC:(oU.all fun p=>LH v8 p.2)=true:=by rfl
theorem aac(f)(fd)(h:v8.fn f=some fd):LH v8 fd=true:=jL.mp IC _ (dO h)
@[elab_as_elim] theorem lk2{α:Type}{P:(x:Nat)->(v:α)->Prop}{x a b:Nat}{v u w:α}(h:look x [(a,u),(b,w)] = some v)(p:P a u)(q:P b w):P x v:=Al (P:=fun z:Nat × α=>P z.1 z.2) p (Al q An) (x,v) (dO h)
noncomputable def xL8:List (Nat×Value):=[(11,.ref 24),(12,.ref 37),(13,.ref 50),(14,.ref 63),(15,.type "ValueError")]
def xA8(x:Nat):Option Value:=look x xL8
def PC(w:World)(s:Shared)(K:Frag):Gl:=⟨PySem.Challenge.rw_sx_vvault_8.row.prog,w,K,s.heap,#[],s.os,v8,iz aX,TR,xA8⟩
section
theorem Wk:∀x y,iz aX x=iz aX y->x=y:=Iu (by kernel_rfl) (by kernel_rfl)
theorem dU:aX.all (fun s=>!(s== "__name__"))=true:=by kernel_rfl
theorem dW:mW "__name__" =true:=by kernel_rfl
theorem Wl{K:Frag}(X:K.In s.heap)(S:mI.Seen K)(h:(f,fd)∈oU):∃a,Gv f=some a/\FnAt (PC w s K) fd a:=by
 have q:=jL.mp (by kernel_rfl:(oU.all fun p=>(Gv p.1).isSome&&decide (p.2.params.map Prod.fst).Nodup)=true) _ h;rw[dg,iZ]at q;obtain⟨a,e⟩:=rk.mp q.1;have hm:(fd,a)∈oU.map fun p=>(p.2,(Gv p.1).getD 0):=bU.mpr ⟨(f,fd),h,by dsimp only;rw[show Gv f=some a from e];rfl⟩;exact⟨a,e,IB S X rfl Wk hm q.2⟩
theorem LS{K:Frag}(S:mI.Seen K)(h:(cl,m,f)∈kz)(hC:TR cl=some C):kC cl m=false/\ ∃a,Gv f=some a/\findIn K (.ref C) (iz aX m)=some (some (.ref a))/\typeIn K (.ref a)=some (.type "function"):=by
 have q:=jL.mp (by kernel_rfl:(kz.all fun p=>(Gv p.2.2).isSome&&!kC p.1 p.2.1)=true) _ h;rw[dg,rp]at q;obtain⟨a,e⟩:=rk.mp q.1;refine⟨q.2,a,e,S.g9 (iF _ (u7 _ (bU.mpr ⟨(cl,m,f),h,?_⟩))),S.ty (bU.mpr ⟨(f,a),dO e,rfl⟩)⟩;show(((TR cl).getD 0,_),some (Value.ref ((Gv f).getD 0)))=_;rw[hC,show Gv f=some a from e];rfl
theorem Ry(h:kC cl f=true):∃p,p∈qP/\iz aX p.2=iz aX f:=by
 obtain⟨p,h1,h2⟩:=tX.mp h;rw[dg,fY,fY]at h2;exact⟨p,h1,by rw[h2.2]⟩
theorem Rz{K:Frag}(S:mI.Seen K)(h:kC cl f=true)(hC:TR cl=some C):findIn K (.ref C) (iz aX f)=some none:=by
 obtain⟨p,h1,h2⟩:=tX.mp h;rw[dg,fY,fY]at h2;refine S.g9 (u7 _ (bU.mpr ⟨p,h1,?_⟩));rw[h2.1,h2.2,hC];rfl
theorem aad{K:Frag}{lo:List Str}(X:K.In s.heap)(S:mI.Seen K)(T:Top pr lo LP mg mb s.heap):(PC w s K).Ok Gv where
 inj:=Wk
 o4:=wb (by kernel_rfl) (by kernel_rfl)
 cld:=wb (by kernel_rfl) (by kernel_rfl)
 O7:=X
 nolimit:=T.nolimit
 oM:=fun x d h=>Al (P:=fun p:Nat×D=>∃v,Looks (model _ _) s.heap (nsGet mainGlobals (iz aX p.1)) (some v)/\aU w (fun ω=>False) s.heap v p.2) (a:=(39,dy)) (⟨.ref 306,i8 X (S.ns (x:=39) (v:=some (.ref 306)) (iF _ (aQ 18 rfl))),jB X _ _ (S.oM (d:=dy) (v:=.ref 306) (aQ 0 rfl))⟩) (Al (a:=(40,fS)) (⟨.ref 307,i8 X (S.ns (x:=40) (v:=some (.ref 307)) (iF _ (aQ 19 rfl))),jB X _ _ (S.oM (d:=fS) (v:=.ref 307) (aQ 1 rfl))⟩) (Al (a:=(127,dD)) (⟨.ref 316,i8 X (S.ns (x:=127) (v:=some (.ref 316)) (iF _ (aQ 20 rfl))),jB X _ _ (S.oM (d:=dD) (v:=.ref 316) (aQ 2 rfl))⟩) (Al (a:=(128,dE)) (⟨.ref 329,i8 X (S.ns (x:=128) (v:=some (.ref 329)) (iF _ (aQ 21 rfl))),jB X _ _ (S.oM (d:=dE) (v:=.ref 329) (aQ 3 rfl))⟩) (Al (a:=(129,gF)) (⟨.ref 339,i8 X (S.ns (x:=129) (v:=some (.ref 339)) (iF _ (aQ 22 rfl))),jB X _ _ (S.oM (d:=gF) (v:=.ref 339) (aQ 4 rfl))⟩) An)))) _ (dO h)
 fn:=fun f fd h=>Wl X S (dO h)
 gfn:=fun f a hl h=>i8 X (S.ns (x:=f) (v:=some (.ref a)) (u7 _ (bU.mpr ⟨(f,a),vj.mpr ⟨dO h,bP hl⟩,rfl⟩)))
 bf:=by
  intro b;cases b
  ·exact⟨i8 X (S.ns (x:=0) (v:=none) (iF _ (aQ 0 rfl))),dT (l:=aX) T dU dW (oP .len) (by kernel_rfl)⟩
  ·exact⟨i8 X (S.ns (x:=1) (v:=none) (iF _ (aQ 1 rfl))),dT (l:=aX) T dU dW (oP .list) (by kernel_rfl)⟩
  ·exact⟨i8 X (S.ns (x:=2) (v:=none) (iF _ (aQ 2 rfl))),dT (l:=aX) T dU dW (oP .sum) (by kernel_rfl)⟩
  ·exact⟨i8 X (S.ns (x:=3) (v:=none) (iF _ (aQ 3 rfl))),dT (l:=aX) T dU dW (oP .min) (by kernel_rfl)⟩
  ·exact⟨i8 X (S.ns (x:=4) (v:=none) (iF _ (aQ 4 rfl))),dT (l:=aX) T dU dW (oP .max) (by kernel_rfl)⟩
  ·exact⟨i8 X (S.ns (x:=5) (v:=none) (iF _ (aQ 5 rfl))),dT (l:=aX) T dU dW (oP .sorted) (by kernel_rfl)⟩
  ·exact⟨i8 X (S.ns (x:=6) (v:=none) (iF _ (aQ 6 rfl))),dT (l:=aX) T dU dW (oP .dict) (by kernel_rfl)⟩
  ·exact⟨i8 X (S.ns (x:=7) (v:=none) (iF _ (aQ 7 rfl))),dT (l:=aX) T dU dW (oP .range) (by kernel_rfl)⟩
  ·exact⟨i8 X (S.ns (x:=8) (v:=none) (iF _ (aQ 8 rfl))),dT (l:=aX) T dU dW (oP .zip) (by kernel_rfl)⟩
 ty:=⟨i8 X (S.ns (x:=9) (v:=none) (iF _ (aQ 9 rfl))),dT (l:=aX) T dU dW 9 (by kernel_rfl)⟩
 bo:=⟨i8 X (S.ns (x:=10) (v:=none) (iF _ (aQ 10 rfl))),dT (l:=aX) T dU dW 10 (by kernel_rfl)⟩
 cls:=by
  intro cl C h;refine lk2 (show look cl [(16,163),(17,282)]=some C from h) ?_ ?_
  ·have q:=S.cls (C:=163) (aQ 0 rfl);exact⟨i8 X (S.ns (x:=16) (v:=some (.ref 163)) (iF _ (aQ 16 rfl))),(S.g9 (C:=163) (n:=Str.ofString "__getattribute__") (v:=some (.builtin "object.__getattribute__")) (iF _ (iF _ (aQ 0 rfl)))),(S.g9 (C:=163) (n:=Str.ofString "__getattr__") (v:=none) (iF _ (iF _ (aQ 1 rfl)))),(S.g9 (C:=163) (n:=Str.ofString "__setattr__") (v:=some (.builtin "object.__setattr__")) (iF _ (iF _ (aQ 2 rfl)))),bz (·.1) q,bz (·.2.1) q,bz (·.2.2.1) q⟩
  ·have q:=S.cls (C:=282) (aQ 1 rfl);exact⟨i8 X (S.ns (x:=17) (v:=some (.ref 282)) (iF _ (aQ 17 rfl))),(S.g9 (C:=282) (n:=Str.ofString "__getattribute__") (v:=some (.builtin "object.__getattribute__")) (iF _ (iF _ (aQ 3 rfl)))),(S.g9 (C:=282) (n:=Str.ofString "__getattr__") (v:=none) (iF _ (iF _ (aQ 4 rfl)))),(S.g9 (C:=282) (n:=Str.ofString "__setattr__") (v:=some (.builtin "object.__setattr__")) (iF _ (iF _ (aQ 5 rfl)))),bz (·.1) q,bz (·.2.1) q,bz (·.2.2.1) q⟩
 init:=by
  intro cl f h;refine lk2 (show look cl [(16,1000),(17,1004)]=some f from h) ?_ ?_
  ·exact⟨163,141,rfl,rfl,(S.g9 (C:=163) (n:=Str.ofString "__init__") (v:=some (.ref 141)) (iF _ (iF _ (aQ 6 rfl)))),(S.ty (a:=141) (aQ 20 rfl))⟩
  ·exact⟨282,181,rfl,rfl,(S.g9 (C:=282) (n:=Str.ofString "__init__") (v:=some (.ref 181)) (iF _ (iF _ (aQ 7 rfl)))),(S.ty (a:=181) (aQ 24 rfl))⟩
 gv:=fun cl m f C h hC=>LS S (oN h) hC
 gW:=fun cl=>⟨qP.map fun p=>iz aX p.2,by decide,fun f h=>bU.mpr (Ry h)⟩
 fld:=fun cl f C h hC=>Rz S h hC
theorem RB{K:Frag}(S:mI.Seen K):(PC w s K).Wf where
 Ir:=fun cl m f h=>rk.mp (jL.mp (by kernel_rfl:(kz.all fun p=>(O0 p.2.2).isSome)=true) _ (oN h))
 keep:=by
  intro cl C h;refine lk2 (show look cl [(16,163),(17,282)]=some C from h) ?_ ?_
  ·exact bz (·.2.2.2) (S.cls (C:=163) (aQ 0 rfl))
  ·exact bz (·.2.2.2) (S.cls (C:=282) (aQ 1 rfl))
theorem aae{K:Frag}{lo:List Str}(X:K.In s.heap)(S:mI.Seen K)(T:Top pr lo LP mg mb s.heap):Lr (PC w s K)where
 CC:=fun x h=>by
  haveI q:=jL.mp (by kernel_rfl:((List.range 16).all fun x=>!Ub x||(xA8 x).isSome)=true) x (jn.mpr (vg (bR h).2))
  rw[h]at q;exact q
 cls:=fun x cl h=>Al (P:=fun p:Nat×Value=>(∃C,p.2= .ref C/\uM (PC w s K) p.1 C)\/(p.2= .type "ValueError" /\HV (PC w s K) p.1)) (a:=(11,Value.ref 24)) (.inl ⟨24,rfl,lJ X (S.Ki (C:=24) (aQ 0 rfl)) (S.ns (x:=11) (v:=some (.ref 24)) (iF _ (aQ 12 rfl)))⟩) (Al (a:=(12,Value.ref 37)) (.inl ⟨37,rfl,lJ X (S.Ki (C:=37) (aQ 1 rfl)) (S.ns (x:=12) (v:=some (.ref 37)) (iF _ (aQ 13 rfl)))⟩) (Al (a:=(13,Value.ref 50)) (.inl ⟨50,rfl,lJ X (S.Ki (C:=50) (aQ 2 rfl)) (S.ns (x:=13) (v:=some (.ref 50)) (iF _ (aQ 14 rfl)))⟩) (Al (a:=(14,Value.ref 63)) (.inl ⟨63,rfl,lJ X (S.Ki (C:=63) (aQ 3 rfl)) (S.ns (x:=14) (v:=some (.ref 63)) (iF _ (aQ 15 rfl)))⟩) (Al (a:=(15,Value.type "ValueError")) (.inr ⟨rfl,i8 X (S.ns (x:=15) (v:=none) (iF _ (aQ 11 rfl))),dT (l:=aX) T dU dW 15 (by kernel_rfl)⟩) An)))) _ (dO h)
 inj:=fun x y cl h1 h2=>by
  have q:=jL.mp (jL.mp (by kernel_rfl:(xL8.all fun p=>xL8.all fun q=>!(p.2==q.2)||p.1==q.1)=true) _ (dO h1)) _ (dO h2);simpa using q
 deep:=by
  intro x cl h hd;replace hd:(x==13)=true:=hd;rw[fY]at hd;subst hd;cases h;exact⟨50,rfl⟩
theorem LU{K:Frag}(S:mI.Seen K):nsIn K mainGlobals "law" =some (some (.ref 389)):=S.ns (x:=36) (v:=some (.ref 389)) (u7 _ (aQ 9 rfl))
end
namespace L
open PySem
inductive Cl where
 |rel(op:CmpOp)(a b:D)(r:Bool)
 |call(n f:Nat)(rs:List RV)(os:List bt)(R:gu)
 |sort(xs ys:List D)
 |dict(xs:List D)(kvs:List (D×D))
 |val(x:Option D)(r:D)
 |set(xs:List D)(j:Int)(v:D)(ys:List D)
 |lim(xs:List D)
 |comp(n:Nat)(elt:ME)(t:MT)(ifs:List ME)(items:List D)(aW:List (Nat×LV))(ds:List D)
 |XY(n:Int)(xs:List D)
 |loop(n:Nat)(t:MT)(b:List MS)(items:List D)(st:St)(R:Res dJ)
noncomputable def Cl.ctorIdx(x:Cl):Nat:=Cl.casesOn x (fun ω ω ω ω=>0) (fun ω ω ω ω ω=>1) (fun ω ω=>2) (fun ω ω=>3) (fun ω ω=>4) (fun ω ω ω ω=>5) (fun ω=>6) (fun ω ω ω ω ω ω ω=>7) (fun ω ω=>8) (fun ω ω ω ω ω ω=>9)
structure s6 where
 bs:List Bool
 cs:List gu
 ss:List (List D)
 ds:List (List (D×D))
 vs:List D
 ts:List (List D)
 fs:List (Res dJ)
 rs:List (List D)
 ps:List (List D)
 cl:List Cl
def Cl.holds(P:dH):Cl->Prop
 |.rel op a b r=>bp op a b=some r
 |.call n f rs os R=>ae P n f rs os=R
 |.sort xs ys=>gA xs=some ys
 |.dict xs k=>dictFrom xs []=some k/\xs.length<=Mine.Internal.lim
 |.val x r=>x=some r
 |.set xs j v ys=>ku xs j v=some ys
 |.lim xs=>xs.length<=Mine.Internal.lim
 |.comp n elt t ifs items aW ds=>cv (ev P (ae P n) elt) [] t (bS P (ae P n) ifs) items ⟨[],aW,[],[]⟩=some ds/\ds.length<=Mine.Internal.lim
 |.XY n xs=>gZ n=some xs
 |.loop n t b items st R=>aO t (execs P (ae P n) b) items st=R
inductive All(P:dH):List Cl->Prop
 |nil:All P []
 |cons{c:Cl}{r:List Cl}(h:c.holds P)(t:All P r):All P (c::r)
theorem All.inv(h:All P (c::r)):c.holds P/\All P r:=by cases h with|cons a b=>exact⟨a,b⟩
inductive OR(α:Type)where
 |ok(a:α)(st:St)(o:s6)
 |exc(x:Nat)(st:St)(o:s6)
 |bad
noncomputable def OR.ctorIdx{α:Type}(x:(OR α)):Nat:=OR.casesOn x (fun ω ω ω=>0) (fun ω ω ω=>1) 2
abbrev OM(α:Type):=St->s6->OR α
noncomputable def OM.bind{α β:Type}(m:OM α)(f:α->OM β):OM β:=fun st o=>match m st o with
 |.ok a st o=>f a st o
 |.exc x st o=>.exc x st o
 |.bad=>.bad
noncomputable def lift{α:Type}(g:St->Res α):OM α:=fun st o=>match g st with
 |.ok a st=>.ok a st o
 |.exc x st=>.exc x st o
 |.bad=>.bad
def G{α:Type}(P:dH)(f:OM α)(g:St->Res α):Prop:=∀st o,match f st o with
 |.ok a aE o'=>All P o'.cl->All P o.cl/\g st= .ok a aE
 |.exc x aE o'=>All P o'.cl->All P o.cl/\g st= .exc x aE
 |.bad=>True
section
theorem G.lift{P:dH}{α:Type}(g:St->Res α):G P (lift g) g:=by
 intro st o;unfold L.lift;cases g st<;>simp
theorem G.bad(g:St->Res α):G P (fun ω ω=>.bad) g:=fun ω ω=>trivial
theorem G.bind{f:OM α}{g:St->Res α}{f':α->OM β}{g':α->St->Res β}(h:G P f g)(h':∀a,G P (f' a) (g' a)):G P (f.bind f') (fun st=>(g st).bind (g' ·)):=by
 intro st o
 haveI q:=h st o
 delta OM.bind
 dsimp only;generalize e:f st o=zV
 induction zV using OR.casesOn with
 |ok a st1 o1=>
  rw[e]at q
  haveI q2:=h' a st1 o1
  dsimp only;generalize e2:f' a st1 o1=zV
  induction zV using OR.casesOn with
  |ok b st2 o2=>rw[e2]at q2;intro hc;obtain⟨a1,a2⟩:=q2 hc;obtain⟨b1,b2⟩:=q a1;exact⟨b1,Rw b2 a2⟩
  |exc x st2 o2=>rw[e2]at q2;intro hc;obtain⟨a1,a2⟩:=q2 hc;obtain⟨b1,b2⟩:=q a1;exact⟨b1,Rw b2 a2⟩
  |bad=>trivial
 |exc x st1 o1=>rw[e]at q;intro hc;obtain⟨b1,b2⟩:=q hc;exact⟨b1,Rw b2 rfl⟩
 |bad=>trivial
end
structure ir where
 val:OM RV
 gw:OM Bool
 pk:OM D
 it:OM (List D×Bool)
def RC(r:RV):OM Bool:=match r with
 |.dat (.list xs)=>fun st o=>.ok (!xs.isEmpty) st {o with cl:=.lim xs::o.cl}
 |.dat d=>lift fun st=>opt (gY d) st
 |.ref _=>fun ω ω=>.bad
def oPk(r:RV):OM D:=lift fun st=>match r with|.dat d=>.ok d st|.ref _=>.bad
def oIt(r:RV):OM (List D×Bool):=lift fun st=>match r with|.dat d=>opt ((ue d).map (·,false)) st|.ref _=>.bad
def l7(v:OM RV):ir:=⟨v,v.bind RC,v.bind oPk,v.bind oIt⟩
def ir.dat(e:ir):OM D:=e.val.bind oPk
def kW(v:OM D):ir:=l7 (v.bind fun d=>lift fun st=>.ok (.dat d) st)
noncomputable def pj{α:Type}:OM α:=fun ω ω=>.bad
def PD(b:OM Bool):ir:={l7 (b.bind fun b=>lift fun st=>.ok (.dat (.bool b)) st)with gw:=b}
def sy(b:OM Bool):ir:={l7 pj with gw:=b}
def wc(i:OM (List D×Bool)):ir:={l7 pj with it:=i}
def kY(e:Ev):ir:=⟨lift e.val,lift e.gw,lift e.pk,lift e.it⟩
structure GE(P:dH)(o:ir)(e:Ev):Prop where
 val:G P o.val e.val
 gw:G P o.gw e.gw
 pk:G P o.pk e.pk
 it:G P o.it e.it
section
theorem GE.lift(e):GE P (kY e) e:=⟨.lift _,.lift _,.lift _,.lift _⟩
theorem G.gw(r):G P (RC r) (fun st=>match r with|.dat d=>opt (gY d) st|.ref _=>.bad):=by
 induction r with
 |ref k=>exact .bad _
 |dat d=>
  induction d using PyData.casesOn with
  |list xs=>
   intro st o hc;refine⟨hc.inv.2,?_⟩;show opt (if xs.length<=lim then _ else _) st=_;refine Rw (if_pos (show xs.length<=lim from hc.inv.1)) ?_;rfl
  |none=>exact G.lift fun st=>opt (gY .none) st
  |bool b=>exact G.lift fun st=>opt (gY (.bool b)) st
  |int b=>exact G.lift fun st=>opt (gY (.int b)) st
  |str b=>exact G.lift fun st=>opt (gY (.str b)) st
  |tuple b=>exact G.lift fun st=>opt (gY (.tuple b)) st
  |dict b=>exact G.lift fun st=>opt (gY (.dict b)) st
theorem GE.vl(h:G P v f):GE P (l7 v) (bc f):=⟨h,h.bind fun ω=>.gw _,h.bind fun ω=>.lift _,h.bind fun ω=>.lift _⟩
theorem GE.dat(h:GE P o e):G P o.dat e.dat:=h.val.bind fun ω=>.lift _
theorem GE.dt(h:G P v f):GE P (kW v) (bV f):=.vl (h.bind fun ω=>.lift _)
theorem GE.bl(h:G P v f):GE P (PD v) (ofBool f):=
 haveI q:GE P (l7 (v.bind fun b=>L.lift fun st=>.ok (.dat (.bool b)) st)) (bc fun st=>(f st).bind fun b st=>.ok (.dat (.bool b)) st):=.vl (h.bind fun ω=>.lift _)
 ⟨q.val,h,q.pk,q.it⟩
theorem GE.no:GE P (l7 pj) (bc pV):=.vl (.bad _)
theorem GE.ot(h:G P v f):GE P (sy v) (lB f):=⟨no.val,h,no.pk,no.it⟩
theorem GE.oi(h:G P v f):GE P (wc v) (rz f):=⟨no.val,no.gw,no.pk,h⟩
end
inductive qp(P:dH):List ir->List Ev->Prop
 |nil:qp P [] []
 |cons{o:ir}{e:Ev}{os:List ir}{es:List Ev}(h:GE P o e)(t:qp P os es):qp P (o::os) (e::es)
noncomputable def AU:List ir->OM (List RV)
 | []=>lift fun st=>.ok [] st
 |e::es=>e.val.bind fun r=>(AU es).bind fun rs=>lift fun st=>.ok (r::rs) st
noncomputable def RD:List ir->OM (List D)
 | []=>lift fun st=>.ok [] st
 |e::es=>e.dat.bind fun r=>(RD es).bind fun rs=>lift fun st=>.ok (r::rs) st
def RE:Option ir->OM (Option D)
 |none=>lift fun st=>.ok none st
 |some e=>e.dat.bind fun d=>lift fun st=>.ok (some d) st
noncomputable def ID(op:BoolOp):List ir->OM Bool
 | []=>lift fun st=>.ok (op== .And) st
 |e::es=>e.gw.bind fun b=>match op,b with
  |.And,false=>lift fun st=>.ok false st
  |.Or,true=>lift fun st=>.ok true st
  |_,_=>ID op es
section
theorem qp.Ks{os:List ir}(h:qp P os es):G P (AU os) (g4 es):=by
 induction h with
 |nil=>exact .lift _
 |cons h _ ih=>exact h.val.bind fun ω=>ih.bind fun ω=>.lift _
theorem qp.dss{os:List ir}(h:qp P os es):G P (RD os) (gx es):=by
 induction h with
 |nil=>exact .lift _
 |cons h _ ih=>exact h.dat.bind fun ω=>ih.bind fun ω=>.lift _
theorem qp.all(op){os:List ir}(h:qp P os es):G P (ID op os) (mF op es):=by
 induction h with
 |nil=>exact .lift _
 |cons h _ ih=>
  refine h.gw.bind fun b=>?_;induction op<;>induction b<;>first|exact .lift _|exact ih
end
def ask(ls:List Nat)(p:Pos)(op:CmpOp)(a b:D):OM Bool:=fun st o=>bif ls.contains p.line then(match o.bs with
  |r::bs=>.ok r st {o with bs:=bs,cl:=.rel op a b r::o.cl}
  | []=>.bad)else lift (opt (bp op a b)) st o
theorem G.ask{P:dH}{ls:List Nat}{p:Pos}{op:CmpOp}{a b:D}:G P (ask ls p op a b) (opt (bp op a b)):=by
 intro st o;unfold L.ask
 cases ls.contains p.line with
 |false=>exact G.lift _ st o
 |true=>
  cases e:o.bs with
  |nil=>trivial
  |cons r bs=>intro hc;obtain⟨h1,h2⟩:=hc.inv;exact⟨h2,by rw[show bp op a b=some r from h1];rfl⟩
noncomputable def AV(xs:List D):OM D:=fun st o=>match o.ss with
  |r::ss=>.ok (.list r) st {o with ss:=ss,cl:=.sort xs r::o.cl}
  | []=>.bad
theorem G.AV{P:dH}{xs:List D}:G P (AV xs) (opt ((gA xs).map .list)):=by
 intro st o;unfold L.AV
 cases e:o.ss with
 |nil=>trivial
 |cons r bs=>intro hc;obtain⟨h1,h2⟩:=hc.inv;exact⟨h2,by rw[show gA xs=some r from h1];rfl⟩
noncomputable def IE(xs:List D):OM D:=fun st o=>match o.ds with
  |r::ds=>.ok (.dict r) st {o with ds:=ds,cl:=.dict xs r::o.cl}
  | []=>.bad
theorem G.IE{P:dH}{xs:List D}:G P (IE xs) (fun st=>if xs.length<=lim then opt ((dictFrom xs []).map .dict) st else .bad):=by
 intro st o;unfold L.IE
 cases e:o.ds with
 |nil=>trivial
 |cons r bs=>intro hc;obtain⟨h1,h2⟩:=hc.inv;exact⟨h2,by show(if _ then _ else _)=_;rw[if_pos h1.2,h1.1];rfl⟩
def ki(vl:List Nat)(p:Pos)(x:Option D):OM D:=fun st o=>bif vl.contains (p.line*1000000+p.col*1000+p.endCol)then(match o.vs with
  |r::vs=>.ok r st {o with vs:=vs,cl:=.val x r::o.cl}
  | []=>.bad)else lift (opt x) st o
theorem G.ki{P:dH}{vl:List Nat}{p:Pos}{x:Option D}{g:St->Res D}(hg:∀st,g st=opt x st):G P (ki vl p x) g:=by
 intro st o;unfold L.ki;rw[hg]
 cases vl.contains (p.line*1000000+p.col*1000+p.endCol)with
 |false=>exact G.lift _ st o
 |true=>
  cases e:o.vs with
  |nil=>trivial
  |cons r bs=>intro hc;obtain⟨h1,h2⟩:=hc.inv;exact⟨h2,by rw[show x=some r from h1];rfl⟩
def IF(vl:List Nat)(p:Pos)(n:Int):OM (List D×Bool):=fun st o=>bif vl.contains (p.line*1000000+p.col*1000+p.endCol)then(match o.rs with
  |r::rs=>.ok (r,false) st {o with rs:=rs,cl:=.XY n r::o.cl}
  | []=>.bad)else lift (opt ((gZ n).map (·,false))) st o
theorem G.IF{P:dH}{vl:List Nat}{p:Pos}{n:Int}:G P (IF vl p n) (opt ((gZ n).map (·,false))):=by
 intro st o;unfold L.IF
 cases vl.contains (p.line*1000000+p.col*1000+p.endCol)with
 |false=>exact G.lift _ st o
 |true=>
  cases e:o.rs with
  |nil=>trivial
  |cons r bs=>intro hc;obtain⟨h1,h2⟩:=hc.inv;exact⟨h2,by rw[show gZ n=some r from h1];rfl⟩
def wd(d:D):Option D:=(xp d).map fun n=>.int n
def CM(d:D):Option D:=(xt d).bind fun xs=>if xs.length<=lim then some (.list xs)else none
theorem Ee(d)(st):(match xt d with|some xs=>if xs.length<=lim then .ok (.list xs) st else .bad|none=>.bad:Res D)=opt (CM d) st:=by
 delta CM
 generalize xt d=zV
 induction zV using Oc with
 |none=>rfl
 |some xs=>
  dsimp only[Option.bind_some];by_cases c:xs.length<=lim
  ·exact Rw (if_pos c) (Rw (if_pos c) rfl)
  ·exact Rw (aw c) (Rw (aw c) rfl)
inductive OC where
 |ok(r:RV)(os:List bt)(o:s6)
 |exc(x:Nat)(os:List bt)(o:s6)
 |bad
noncomputable def OC.ctorIdx(x:OC):Nat:=OC.casesOn x (fun ω ω ω=>0) (fun ω ω ω=>1) 2
abbrev mz:=Nat->List RV->List bt->s6->OC
def GC(P:dH)(oc:mz)(c:Call):Prop:=∀f rs os o,match oc f rs os o with
 |.ok r QT o'=>All P o'.cl->All P o.cl/\c f rs os= .ok r QT
 |.exc x QT o'=>All P o'.cl->All P o.cl/\c f rs os= .exc x QT
 |.bad=>True
noncomputable def pn(oc:mz)(f:Nat)(rs:List RV):OM RV:=fun st o=>match oc f rs st.objs o with
  |.ok r os o=>.ok r {st with objs:=os} o
  |.exc x os o=>.exc x {st with objs:=os} o
  |.bad=>.bad
noncomputable def PE(oc:mz)(f:Nat)(rs:List RV):OM RV:=fun st o=>match oc f rs [] o with
  |.ok (.dat d) _ o=>.ok (.dat d) st o
  |.exc x _ o=>.exc x st o
  |_=>.bad
def AW(oc:mz)(f:Nat)(rs:List RV):OM RV:=match oO rs with
 |some _=>PE oc f rs
 |none=>pn oc f rs
noncomputable def RF(P:dH)(oc:mz)(c:Nat)(rs:List RV):OM RV:=fun st o=>match P.init c with
  |none=>.bad
  |some f=>(match oc f (.ref st.objs.length::rs) (st.objs++ [⟨true,c,[]⟩]) o with
   |.ok (.dat .none) os o=>.ok (.ref st.objs.length) {st with objs:=os} o
   |_=>.bad)
section
theorem GC.bu(h:GC P oc c)(f)(rs):G P (pn oc f rs) (bM c f rs):=by
 intro st o
 haveI q:=h f rs st.objs o
 unfold pn;generalize e:oc f rs st.objs o=zV
 induction zV using OC.casesOn with
 |ok r os o1=>rw[e]at q;intro hc;obtain⟨h1,h2⟩:=q hc;exact⟨h1,by unfold bM;rw[h2]⟩
 |exc x os o1=>rw[e]at q;intro hc;obtain⟨h1,h2⟩:=q hc;exact⟨h1,by unfold bM;rw[h2]⟩
 |bad=>trivial
theorem GC.call(h:GC P oc c)(f)(rs):G P (AW oc f rs) (g5 c f rs):=by
 unfold AW;generalize ea:oO rs=zV
 induction zV using Oc with
 |none=>
  have:=h.bu f rs;intro st o;have q:=this st o;dsimp only;generalize e:pn oc f rs st o=zV
  induction zV using OR.casesOn with
  |ok r s1 o1=>rw[e]at q;intro hc;obtain⟨h1,h2⟩:=q hc;exact⟨h1,by unfold g5;rw[ea];exact h2⟩
  |exc x os o1=>rw[e]at q;intro hc;obtain⟨h1,h2⟩:=q hc;exact⟨h1,by unfold g5;rw[ea];exact h2⟩
  |bad=>trivial
 |some ds=>
  intro st o;have q:=h f rs [] o;dsimp only;unfold PE;generalize e:oc f rs [] o=zV
  induction zV using OC.casesOn with
  |ok r os o1=>
   rw[e]at q
   induction r with
   |dat d=>intro hc;obtain⟨h1,h2⟩:=q hc;exact⟨h1,by unfold g5;rw[ea];dsimp only;rw[h2]⟩
   |ref k=>trivial
  |exc x os o1=>rw[e]at q;intro hc;obtain⟨h1,h2⟩:=q hc;exact⟨h1,by unfold g5;rw[ea];dsimp only;rw[h2]⟩
  |bad=>trivial
theorem GC.new(h:GC P oc c)(cl)(rs):G P (RF P oc cl rs) (fun st=>match P.init cl with
  |none=>.bad
  |some f=>(match c f (.ref st.objs.length::rs) (st.objs++ [⟨true,cl,[]⟩])with
   |.ok (.dat .none) os=>.ok (.ref st.objs.length) {st with objs:=os}
   |_=>.bad)):=by
 intro st o
 delta RF
 generalize P.init cl=zV
 induction zV using Oc with
 |none=>trivial
 |some f=>
  haveI q:=h f (.ref st.objs.length::rs) (st.objs++ [⟨true,cl,[]⟩]) o
  dsimp only;generalize e:oc f (.ref st.objs.length::rs) (st.objs++ [⟨true,cl,[]⟩]) o=zV
  induction zV using OC.casesOn with
  |ok r os o1=>
   simp only[e]at q
   induction r with
   |dat d=>induction d using PyData.casesOn<;>first|trivial|(intro hc;obtain⟨h1,h2⟩:=q hc;exact⟨h1,Rw h2 rfl⟩)
   |ref k=>trivial
  |exc x os o1=>trivial
  |bad=>trivial
end
noncomputable def pq(f:D->s6->Option (List D×s6)):List D->s6->Option (List D×s6)
 | [],o=>some ([],o)
 |d::ds,o=>match f d o with
  |none=>none
  |some (xs,o)=>match pq f ds o with
   |none=>none
   |some (ys,o)=>some (xs++ys,o)
theorem IG{f:D->s6->Option (List D×s6)}{d:D}{ds:List D}{o:s6}:pq f (d::ds) o=match f d o with
  |none=>none
  |some (xs,o)=>match pq f ds o with
   |none=>none
   |some (ys,o)=>some (xs++ys,o):=rfl
def IH(t:MT)(ifs:List ir)(st:St)(k:St->St->s6->Option (List D×s6))(d:D)(o:s6):Option (List D×s6):=match mn t d with
   |none=>none
   |some b=>
    if b.all (fun x=>(look x.1 st.cmp).isNone)=false then none else
    match ID .And ifs {st with cmp:=b++st.cmp} o with
    |.ok false st2 o=>if st2.objs.isEmpty then some ([],o)else none
    |.ok true st2 o=>k {st with cmp:=b++st.cmp} st2 o
    |_=>none
def n8(elt:ir)(t:MT)(ifs:List ir)(items:List D)(st:St):s6->Option (List D×s6):=pq (IH t ifs st fun ω st2 o=>match elt.dat st2 o with|.ok v gB o=>if gB.objs.isEmpty then some ([v],o)else none|_=>none) items
def Ef(c:Bool)(lv:Nat)(elt:ME)(t:MT)(ifs:List ME)(oe:ir)(oi:List ir)(items:List D):OM (List D):=fun st o=>if st.aW.all (fun x=>dj x.2)=false then .bad else bif c then(match o.ps with
  |ds::ps=>.ok ds st {o with ps:=ps,cl:=.comp lv elt t ifs items st.aW ds::o.cl}
  | []=>.bad)else match n8 oe t oi items ⟨[],st.aW,[],[]⟩ o with
  |some (ds,o)=>if ds.length<=lim then .ok ds st o else .bad
  |none=>.bad
section
theorem CN(q:∀d o xs o',f d o=some (xs,o')->All P o'.cl->All P o.cl/\h d=some xs):
  ∀ds o xs o',pq f ds o=some (xs,o')->All P o'.cl->All P o.cl/\iH (ds.map h)=some xs
 | []=>@fun o xs o' e hc=>by cases e;exact⟨hc,rfl⟩
 |d::ds=>@fun o xs o' e hc=>by
  refine Bc fun au=>?_;replace e:=IG▸e;generalize e1:f d o=zV
  induction zV using Oc with
  |none=>rw[e1]at e;cases e
  |some r=>
   replace e:=e1▸e;dsimp only at e;generalize e2:pq f ds r.2=zV
   induction zV using Oc with
   |none=>rw[e2]at e;injection e
   |some r2=>
    rw[e2]at e;cases e;obtain⟨a1,a2⟩:=CN q ds r.2 r2.1 _ e2 hc;obtain⟨b1,b2⟩:=q d o r.1 r.2 e1 a1;refine au ?_;refine⟨b1,?_⟩;show iH (h d::ds.map h)=_;rw[b2,Ka,a2];rfl
theorem RG(hi:qp P ifs es){st:St}{h:St->St->Option (List D)}(hk:∀st1 st2 o xs o',k st1 st2 o=some (xs,o')->All P o'.cl->All P o.cl/\h st1 st2=some xs)(d)(o)(xs)(o')(e:IH t ifs st k d o=some (xs,o'))(hc:All P o'.cl):All P o.cl/\(match mn t d with
   |none=>none
   |some b=>
    if b.all (fun x=>(look x.1 st.cmp).isNone)=false then none else
    let st1:St:={st with cmp:=b++st.cmp}
    match mF .And es st1 with
    |.ok false st2=>if st2.objs.isEmpty then some []else none
    |.ok true st2=>h st1 st2
    |_=>none)=some xs:=by
 delta IH at e
 generalize eb:mn t d=zV
 induction zV using Oc with
 |none=>rw[eb]at e;cases e
 |some b=>
  replace e:=eb▸e;dsimp only at e⊢;by_cases c:b.all (fun x=>(look x.1 st.cmp).isNone)=false
  ·exact Ns (if_pos c) e
  ·rw[aw c]at e⊢
   haveI q:=hi.all .And {st with cmp:=b++st.cmp} o
   cases e1:ID .And ifs {st with cmp:=b++st.cmp} o with
   |ok v st2 o1=>
    rw[e1]at e q
    induction v with
    |false=>
     dsimp only at e;by_cases c2:st2.objs.isEmpty=true
     ·rw[if_pos c2]at e;cases e;exact⟨(q hc).1,by rw[(q hc).2];dsimp only;rw[if_pos c2]⟩
     ·exact Ns (aw c2) e
    |true=>
     obtain⟨a1,a2⟩:=hk _ _ _ _ _ e hc;exact⟨(q a1).1,Rw (q a1).2 a2⟩
   |exc x st2 o1=>rw[e1]at e;cases e
   |bad=>rw[e1]at e;cases e
theorem yS(he:GE P elt el)(hi:qp P ifs es)(t)(items)(st)(o)(xs)(o')(e:n8 elt t ifs items st o=some (xs,o'))(hc:All P o'.cl):All P o.cl/\cv el [] t es items st=some xs:=by
  refine CN (fun d o xs o'=>RG hi (h:=fun ω st2=>match el.dat st2 with|.ok v gB=>if gB.objs.isEmpty then some [v]else none|_=>none) (fun st1 st2 o xs o' e hc=>?_) d o xs o') items o xs o' e hc;have q:=he.dat st2 o;generalize e1:elt.dat st2 o=zV
  induction zV using OR.casesOn with
  |ok v gB o1=>
   rw[e1]at e q;dsimp only at e;by_cases c2:gB.objs.isEmpty=true
   ·rw[if_pos c2]at e;cases e;obtain⟨q1,q2⟩:=q hc;exact⟨q1,by refine Rw q2 ?_;exact(if_pos c2)⟩
   ·exact Ns (aw c2) e
  |exc x s3 o1=>rw[e1]at e;cases e
  |bad=>rw[e1]at e;cases e
theorem RH(he:GE P oe (ev P (ae P lv) elt))(hi:qp P oi (bS P (ae P lv) ifs))(items):G P (Ef c lv elt t ifs oe oi items) (fun st=>if st.aW.all (fun x=>dj x.2)=false then .bad else match cv (ev P (ae P lv) elt) [] t (bS P (ae P lv) ifs) items ⟨[],st.aW,[],[]⟩with
  |some ds=>if ds.length<=lim then .ok ds st else .bad
  |none=>.bad):=by
 intro st o;unfold Ef;rcases iy (st.aW.all (fun x=>dj x.2)=false)with cc|cc
 ·refine Rw (if_pos cc) ?_;trivial
 ·refine Rw (aw cc) ?_
  induction c with
  |true=>
   dsimp only[cond];generalize e:o.ps=zV
   induction zV using Lc with
   |nil=>trivial
   |cons ds ps=>intro hc;obtain⟨h1,h2⟩:=hc.inv;exact⟨h2,by refine Rw (aw cc) (Rw h1.1 ?_);exact(if_pos h1.2)⟩
  |false=>
   dsimp only[cond];generalize e:n8 oe t oi items ⟨[],st.aW,[],[]⟩ o=zV
   induction zV using Oc with
   |none=>trivial
   |some q=>
    dsimp only;by_cases c2:q.1.length<=lim
    ·refine Rw (if_pos c2) ?_;intro hc;obtain⟨h1,h2⟩:=yS he hi _ _ _ _ _ _ e hc;exact⟨h1,by refine Rw (aw cc) (Rw h2 ?_);exact(if_pos c2)⟩
    ·refine Rw (aw c2) ?_;trivial
end
def PF(o:ir)(x:Nat):ir:=
 let k {α:Type} (f:Nat->St->Res α):OM α:=o.val.bind fun r=>lift fun st=>match r with|.dat _=>.bad|.ref k=>f k st
 {l7 (k fun k st=>match fld st.objs k x with
   |some (.dat d)=>.ok (.dat d) st
   |some (.ref j)=>.ok (.ref j) st
   |some (.own xs)=>(match di st.objs k x (.dat (.list xs))with
    |some os=>.ok (.dat (.list xs)) {st with objs:=os}
    |none=>.bad)
   |none=>.bad)with
  pk:=k fun k st=>match fld st.objs k x with
    |some (.dat d)=>.ok d st
    |some (.own xs)=>.ok (.list xs) st
    |_=>.bad
  it:=k fun k st=>match fld st.objs k x with
    |some (.dat d)=>opt ((ue d).map (·,false)) st
    |some (.own xs)=>.ok (xs,true) st
    |_=>.bad}
def Wm:ir:=⟨pj,pj,pj,pj⟩
theorem GE.bad(e):GE P Wm e:=⟨.bad _,.bad _,.bad _,.bad _⟩
def Wn(vl:List Nat)(p:Pos)(simple:Bool)(o i:ir):ir:=kW ((if simple then o.pk else o.dat).bind fun d=>i.dat.bind fun k=>ki vl p (bZ d k))
def RJ(vl:List Nat)(p:Pos)(es:List ir)(f:D->D->Option D):ir:=match es with
 | [a,b]=>kW (a.dat.bind fun x=>b.dat.bind fun y=>ki vl p (f x y))
 |_=>l7 pj
def oBf(vl:List Nat)(p:Pos):Bool->BF->List ir->ir
 |_,.len,[e]=>kW (e.pk.bind fun d=>ki vl p (wd d))
 |false,.list,[e]=>kW (e.dat.bind fun d=>ki vl p (CM d))
 |_,.sum,[e]=>kW (e.dat.bind fun d=>match d with|.list xs=>ki vl p ((Ge xs).map .int)|_=>pj)
 |_,.min,es=>RJ vl p es minD
 |_,.max,es=>RJ vl p es maxD
 |false,.sorted,[e]=>kW (e.dat.bind fun d=>match d with|.list xs=>AV xs|_=>pj)
 |true,.sorted,[e]=>kW (e.it.bind fun r=>if r.2 then pj else AV r.1)
 |_,.dict,[e]=>kW (e.dat.bind fun d=>match d with|.list xs=>IE xs|_=>pj)
 |_,.range,[e]=>wc (e.dat.bind fun d=>match d with|.int n=>IF vl p n|_=>pj)
 |_,.zip,[a,b]=>wc (a.dat.bind fun x=>b.dat.bind fun y=>lift fun st=>opt ((xr x y).map (·,false)) st)
 |_,_,_=>Wm
noncomputable def II:List ir->List ir->List (D×D)->OM (List (D×D))
 | [],[],acc=>lift fun st=>.ok acc st
 |k::ks,v::vs,acc=>k.dat.bind fun a=>v.dat.bind fun b=>match vn a b acc with|some acc=>II ks vs acc|none=>pj
 |_,_,_=>pj
section
variable(P:dH)(ls vl:List Nat)(lv:Nat)(oc:mz)
mutual
noncomputable def jh:ME->ir
 |.i9 i _ _=>kY (bc fun st=>.ok (.dat (.int i)) st)
 |.oL s _ _=>kY (bc fun st=>.ok (.dat (.str s)) st)
 |.mj b _ _=>kY (bc fun st=>.ok (.dat (.bool b)) st)
 |.jt _ _=>kY (bc fun st=>.ok (.dat .none) st)
 |.neg e _=>kW ((jh e).dat.bind fun d=>lift fun st=>match d with|.int i=>.ok (.int (-i)) st|_=>.bad)
 |.not e _=>sy ((jh e).gw.bind fun b=>lift fun st=>.ok (!b) st)
 |.loc x _=>{kY (rA x)with gw:=(lift (rA x).val).bind RC}
 |.aW x _=>kY (OW x)
 |.cmp x _=>kY (OX x)
 |.oM x _=>kY (bc fun st=>opt ((P.oM x).map .dat) st)
 |.bin op l r p=>kW ((jh l).dat.bind fun a=>(jh r).dat.bind fun b=>ki vl p (fE op a b))
 |.rel op l r p=>PD ((jh l).dat.bind fun a=>(jh r).dat.bind fun b=>ask ls p op a b)
 |.zR o1 o2 a b c p=>sy ((jh a).dat.bind fun x=>(jh b).dat.bind fun y=>(ask ls p o1 x y).bind fun t=>if t then(jh c).dat.bind fun z=>ask ls p o2 y z else lift fun st=>.ok false st)
 |.bool op es _=>sy (ID op (jC es))
 |.ite t a b _=>{l7 ((jh t).gw.bind fun c=>if c then(jh a).val else(jh b).val)with gw:=(l7 pj).gw}
 |.sub o i p=>Wn vl p (cC i) (jh o) (jh i)
 |.PY o lo hi _ p=>kW ((jh o).dat.bind fun d=>(RE (RK lo)).bind fun a=>(RE (RK hi)).bind fun b=>ki vl p (fZ d a b))
 |.attr o x _=>PF (jh o) x
 |.lst es _=>kW ((RD (jC es)).bind fun ds=>lift fun st=>.ok (.list ds) st)
 |.tup es _ _=>kW ((RD (jC es)).bind fun ds=>lift fun st=>.ok (.tuple ds) st)
 |.OT ks vs _=>kW ((II (jC ks) (jC vs) []).bind fun kvs=>lift fun st=>.ok (.dict kvs) st)
 |.comp elt (.mk t it ifs) gs ks p=>if gs.isEmpty then kW (((jh it).it.bind fun r=>Ef (vl.contains (p.line*1000000+p.col*1000+p.endCol)) lv elt t ifs (jh elt) (jC ifs) r.1).bind fun ds=>lift fun st=>.ok (.list ds) st)else kY (ev P (ae P lv) (.comp elt (.mk t it ifs) gs ks p))
 |.call f args _ _=>l7 ((AU (jC args)).bind fun rs=>AW oc f rs)
 |.new c args _ _=>l7 ((AU (jC args)).bind fun rs=>RF P oc c rs)
 |.pU b args _ p=>oBf vl p (shape args) b (jC args)
 |.gv o m args _ _=>l7 ((jh o).val.bind fun r=>match r with
  |.dat _=>pj
  |.ref k=>fun st ot=>match st.objs[k]? with
   |none=>.bad
   |some ob=>if ob.live then(match P.gv ob.cls m with
    |none=>.bad
    |some f=>((AU (jC args)).bind fun rs=>pn oc f (.ref k::rs)) st ot)else .bad)
 |.items o _ _=>wc ((jh o).dat.bind fun d=>lift fun st=>match d with
  |.dict kvs=>.ok (kvs.map fun p=>.tuple [p.1,p.2],false) st
  |_=>.bad)
 |.iG e _ _ _ _=>sy ((jh e).dat.bind fun d=>lift fun st=>if vp d then .ok false st else .bad)
noncomputable def jC:List ME->List ir
 | []=>[]
 |e::es=>jh e::jC es
noncomputable def RK:Option ME->Option ir
 |none=>none
 |some e=>some (jh e)
end
end
section
variable{P:dH}{lv:Nat}{oc:mz}{cf:Call}
theorem G.ite{f f':OM α}{g g':St->Res α}{c:Bool}(h:G P f g)(h':G P f' g'):G P (if c then f else f') (fun st=>if c then g st else g' st):=by
 induction c
 ·exact h'
 ·exact h
theorem Wo(h:G P v f):GE P {l7 v with gw:=(l7 pj).gw} {bc f with gw:=(bc pV).gw}:=have q:=GE.vl h;⟨q.val,GE.no.gw,q.pk,q.it⟩
theorem GE.attr(h:GE P o e)(x):GE P (PF o x) (mG e x):=by
 have k {α:Type} (f:Nat->St->Res α):G P (o.val.bind fun r=>L.lift fun st=>match r with|.dat _=>.bad|.ref k=>f k st) (fun st=>(e.val st).bind fun r st=>match r with|.dat _=>.bad|.ref k=>f k st):=h.val.bind fun ω=>.lift _
 have q:=GE.vl (k fun k st=>match fld st.objs k x with
   |some (.dat d)=>.ok (.dat d) st
   |some (.ref j)=>.ok (.ref j) st
   |some (.own xs)=>(match di st.objs k x (.dat (.list xs))with
    |some os=>.ok (.dat (.list xs)) {st with objs:=os}
    |none=>.bad)
   |none=>.bad)
 exact⟨q.val,q.gw,k _,k _⟩
theorem GE.sub{vl:List Nat}(h:GE P o e)(hi:GE P i j)(p)(s):GE P (Wn vl p s o i) (OY s e j):=by
 induction s
 ·exact .dt (h.dat.bind fun ω=>hi.dat.bind fun ω=>.ki fun ω=>rfl)
 ·exact .dt (h.pk.bind fun ω=>hi.dat.bind fun ω=>.ki fun ω=>rfl)
theorem qp.two{vl:List Nat}{os:List ir}{es:List Ev}(h:qp P os es)(p:Pos)(f:D->D->Option D):GE P (RJ vl p os f) (two es f):=by
 rcases h with _|⟨a,_|⟨b,_|⟨c,t⟩⟩⟩
 ·exact .no
 ·exact .no
 ·exact .dt (a.dat.bind fun ω=>b.dat.bind fun ω=>.ki fun ω=>rfl)
 ·exact .no
theorem G.cond[Decidable c](h:G P f g):G P (if c then f else pj) (fun st=>if c then g st else .bad):=by
 by_cases q:c
 ·simp only[if_pos q];exact h
 ·exact Rw (aw q) (.bad _)
theorem qp.bf{os:List ir}(h:qp P os es)(p)(s)(b):GE P (oBf vl p s b os) (Kb s b es):=by
 rcases h with _|⟨a,_|⟨b2,t⟩⟩
 ·induction b using BF.casesOn<;>induction s<;>first|exact .bad _|exact qp.two (vl:=vl) .nil p _
 ·induction b using BF.casesOn with
  |len=>exact .dt (a.pk.bind fun ω=>.ki fun ω=>rfl)
  |list=>induction s<;>first|exact .dt (a.dat.bind fun ω=>.ki fun ω=>Ee _ _)|exact .bad _
  |sum=>exact .dt (a.dat.bind fun d=>by induction d using PyData.casesOn<;>first|exact .bad _|exact .ki fun ω=>rfl)
  |min=>exact qp.two (vl:=vl) (.cons a .nil) p minD
  |max=>exact qp.two (vl:=vl) (.cons a .nil) p maxD
  |sorted=>
   induction s
   ·exact .dt (a.dat.bind fun d=>by induction d using PyData.casesOn<;>first|exact .bad _|exact .AV)
   ·refine .dt (a.it.bind fun r=>?_);cases r.2
    ·exact .AV
    ·exact .bad _
  |dict=>exact .dt (a.dat.bind fun d=>by induction d using PyData.casesOn<;>first|exact .bad _|exact .IE)
  |range=>exact .oi (a.dat.bind fun d=>by induction d using PyData.casesOn<;>first|exact .bad _|exact .IF)
  |zip=>induction s<;>exact .bad _
 ·induction b using BF.casesOn with
  |min=>exact qp.two (vl:=vl) (.cons a (.cons b2 t)) p minD
  |max=>exact qp.two (vl:=vl) (.cons a (.cons b2 t)) p maxD
  |zip=>
   rcases t with _|⟨d,t⟩
   ·induction s<;>exact .oi (a.dat.bind fun ω=>b2.dat.bind fun ω=>.lift _)
   ·induction s<;>exact .bad _
  |_=>induction s<;>exact .bad _
theorem GC.gv(h:GC P oc cf)(ho:GE P o e){os:List ir}(hs:qp P os es)(m):G P (o.val.bind fun r=>match r with
  |.dat _=>pj
  |.ref k=>fun st ot=>match st.objs[k]? with
   |none=>.bad
   |some ob=>if ob.live then(match P.gv ob.cls m with
    |none=>.bad
    |some f=>((AU os).bind fun rs=>pn oc f (.ref k::rs)) st ot)else .bad) (fun st=>(e.val st).bind fun r st=>match r with
  |.dat _=>.bad
  |.ref k=>match st.objs[k]? with
   |none=>.bad
   |some ob=>if ob.live then(match P.gv ob.cls m with
    |none=>.bad
    |some f=>(g4 es st).bind fun rs st=>bM cf f (.ref k::rs) st)else .bad):=by
 refine ho.val.bind fun r=>?_
 induction r with
 |dat d=>exact .bad _
 |ref k=>
  intro st ot;dsimp only;generalize st.objs[k]?=zV
  induction zV using Oc with
  |none=>trivial
  |some ob=>
   by_cases c:ob.live=true
   ·simp only[if_pos c];generalize P.gv ob.cls m=zV
    induction zV using Oc with
    |none=>trivial
    |some f=>exact(hs.Ks.bind fun rs=>h.bu f _) st ot
   ·simp only[aw c]
theorem RL{os:List ir}(h:qp P os es):∀{ps:List ir} {fs:List Ev},qp P ps fs->∀acc,G P (II os ps acc) (fun st=>g7 es fs st acc):=by
 induction h with
 |nil=>
  intro ps fs q acc
  induction q with
  |nil=>exact .lift _
  |cons _ _=>exact .bad _
 |cons h _ ih=>
  intro ps fs q acc
  induction q with
  |nil=>exact .bad _
  |cons h2 t2=>
   refine h.dat.bind fun a=>h2.dat.bind fun b=>?_;generalize vn a b acc=zV
   induction zV using Oc with
   |none=>exact .bad _
   |some acc=>exact ih t2 acc
theorem Wq(jU:cf=ae P lv)(h:G P m (bH (ev P cf elt) (TQ P cf g) []))(gs):GE P (if gs.isEmpty then kW (m.bind fun ds=>lift fun st=>.ok (.list ds) st)else kY (ev P (ae P lv) (.comp elt g gs ks p))) (ev P cf (.comp elt g gs ks p)):=by
 rcases gs with _|⟨x,gs⟩
 ·exact .dt (h.bind fun ω=>.lift _)
 ·clear h;exact Rw jU (.lift _)
theorem IJ(jU:cf=ae P lv)(h1:GE P oit (ev P cf it))(h2:GE P oe (ev P cf elt))(h3:qp P oi (bS P cf ifs)):G P (oit.it.bind fun r=>Ef c lv elt t ifs oe oi r.1) (bH (ev P cf elt) (TQ P cf (.mk t it ifs)) []):=by
 subst jU;exact h1.it.bind fun r=>RH h2 h3 r.1
variable(hc:GC P oc cf)(jU:cf=ae P lv)
include hc jU
section
variable{ls:List Nat}{vl:List Nat}
mutual
theorem dz:∀e:ME,GE P (jh P ls vl lv oc e) (ev P cf e)
 |.i9 i _ _=>.lift _
 |.oL s _ _=>.lift _
 |.mj b _ _=>.lift _
 |.jt _ _=>.lift _
 |.neg e _=>.dt ((dz e).dat.bind fun ω=>.lift _)
 |.not e _=>.ot ((dz e).gw.bind fun ω=>.lift _)
 |.loc x _=>⟨.lift _,(G.lift _).bind fun r=>.gw r,.lift _,.lift _⟩
 |.aW x _=>.lift _
 |.cmp x _=>.lift _
 |.oM x _=>.lift _
 |.bin op l r _=>.dt ((dz l).dat.bind fun ω=>(dz r).dat.bind fun ω=>.ki fun ω=>rfl)
 |.rel op l r p=>.bl ((dz l).dat.bind fun ω=>(dz r).dat.bind fun ω=>.ask)
 |.zR o1 o2 a b c p=>.ot ((dz a).dat.bind fun ω=>(dz b).dat.bind fun ω=>G.ask.bind fun ω=>.ite ((dz c).dat.bind fun ω=>.ask) (.lift _))
 |.bool op es _=>.ot ((ig es).all op)
 |.ite t a b _=>Wo ((dz t).gw.bind fun ω=>.ite (dz a).val (dz b).val)
 |.sub o i p=>(dz o).sub (dz i) p _
 |.PY o lo hi _ _=>.dt ((dz o).dat.bind fun ω=>(PG lo).bind fun ω=>(PG hi).bind fun ω=>.ki fun ω=>rfl)
 |.attr o x _=>(dz o).attr x
 |.lst es _=>.dt ((ig es).dss.bind fun ω=>.lift _)
 |.tup es _ _=>.dt ((ig es).dss.bind fun ω=>.lift _)
 |.OT ks vs _=>.dt ((RL (ig ks) (ig vs) []).bind fun ω=>.lift _)
 |.comp elt (.mk t it ifs) gs _ p=>Wq jU (IJ jU (dz it) (dz elt) (ig ifs)) gs
 |.call f args _ _=>.vl ((ig args).Ks.bind fun ω=>hc.call f _)
 |.new c args _ _=>.vl ((ig args).Ks.bind fun ω=>hc.new c _)
 |.pU b args _ p=>(ig args).bf p _ b
 |.gv o m args _ _=>.vl (hc.gv (dz o) (ig args) m)
 |.items o _ _=>.oi ((dz o).dat.bind fun ω=>.lift _)
 |.iG e _ _ _ _=>.ot ((dz e).dat.bind fun ω=>.lift _)
theorem ig:∀es:List ME,qp P (jC P ls vl lv oc es) (bS P cf es)
 | []=>.nil
 |e::es=>.cons (dz e) (ig es)
theorem PG:∀e:Option ME,G P (RE (RK P ls vl lv oc e)) (pW (OZ P cf e))
 |none=>G.lift (fun st=>.ok none st)
 |some e=>(dz e).dat.bind fun ω=>.lift _
end
end
end
noncomputable def yT(t:MT)(body:OM dJ):List D->OM dJ
 | []=>lift fun st=>.ok .next st
 |d::ds=>fun st o=>match fu t d st with
  |none=>.bad
  |some st=>(body.bind fun f=>match f with
   |.ret r=>lift fun st=>.ok (.ret r) st
   |_=>yT t body ds) st o
theorem LW{t:MT}{body:OM dJ}{d:D}{ds:List D}{st:St}{o:s6}:yT t body (d::ds) st o=match fu t d st with
  |none=>.bad
  |some st=>(body.bind fun f=>match f with
   |.ret r=>lift fun st=>.ok (.ret r) st
   |_=>yT t body ds) st o:=rfl
def IK(ls:List Nat)(lv:Nat)(p:Pos)(t:MT)(b:List MS)(m:OM dJ)(items:List D):OM dJ:=fun st o=>bif ls.contains p.line then(match o.fs with
  |.ok f st1::fs=>.ok f st1 {o with fs:=fs,cl:=.loop lv t b items st (.ok f st1)::o.cl}
  |.exc x st1::fs=>.exc x st1 {o with fs:=fs,cl:=.loop lv t b items st (.exc x st1)::o.cl}
  |_=>.bad)else yT t m items st o
def RM(m:OM dJ):OM dJ:=fun st o=>match m {st with objs:=hidden st.objs} o with
 |.ok f st1 o=>if st1.objs.length=st.objs.length then .ok f {st1 with objs:=st.objs} o else .bad
 |.exc x st1 o=>if st1.objs.length=st.objs.length then .exc x {st1 with objs:=st.objs} o else .bad
 |.bad=>.bad
theorem AX(h:G P f g):∀ds,G P (yT t f ds) (aO t g ds)
 | []=>G.lift (fun st=>.ok dJ.next st)
 |d::ds=>by
  intro st o;refine Rw LW (Rw B2 ?_);generalize fu t d st=zV
  induction zV using Oc with
  |none=>trivial
  |some st1=>
   refine(h.bind (g':=fun f st=>match f with|.ret r=>.ok (.ret r) st|_=>aO t g ds st) fun r=>?_) st1 o
   induction r with
   |ret r=>exact .lift _
   |next=>exact AX h ds
   |cont=>exact AX h ds
theorem RN(h:G P f (execs P (ae P lv) b))(ds):G P (IK ls lv p t b f ds) (aO t (execs P (ae P lv) b) ds):=by
 intro st o;unfold IK;generalize ls.contains p.line=zV
 induction zV using Tc with
 |false=>exact AX h ds st o
 |true=>
  generalize e:o.fs=zV
  induction zV using Lc with
  |nil=>trivial
  |cons r bs=>
   induction r with
   |bad=>trivial
   |ok f st1=>intro hc;obtain⟨h1,h2⟩:=hc.inv;exact⟨h2,h1⟩
   |exc f st1=>intro hc;obtain⟨h1,h2⟩:=hc.inv;exact⟨h2,h1⟩
theorem Ws(h:G P f g):G P (RM f) (fun st=>bx st.objs (g {st with objs:=hidden st.objs})):=by
 intro st o
 haveI q:=h {st with objs:=hidden st.objs} o
 delta RM
 dsimp only
 cases e:f {st with objs:=hidden st.objs} o with
 |ok a st1 o1=>
  rw[e]at q;dsimp only;by_cases c:st1.objs.length=st.objs.length
  ·refine Rw (if_pos c) ?_;intro hc;obtain⟨h1,h2⟩:=q hc;exact⟨h1,Rw h2 (uf c)⟩
  ·refine Rw (aw c) ?_;trivial
 |exc a st1 o1=>
  rw[e]at q;dsimp only;by_cases c:st1.objs.length=st.objs.length
  ·refine Rw (if_pos c) ?_;intro hc;obtain⟨h1,h2⟩:=q hc;exact⟨h1,Rw h2 (rC c)⟩
  ·refine Rw (aw c) ?_;trivial
 |bad=>trivial
section
variable(P:dH)(ls vl:List Nat)(oc:mz)(lv:Nat)
def XZ(e:ME):OM LV:=match e with
 |.lst es _=>(RD (jC P ls vl lv oc es)).bind fun ds=>lift fun st=>.ok (.own ds) st
 |e=>(jh P ls vl lv oc e).val.bind fun r=>lift fun st=>.ok r.lv st
def oFV(e:ME):OM LV:=match e with
 |.lst es _=>(RD (jC P ls vl lv oc es)).bind fun ds=>lift fun st=>.ok (.own ds) st
 |.comp elt (.mk t it ifs) gs _ p=>if gs.isEmpty then((jh P ls vl lv oc it).it.bind fun r=>Ef (vl.contains (p.line*1000000+p.col*1000+p.endCol)) lv elt t ifs (jh P ls vl lv oc elt) (jC P ls vl lv oc ifs) r.1).bind fun ds=>lift fun st=>.ok (.own ds) st else pj
 |e=>(jh P ls vl lv oc e).val.bind fun r=>lift fun st=>.ok r.lv st
def RO(i:D)(v:D)(pl:Place)(st:St):Res dJ:=match i with
  |.int j=>(match ownAt pl st with
   |some xs=>(match ku xs j v with
    |some ys=>(match ja pl ys st with
     |some st=>.ok .next st
     |none=>.bad)
    |none=>.bad)
   |none=>.bad)
  |_=>.bad
def IL(vl:List Nat)(p:Pos)(i v:D)(pl:Place):OM dJ:=fun st o=>bif vl.contains (p.line*1000000+p.col*1000+p.endCol)then(match i with
  |.int j=>(match ownAt pl st with
   |some xs=>(match o.ts with
    |ys::ts=>(match ja pl ys st with
     |some st=>.ok .next st {o with ts:=ts,cl:=.set xs j v ys::o.cl}
     |none=>.bad)
    | []=>.bad)
   |none=>.bad)
  |_=>.bad)else lift (RO i v pl) st o
def oHd:List ME->OM (List LV)
 | []=>pj
 |e::es=>(XZ P ls vl oc lv e).bind fun v=>(AU (jC P ls vl lv oc es)).bind fun rs=>lift fun st=>.ok (v::rs.map RV.lv) st
def IM(t:MT)(e:ME):OM dJ:=match t with
 |.loc x p=>(XZ P ls vl oc lv e).bind fun v=>lift fun st=>(opt (th (.loc x p) v st) st).bind fun st ω=>.ok .next st
 |.aW x p=>(XZ P ls vl oc lv e).bind fun v=>lift fun st=>(opt (th (.aW x p) v st) st).bind fun st ω=>.ok .next st
 |.attr o x _=>(match o with
  |.loc y _=>(oFV P ls vl oc lv e).bind fun v=>lift fun st=>match look y st.loc with
   |some (.ref k)=>(match eK P st.objs k x v with
    |some os=>.ok .next {st with objs:=os}
    |none=>.bad)
   |_=>.bad
  |_=>pj)
 |.sub o i p=>(jh P ls vl lv oc e).dat.bind fun v=>(lift fun st=>opt (placeOf o st) st).bind fun pl=>if cC i then(jh P ls vl lv oc i).dat.bind fun k=>IL vl p k v pl else pj
 |.tup ts k p=>(match e with
  |.tup es k' p'=>if ts.all fF then(oHd P ls vl oc lv es).bind fun vs=>lift fun st=>(opt (eL ts.reverse vs.reverse st) st).bind fun st ω=>.ok .next st
   else(jh P ls vl lv oc (.tup es k' p')).dat.bind fun d=>lift fun st=>(opt (fu (.tup ts k p) d st) st).bind fun st ω=>.ok .next st
  |e=>(jh P ls vl lv oc e).dat.bind fun d=>lift fun st=>(opt (fu (.tup ts k p) d st) st).bind fun st ω=>.ok .next st)
 |.cmp ..=>pj
def yU(xs:List D)(k x:Nat)(e:ir):OM dJ:=fun st ot=>match e.dat {st with objs:=hidden st.objs} ot with
    |.ok d st1 ot=>if st1.objs.length=st.objs.length then(match di st.objs k x (.own (xs++ [d]))with
     |some os=>.ok .next {st1 with objs:=os} ot
     |none=>.bad)else .bad
    |_=>.bad
def RP(vl:List Nat)(p:Pos)(o:ME)(e:ir):OM dJ:=fun st ot=>match placeOf o st with
  |none=>.bad
  |some (.loc x)=>(match ownAt (.loc x) st with
   |none=>.bad
   |some _=>(e.dat.bind fun d st ot=>match ownAt (.loc x) st with
    |none=>.bad
    |some xs=>bif vl.contains (p.line*1000000+p.col*1000+p.endCol)then .ok .next {st with loc:=put x (.own (xs++ [d])) st.loc} {ot with cl:=.lim xs::ot.cl}else if xs.length<=lim then .ok .next {st with loc:=put x (.own (xs++ [d])) st.loc} ot else .bad) st ot)
  |some (.fld k x)=>(match ownAt (.fld k x) st with
   |none=>.bad
   |some xs=>bif vl.contains (p.line*1000000+p.col*1000+p.endCol)then yU xs k x e st {ot with cl:=.lim xs::ot.cl}else if xs.length<=lim then yU xs k x e st ot else .bad)
mutual
noncomputable def PH:MS->OM dJ
 |.asg t e _=>IM P ls vl oc lv t e
 |.app o e _ _ p=>RP vl p o (jh P ls vl lv oc e)
 |.expr e _=>(jh P ls vl lv oc e).val.bind fun ω=>lift fun st=>.ok .next st
 |.ifs t b o _=>(jh P ls vl lv oc t).gw.bind fun c=>if c then eZ b else eZ o
 |.for t it b p=>(jh P ls vl lv oc it).it.bind fun r=>if r.2 then RM (IK ls lv p t b (eZ b) r.1)else IK ls lv p t b (eZ b) r.1
 |.ret e _=>(jh P ls vl lv oc e).val.bind fun r=>lift fun st=>.ok (.ret r) st
 |.zS _=>lift fun st=>.ok (.ret (.dat .none)) st
 |.raise c _ _ _ _ _ _=>lift fun st=>.exc c st
 |.eI _=>pj
 |.try b hs _=>fun st o=>match eZ b st o with
  |.exc x st o=>lift (handle P x hs) st o
  |r=>r
 |.cont _=>lift fun st=>.ok .cont st
 |.pass _=>lift fun st=>.ok .next st
noncomputable def eZ:List MS->OM dJ
 | []=>lift fun st=>.ok .next st
 |m::ms=>(PH m).bind fun f=>match f with
  |.next=>eZ ms
  |f=>lift fun st=>.ok f st
end
omit lv
noncomputable def d6(fs:List Nat):Nat->mz
 |0=>fun ω ω ω ω=>.bad
 |n+1=>fun f rs objs o=>bif fs.contains f then(match o.cs with
   |R::cs=>(match R with
    |.ok r os=>.ok r os {o with cs:=cs,cl:=.call (n+1) f rs objs R::o.cl}
    |.exc x os=>.exc x os {o with cs:=cs,cl:=.call (n+1) f rs objs R::o.cl}
    |.bad=>.bad)
   | []=>.bad)else match P.fn f with
  |none=>.bad
  |some fd=>(match ky fd.params rs ⟨[],[],[],objs⟩with
   |none=>.bad
   |some st=>(match eZ P ls vl (d6 fs n) n fd.body st o with
    |.ok .next st o=>.ok (.dat .none) st.objs o
    |.ok (.ret r) st o=>.ok r st.objs o
    |.ok .cont _ _=>.bad
    |.exc x st o=>.exc x st.objs o
    |.bad=>.bad))
end
section
variable{P:dH}{lv:Nat}{oc:mz}{cf:Call}
theorem IP(h:GE P e e')(xs)(k x):G P (yU xs k x e) (fun st=>match e'.dat {st with objs:=hidden st.objs}with
    |.ok d st1=>if st1.objs.length=st.objs.length then(match di st.objs k x (.own (xs++ [d]))with
     |some os=>.ok .next {st1 with objs:=os}
     |none=>.bad)else .bad
    |_=>.bad):=by
 intro st ot
 delta yU
 dsimp only
 haveI q:=h.dat {st with objs:=hidden st.objs} ot
 cases e1:e.dat {st with objs:=hidden st.objs} ot with
 |ok d st1 o1=>
  replace q:=e1▸q;dsimp only;by_cases c2:st1.objs.length=st.objs.length
  ·refine Rw (if_pos c2) ?_;generalize e3:di st.objs k x (.own (xs++ [d]))=zV
   induction zV using Oc with
   |none=>trivial
   |some os=>intro hc;obtain⟨h1,h2⟩:=q hc;exact⟨h1,by refine Rw h2 ?_;dsimp only;refine Rw (if_pos c2) ?_;refine Rw e3 ?_;rfl⟩
  ·exact Rw (aw c2) trivial
 |exc x st1 o1=>trivial
 |bad=>trivial
theorem Wt{vl:List Nat}{p:Pos}{x:Nat}{d:D}:G P (fun st ot=>match ownAt (.loc x) st with
    |none=>.bad
    |some xs=>bif vl.contains (p.line*1000000+p.col*1000+p.endCol)then .ok .next {st with loc:=put x (.own (xs++ [d])) st.loc} {ot with cl:=.lim xs::ot.cl}else if xs.length<=lim then .ok .next {st with loc:=put x (.own (xs++ [d])) st.loc} ot else .bad) (fun st=>match ownAt (.loc x) st with
    |none=>.bad
    |some xs=>if xs.length<=lim then .ok dJ.next {st with loc:=put x (.own (xs++ [d])) st.loc}else .bad):=by
 intro st ot;dsimp only;generalize ownAt (.loc x) st=zV
 induction zV using Oc with
 |none=>trivial
 |some xs=>
  dsimp only;generalize vl.contains (p.line*1000000+p.col*1000+p.endCol)=zV
  induction zV using Tc with
  |true=>intro hc;obtain⟨h1,h2⟩:=hc.inv;exact⟨h2,(if_pos (show xs.length<=lim from h1))⟩
  |false=>
   dsimp only[cond];by_cases c:xs.length<=lim
   ·refine Rw (if_pos c) ?_;exact Rw (if_pos c) (fun hc=>⟨hc,rfl⟩)
   ·refine Rw (aw c) ?_;trivial
theorem Wu{vl:List Nat}{p:Pos}{o:ME}{e:ir}{e':Ev}(h:GE P e e'):G P (RP vl p o e) (fun st=>match placeOf o st with
  |none=>.bad
  |some (.loc x)=>(match ownAt (.loc x) st with
   |none=>.bad
   |some _=>(e'.dat st).bind fun d st=>match ownAt (.loc x) st with
    |none=>.bad
    |some xs=>if xs.length<=lim then .ok .next {st with loc:=put x (.own (xs++ [d])) st.loc}else .bad)
  |some (.fld k x)=>(match ownAt (.fld k x) st with
   |none=>.bad
   |some xs=>if xs.length<=lim then(match e'.dat {st with objs:=hidden st.objs}with
    |.ok d st1=>if st1.objs.length=st.objs.length then(match di st.objs k x (.own (xs++ [d]))with
     |some os=>.ok .next {st1 with objs:=os}
     |none=>.bad)else .bad
    |_=>.bad)else .bad)):=by
 intro st ot;unfold RP;dsimp only;generalize placeOf o st=zV
 induction zV using Oc with
 |none=>trivial
 |some pl=>
  induction pl with
  |loc x=>
   dsimp only;generalize ownAt (.loc x) st=zV
   induction zV using Oc with
   |none=>trivial
   |some ys=>exact(h.dat.bind fun ω=>Wt) st ot
  |fld k x=>
   dsimp only;generalize ownAt (.fld k x) st=zV
   induction zV using Oc with
   |none=>trivial
   |some xs=>
    dsimp only;generalize vl.contains (p.line*1000000+p.col*1000+p.endCol)=zV
    induction zV using Tc with
    |true=>
     haveI q:=IP h xs k x st {ot with cl:=.lim xs::ot.cl}
     cases e1:yU xs k x e st {ot with cl:=.lim xs::ot.cl}with
     |ok a st1 o1=>rw[e1]at q;intro hc;obtain⟨h1,h2⟩:=q hc;obtain⟨h3,h4⟩:=h1.inv;exact⟨h4,Rw (if_pos (show xs.length<=lim from h3)) h2⟩
     |exc a st1 o1=>rw[e1]at q;intro hc;obtain⟨h1,h2⟩:=q hc;obtain⟨h3,h4⟩:=h1.inv;exact⟨h4,Rw (if_pos (show xs.length<=lim from h3)) h2⟩
     |bad=>trivial
    |false=>
     rcases iy (xs.length<=lim)with c|c
     ·refine Rw (if_pos c) ?_;exact Rw (if_pos c) (IP h xs k x st ot)
     ·refine Rw (aw c) ?_;trivial
theorem Wv(h:G P b g)(hs):G P (fun st o=>match b st o with
  |.exc x st o=>lift (handle P x hs) st o
  |r=>r) (fun st=>match g st with
  |.exc x st=>handle P x hs st
  |r=>r):=by
 intro st o
 haveI q:=h st o
 dsimp only;generalize e:b st o=zV
 induction zV using OR.casesOn with
 |ok a st1 o1=>replace q:=e▸q;intro hc;obtain⟨h1,h2⟩:=q hc;exact⟨h1,Rw h2 rfl⟩
 |bad=>trivial
 |exc x st1 o1=>
  replace q:=e▸q;dsimp only
  delta lift
  generalize e2:handle P x hs st1=zV
  induction zV using Res.casesOn with
  |ok a st2=>intro hc;obtain⟨h1,h2⟩:=q hc;exact⟨h1,Rw h2 e2⟩
  |exc y st2=>intro hc;obtain⟨h1,h2⟩:=q hc;exact⟨h1,Rw h2 e2⟩
  |bad=>trivial
theorem G.IL{vl:List Nat}{p:Pos}{i v:D}{pl:Place}:G P (IL vl p i v pl) (RO i v pl):=by
 intro st o;unfold L.IL
 cases vl.contains (p.line*1000000+p.col*1000+p.endCol)with
 |false=>exact G.lift _ st o
 |true=>
  cases i with
  |int j=>
   dsimp only[cond]
   cases ew:ownAt pl st with
   |none=>trivial
   |some xs=>
    dsimp only
    cases o.ts with
    |nil=>trivial
    |cons ys ts=>
     dsimp only
     cases es:ja pl ys st with
     |none=>trivial
     |some st1=>intro hc;obtain⟨h1,h2⟩:=hc.inv;exact⟨h2,by unfold RO;dsimp only;rw[ew];dsimp only;rw[show ku xs j v=some ys from h1];dsimp only;rw[es]⟩
  |_=>trivial
theorem PI(jU:cf=ae P lv)(h:G P f (execs P cf b))(ds):G P (IK ls lv p t b f ds) (aO t (execs P cf b) ds):=by
 subst jU;exact RN h ds
variable(hc:GC P oc cf)(jU:cf=ae P lv)
include hc jU
theorem PJ(e):G P ((jh P ls vl lv oc e).val.bind fun r=>lift fun st=>.ok r.lv st) (fun st=>((ev P cf e).val st).bind fun r st=>.ok r.lv st):=(dz hc jU e).val.bind fun ω=>.lift _
theorem PK(es):G P ((RD (jC P ls vl lv oc es)).bind fun ds=>lift fun st=>.ok (LV.own ds) st) (fun st=>(gx (bS P cf es) st).bind fun ds st=>.ok (LV.own ds) st):=(ig hc jU es).dss.bind fun ω=>.lift _
theorem RQ(e):G P (XZ P ls vl oc lv e) (nA P cf e):=by
 have h:=PJ (ls:=ls) (vl:=vl) hc jU e
 cases e with
 |lst es p=>exact PK hc jU es
 |_=>exact h
theorem Ww(elt)(t)(it)(ifs)(gs)(c):G P (if gs.isEmpty then((jh P ls vl lv oc it).it.bind fun r=>Ef c lv elt t ifs (jh P ls vl lv oc elt) (jC P ls vl lv oc ifs) r.1).bind fun ds=>lift fun st=>.ok (LV.own ds) st else pj) (fun st=>(bH (ev P cf elt) (TQ P cf (.mk t it ifs)) (Kc P cf gs) st).bind fun ds st=>.ok (LV.own ds) st):=by
 rcases gs with _|⟨x,gs⟩
 ·exact(IJ jU (dz hc jU it) (dz hc jU elt) (ig hc jU ifs)).bind fun ω=>.lift _
 ·exact .bad _
theorem aaf(e):G P (oFV P ls vl oc lv e) (Kd P cf e):=by
 have h:=PJ (ls:=ls) (vl:=vl) hc jU e
 cases e with
 |lst es p=>exact PK hc jU es
 |comp elt g gs ks p=>cases g with|mk t it ifs=>exact Ww hc jU elt t it ifs gs _
 |_=>exact h
theorem aag:∀es,G P (oHd P ls vl oc lv es) (zT P cf es)
 | []=>.bad _
 |e1::es=>(RQ hc jU e1).bind fun ω=>(ig hc jU es).Ks.bind fun ω=>.lift _
theorem LX(t)(e):G P (IM P ls vl oc lv t e) (Gi P cf t e):=by
 induction t using MT.casesOn with
 |loc x p=>exact(RQ hc jU e).bind fun ω=>.lift _
 |aW x p=>exact(RQ hc jU e).bind fun ω=>.lift _
 |cmp x p=>exact .bad _
 |attr o x p=>induction o using ME.casesOn<;>first|exact .bad _|exact(aaf hc jU e).bind fun ω=>.lift _
 |sub o i p=>
  refine(dz hc jU e).dat.bind fun v=>(G.lift _).bind fun pl=>?_;cases cC i
  ·exact .bad _
  ·exact(dz hc jU i).dat.bind fun k=>.IL
 |tup ts k p=>
  have q:G P ((jh P ls vl lv oc e).dat.bind fun d=>lift fun st=>(opt (fu (.tup ts k p) d st) st).bind fun st ω=>.ok dJ.next st) (fun st=>((ev P cf e).dat st).bind fun d st=>(opt (fu (.tup ts k p) d st) st).bind fun st ω=>.ok dJ.next st):=(dz hc jU e).dat.bind fun ω=>.lift _
  induction e using ME.casesOn with
  |tup es k2 p2=>
   show G P (if ts.all fF=true then _ else _) fun st=>if ts.all fF=true then _ else _;generalize ts.all fF=zV
   induction zV using Tc with
   |false=>exact q
   |true=>exact(aag hc jU es).bind fun ω=>.lift _
  |_=>exact q
section
variable{ls:List Nat}{vl:List Nat}
mutual
theorem RS:∀m:MS,G P (PH P ls vl oc lv m) (exec P cf m)
 |.asg t e _=>LX hc jU t e
 |.app o e _ _ _=>Wu (dz hc jU e)
 |.expr e _=>(dz hc jU e).val.bind fun ω=>.lift _
 |.ifs t b o _=>(dz hc jU t).gw.bind fun ω=>.ite (gM b) (gM o)
 |.for t it b _=>(dz hc jU it).it.bind fun ω=>.ite (Ws (PI jU (gM b) _)) (PI jU (gM b) _)
 |.ret e _=>(dz hc jU e).val.bind fun ω=>.lift _
 |.zS _=>G.lift (fun st=>.ok (dJ.ret (.dat .none)) st)
 |.raise c _ _ _ _ _ _=>G.lift (fun st=>Res.exc c st)
 |.eI _=>.bad _
 |.try b hs _=>Wv (gM b) hs
 |.cont _=>G.lift (fun st=>.ok dJ.cont st)
 |.pass _=>G.lift (fun st=>.ok dJ.next st)
theorem gM:∀ms:List MS,G P (eZ P ls vl oc lv ms) (execs P cf ms)
 | []=>G.lift (fun st=>.ok dJ.next st)
 |m::ms=>(RS m).bind fun f=>by
  cases f with
  |next=>exact gM ms
  |cont=>exact G.lift (fun st=>.ok dJ.cont st)
  |ret r=>exact G.lift (fun st=>.ok (dJ.ret r) st)
end
end
end
theorem lK(P)(ls vl fs):∀n,GC P (d6 P ls vl fs n) (ae P n)
 |0=>fun ω ω ω ω=>trivial
 |n+1=>by
  intro f rs os o;refine Rw (show d6 P ls vl fs (n+1) f rs os o=bif fs.contains f then _ else _ from rfl) ?_;generalize fs.contains f=zV
  induction zV using Tc with
  |true=>
   dsimp only[cond];generalize e:o.cs=zV
   induction zV using Lc with
   |nil=>trivial
   |cons R cs=>
    induction R with
    |ok r os1=>intro hc;obtain⟨h1,h2⟩:=hc.inv;exact⟨h2,h1⟩
    |exc r os1=>intro hc;obtain⟨h1,h2⟩:=hc.inv;exact⟨h2,h1⟩
    |bad=>trivial
  |false=>
   dsimp only[cond];generalize ef:P.fn f=zV
   induction zV using Oc with
   |none=>trivial
   |some fd=>
    dsimp only;generalize eb:ky fd.params rs ⟨[],[],[],os⟩=zV
    induction zV using Oc with
    |none=>trivial
    |some st=>
     dsimp only
     haveI q:=gM (ls:=ls) (vl:=vl) (lK P ls vl fs n) rfl fd.body st o
     generalize e:eZ P ls vl (d6 P ls vl fs n) n fd.body st o=zV
     induction zV using OR.casesOn with
     |ok a st1 o1=>
      simp only[e]at q
      induction a with
      |next=>intro hc;obtain⟨h1,h2⟩:=q hc;exact⟨h1,(qO ef).trans ((qN eb).trans (bz Dk h2))⟩
      |cont=>trivial
      |ret r=>intro hc;obtain⟨h1,h2⟩:=q hc;exact⟨h1,(qO ef).trans ((qN eb).trans (bz Dk h2))⟩
     |exc x st1 o1=>rw[e]at q;intro hc;obtain⟨h1,h2⟩:=q hc;exact⟨h1,(qO ef).trans ((qN eb).trans (bz Dk h2))⟩
     |bad=>trivial
noncomputable def RT:List Cl->List Bool
 | []=>[]
 |.rel _ _ _ r::l=>r::RT l
 |_::l=>RT l
noncomputable def RU:List Cl->List gu
 | []=>[]
 |.call _ _ _ _ r::l=>r::RU l
 |_::l=>RU l
noncomputable def RW:List Cl->List (List D)
 | []=>[]
 |.sort _ r::l=>r::RW l
 |_::l=>RW l
noncomputable def RX:List Cl->List (List (D×D))
 | []=>[]
 |.dict _ r::l=>r::RX l
 |_::l=>RX l
noncomputable def RY:List Cl->List D
 | []=>[]
 |.val _ r::l=>r::RY l
 |_::l=>RY l
noncomputable def RZ:List Cl->List (List D)
 | []=>[]
 |.set _ _ _ r::l=>r::RZ l
 |_::l=>RZ l
noncomputable def R0:List Cl->List (Res dJ)
 | []=>[]
 |.loop _ _ _ _ _ R::l=>R::R0 l
 |_::l=>R0 l
noncomputable def R1:List Cl->List (List D)
 | []=>[]
 |.XY _ r::l=>r::R1 l
 |_::l=>R1 l
noncomputable def R2:List Cl->List (List D)
 | []=>[]
 |.comp _ _ _ _ _ _ r::l=>r::R2 l
 |_::l=>R2 l
def j7(fc:List Cl):s6:=⟨RT fc,RU fc,RW fc,RX fc,RY fc,RZ fc,R0 fc,R1 fc,R2 fc,[]⟩
noncomputable def yV:List Cl->List Cl->List Cl
 | [],a=>a
 |c::l,a=>yV l (c::a)
theorem All.rev:∀(l a:List Cl),All P (yV l a)->All P l/\All P a
 | []=>@fun a h=>⟨.nil,h⟩
 |c::l=>@fun a h=>by
  obtain⟨h1,h2⟩:=All.rev l (c::a) h;exact⟨.cons h2.inv.1 h1,h2.inv.2⟩
theorem IQ{α β:Type}{a c:α}{b d:β}(h:some (a,b)=some (c,d)):a=c/\b=d:=by injection h with h;injection h with h1 h2;exact⟨h1,h2⟩
def told:OC->Option (gu×List Cl)
 |.ok r os o=>some (.ok r os,yV o.cl [])
 |.exc x os o=>some (.exc x os,yV o.cl [])
 |.bad=>none
theorem bI(ls vl fs)(hc:All P fc){os:List bt}(h:told (d6 P ls vl fs n f rs os (j7 fc))=some (R,fc)):ae P n f rs os=R:=by
 haveI q:=lK P ls vl fs n f rs os (j7 fc)
 generalize e:d6 P ls vl fs n f rs os (j7 fc)=zV
 induction zV using OC.casesOn with
 |ok r os1 o1=>rw[e]at h q;haveI h:=IQ h;exact Rl h.1 (q (All.rev _ _ (h.2.symm▸hc)).1).2
 |exc r os1 o1=>rw[e]at h q;haveI h:=IQ h;exact Rl h.1 (q (All.rev _ _ (h.2.symm▸hc)).1).2
 |bad=>rw[e]at h;cases h
def PL:OR dJ->Option (Res dJ×List Cl)
 |.ok f st o=>some (.ok f st,yV o.cl [])
 |.exc x st o=>some (.exc x st,yV o.cl [])
 |.bad=>none
theorem d7(ls vl fs)(hc:All P fc){st:St}(h:PL (eZ P ls vl (d6 P ls vl fs n) n ms st (j7 fc))=some (R,fc)):execs P (ae P n) ms st=R:=by
 haveI q:=gM (ls:=ls) (vl:=vl) (lK P ls vl fs n) rfl ms st (j7 fc)
 generalize e:eZ P ls vl (d6 P ls vl fs n) n ms st (j7 fc)=zV
 induction zV using OR.casesOn with
 |ok r os1 o1=>rw[e]at h q;haveI h:=IQ h;exact Rl h.1 (q (All.rev _ _ (h.2.symm▸hc)).1).2
 |exc r os1 o1=>rw[e]at h q;haveI h:=IQ h;exact Rl h.1 (q (All.rev _ _ (h.2.symm▸hc)).1).2
 |bad=>rw[e]at h;cases h
def Wx:Option (List D×s6)->Option (List D×List Cl)
 |some (ds,o)=>some (ds,yV o.cl [])
 |none=>none
theorem J6(ls vl fs)(hc:All P fc)(h:Wx (n8 (jh P ls vl n (d6 P ls vl fs n) elt) t (jC P ls vl n (d6 P ls vl fs n) ifs) items ⟨[],aW,[],[]⟩ (j7 fc))=some (ds,fc)):
  cv (ev P (ae P n) elt) [] t (bS P (ae P n) ifs) items ⟨[],aW,[],[]⟩=some ds:=by
 generalize e:n8 (jh P ls vl n (d6 P ls vl fs n) elt) t (jC P ls vl n (d6 P ls vl fs n) ifs) items ⟨[],aW,[],[]⟩ (j7 fc)=zV
 induction zV using Oc with
 |none=>rw[e]at h;cases h
 |some q=>
  rw[e]at h;have h:=IQ h;rw[<-h.2]at hc;exact Rl h.1 ((yS (dz (lK P ls vl fs n) rfl elt) (ig (lK P ls vl fs n) rfl ifs) _ _ _ _ _ _ e (All.rev _ _ hc).1).2)
noncomputable def dl(b:List Int):D:=.list (b.map .int)
noncomputable def zs(n:Nat):List Int:=List.replicate n 0
noncomputable def fb(x:Int):List Int:=[Int.fmod (Int.fdiv x 16777216) 256,Int.fmod (Int.fdiv x 65536) 256,Int.fmod (Int.fdiv x 256) 256,Int.fmod x 256]
def CO(b:List Int):List Int:=b++zs (15-b.length)++ [Int.fmod b.sum 256]
def cS(k v:Int):List Int:=CO ([1]++fb k++fb v)
abbrev inR(x:Int):Prop:=0<=x/\x<4294967296
theorem aN:All v8 []:=.nil
theorem aR(h:bp op a b=some r)(t:All v8 l):All v8 (.rel op a b r::l):=.cons h t
theorem aC{os:List bt}(h:ae v8 n f rs os=R)(t:All v8 l):All v8 (.call n f rs os R::l):=.cons h t
theorem aV(h:x=some r)(t:All v8 l):All v8 (.val x r::l):=.cons h t
theorem aT(h:ku xs j v=some ys)(t:All v8 l):All v8 (.set xs j v ys::l):=.cons h t
theorem aS(h:gA xs=some ys)(t:All v8 l):All v8 (.sort xs ys::l):=.cons h t
theorem aD(h:dictFrom xs []=some k)(hl:xs.length<=lim)(t:All v8 l):All v8 (.dict xs k::l):=.cons ⟨h,hl⟩ t
theorem LY(a b):Gb (.int a) (.int b)=some (decide (a=b)):=by
 by_cases h:a=b
 ·subst h;refine Rw (bP rfl) ?_;exact bz _ (show PyData.eqv (.int a) (.int a)=true from bP rfl)
 ·refine Rw (dx h) ?_;exact bz _ (show PyData.eqv (.int a) (.int b)=false from dx h)
theorem ji(h:decide (a=b)=d):bp .Eq (.int a) (.int b)=some d:=(LY a b).trans (bz some h)
theorem fL(h:decide (a<b)=d):bp .Lt (.int a) (.int b)=some d:=bz some h
theorem og(h:decide (b<a)=d):bp .Gt (.int a) (.int b)=some d:=bz some h
theorem tM(h:decide (b<=a)=d):bp .GtE (.int a) (.int b)=some d:=bz some h
theorem aah(n)(k v)(os):ae v8 (n+2) 23 [.dat (.bool true),.dat (.int k),.dat (.int v)] os= .ok (.dat (dl (cS k v))) os:=by kernel_rfl
theorem Wy(n)(os):ae v8 (n+2) 23 [.dat (.bool false),.dat (.int 0),.dat (.int 0)] os= .ok (.dat (dl (zs 16))) os:=by kernel_rfl
noncomputable def Wz:List Int->List Cl
 | []=>[]
 |x::r=>.rel .Lt (.int x) (.int 0) false:: .rel .Gt (.int x) (.int 255) false::Wz r
theorem l8(h:0<=x/\x<=255)(t:All v8 r)(hl:l= .rel .Lt (.int x) (.int 0) false:: .rel .Gt (.int x) (.int 255) false::r):All v8 l:=
 hl▸ .cons (fL (dx (dX.mpr h.1))) (.cons (og (dx (dX.mpr h.2))) t)
theorem fm(x):0<=Int.fmod x 256/\Int.fmod x 256<=255:=by
 refine Rw (zF _ (show(0:Int)<=256 by decide)) ?_;exact⟨Og _ (by decide),Fi (NT _ (by decide))⟩
theorem WA(x:Int){a:Int}(ha:0<=a):Int.fdiv x (a*256)=Int.fdiv (Int.fdiv x a) 256:=by
 exact Rw (EZ x (Int.mul_nonneg ha (by decide))) (Rw (EZ x ha) (Rw (EZ (b:=256) _ (by decide)) (Rw (Int.ediv_ediv_of_nonneg ha) rfl)))
theorem CP(x)(hx:inR x):(((Int.fmod (Int.fdiv x 16777216) 256*256+Int.fmod (Int.fdiv x 65536) 256)*256+Int.fmod (Int.fdiv x 256) 256)*256+Int.fmod x 256)=x:=by
 have hq:Int.fmod (Int.fdiv x 16777216) 256=Int.fdiv x 16777216:=by
  exact Rw (EZ _ (by decide)) (Int.fmod_eq_of_lt (Oh hx.1 (by decide)) (Int.ediv_lt_of_lt_mul (by decide) hx.2))
 exact Rw hq (Rw (show Int.fdiv x 16777216=Int.fdiv (Int.fdiv x 65536) 256 from WA x (a:=65536) (by decide)) (Rw (Fh ..) (Rw (show Int.fdiv x 65536=Int.fdiv (Int.fdiv x 256) 256 from WA x (a:=256) (by decide)) (Rw (Fh ..) (Rw (Fh ..) rfl)))))
theorem R3(n)(k v)(hk:inR k)(hv:inR v)(os):
  ae v8 (n+2) 24 [.dat (dl (cS k v))] os= .ok (.dat (.tuple [.bool true,.int k,.int v])) os:=by
 have z:(0:Int)<=0/\(0:Int)<=255:=by decide
 haveI q0:All v8 [.rel .Eq (.int ((cS k v).getD 15 0)) (.int (Int.fmod ((cS k v).take 15).sum 256)) true]:=.cons (ji (bP (by kernel_rfl))) .nil
 haveI hf:All v8 (Wz (cS k v)++ [.rel .Eq (.int ((cS k v).getD 15 0)) (.int (Int.fmod ((cS k v).take 15).sum 256)) true]):=
  l8 (show(0:Int)<=1/\(1:Int)<=255 by decide) (l8 (fm _) (l8 (fm _) (l8 (fm _) (l8 (fm _) (l8 (fm _) (l8 (fm _) (l8 (fm _) (l8 (fm _) (l8 z (l8 z (l8 z (l8 z (l8 z (l8 z (l8 (fm _) q0 rfl) rfl) rfl) rfl) rfl) rfl) rfl) rfl) rfl) rfl) rfl) rfl) rfl) rfl) rfl) rfl
 haveI q:=bI [20,22] [] [] (n:=n+2) (f:=24) (rs:=[.dat (dl (cS k v))]) (os:=os) (R:=.ok (.dat (.tuple [.bool true,.int (((Int.fmod (Int.fdiv k 16777216) 256*256+Int.fmod (Int.fdiv k 65536) 256)*256+Int.fmod (Int.fdiv k 256) 256)*256+Int.fmod k 256),.int (((Int.fmod (Int.fdiv v 16777216) 256*256+Int.fmod (Int.fdiv v 65536) 256)*256+Int.fmod (Int.fdiv v 256) 256)*256+Int.fmod v 256)])) os) hf (by kernel_rfl)
 rw[CP k hk,CP v hv]at q;exact q
theorem LZ(n)(os):ae v8 (n+2) 24 [.dat (dl (zs 16))] os= .ok (.dat (.tuple [.bool false,.int 0,.int 0])) os:=by
 kernel_rfl
noncomputable def LP(k:Nat):Option (Int×Int):=match k with
 |0=>some (16909060,84281096)
 |1=>some (4294967295,4294967295)
 |2=>some (16909060,256)
 |_=>none
structure iC where
 bl:List (List Int)
 cT:Int
 wr:Int
def cI(d:iC):bt:=⟨true,16,[(81,.own (d.bl.map dl)),(74,.dat (.int d.cT)),(70,.dat (.int d.wr))]⟩
noncomputable def aZ(s l:Nat)(sg:LV)(dead:Bool):bt:=⟨true,17,[(61,.ref 0),(64,.dat (.int s)),(63,.dat (.int l)),(82,sg),(90,.dat (.bool dead))]⟩
noncomputable def iC.put(d:iC)(i:Nat)(b:List Int):iC:=⟨d.bl.set i b,if d.cT>0 then d.cT-1 else d.cT,d.wr+1⟩
def bW(d:iC):Prop:=d.bl.length<=1000/\ ∀b∈d.bl,b.length<=100
theorem fU(d:iC)(i)(b):(d.put i b).bl.length=d.bl.length:=km
theorem bW.put(h:bW d)(i)(b)(hb:b.length<=100):bW (d.put i b):=by
 refine⟨Rw (fU ..) h.1,fun x hx=>?_⟩;rcases zG hx with h1|h1
 ·exact h.2 x h1
 ·exact Rw h1 hb
theorem sz(b)(h:b.length<=100):CM (dl b)=some (dl b):=by
 exact(if_pos (by rw[cn];exact aI h (Dn rfl)))
theorem lM(xs)(i:Nat)(x)(h:xs[i]?=some x)(hl:xs.length<=1000):Gd xs i=some x:=by
 haveI h1:=(wZ.1 h).1
 show(if(0:Int)<=i then _ else _)=_;refine Rw (if_pos (zQ i)) ?_;refine Rw (if_pos (by lia)) ?_;simp only[Int.toNat_natCast,h]
theorem Eg(xs)(i:Nat)(v)(h:i<xs.length)(hl:xs.length<=1000):ku xs i v=some (xs.set i v):=by
 show(if _ then _ else _)=_;refine Rw (if_pos (⟨zQ _,kc.mpr h,Br (kn.mpr (pR (ve h hl))) (by decide)⟩)) ?_;dsimp only[Int.toNat_natCast]
theorem WB(bl:List (List Int))(i)(h:i<bl.length):(bl.map dl)[i]?=some (dl (bl.getD i [])):=by
 exact Rw jK (Rw fi (Rw (nq h) rfl))
theorem IS(bl:List (List Int))(hb:∀b∈bl,b.length<=100)(i):(bl.getD i []).length<=100:=by
 refine Rw (fi) ?_;generalize e:bl[i]?=zV
 induction zV using Oc with
 |none=>exact ft _
 |some b=>exact hb b (zK e)
def PM(d:iC)(i:Nat)(b:List Int)(os:List bt):gu:=if d.cT=0 then .exc 11 (cI d::os)else .ok (.dat .none) (cI (d.put i b)::os)
theorem jD(n)(d:iC)(i)(b)(hi:i<d.bl.length)(hb:b.length<=100)(yW:d.bl.length<=1000)(os):
  ae v8 (n+1) 1002 [.ref 0,.dat (.int i),.dat (dl b)] (cI d::os)=PM d i b os:=by
 unfold PM;by_cases h0:d.cT=0
 ·exact Rw (if_pos h0) (bI [77] [] [] (aR (ji (bP h0)) aN) (by kernel_rfl))
 ·rw[aw h0]
  haveI h1:ku (d.bl.map dl) i (dl b)=some ((d.bl.set i b).map dl):=Rw (Eg _ _ _ (by simpa using hi) (by simpa using yW)) (Rw BL rfl)
  haveI hf {g:Bool} (hg:decide (0<d.cT)=g):=aR (ji (dx h0)) (aV (sz b hb) (aT h1 (aR (og hg) aN)))
  unfold iC.put;by_cases h4:d.cT>0
  ·exact Rw (if_pos h4) (bI [77,81] [79025036,79008022] [] (hf (bP h4)) (by kernel_rfl))
  ·exact Rw (aw h4) (bI [77,81] [79025036,79008022] [] (hf (dx h4)) (by kernel_rfl))
theorem cW(n)(d:iC)(i)(hi:i<d.bl.length)(hd:bW d)(os):
  ae v8 (n+1) 1001 [.ref 0,.dat (.int i)] (cI d::os)= .ok (.dat (dl (d.bl.getD i []))) (cI d::os):=
 bI [] [74020034,74015035] [] (aV (x:=bZ (.list (d.bl.map dl)) (.int i)) (lM _ _ _ (WB _ _ hi) (by simpa using hd.1)) (aV (sz _ (IS _ hd.2 i)) aN)) (by kernel_rfl)
theorem sC(n)(s l:Nat)(o):
  ae v8 (n+1) 1004 [.ref 1,.ref 0,.dat (.int s),.dat (.int l)] [o,⟨true,17,[]⟩]= .ok (.dat .none) [o,aZ s l (.own []) false]:=by kernel_rfl
noncomputable def fv:MS->MT
 |.for t _ _ _=>t
 |_=>.loc 0 ⟨0,0,0,0⟩
noncomputable def gz:MS->List MS
 |.for _ _ b _=>b
 |.ifs _ b _ _=>b
 |.try b _ _=>b
 |_=>[]
noncomputable def cE(ss:List MS)(i:Nat):MS:=ss.getD i (.pass ⟨0,0,0,0⟩)
theorem aL{st:St}(h:aO t (execs v8 (ae v8 n) b) items st=R)(q:All v8 l):All v8 (.loop n t b items st R::l):=.cons h q
theorem aG(h:gZ n=some xs)(q:All v8 l):All v8 (.XY n xs::l):=.cons h q
theorem aM(h:xs.length<=lim)(q:All v8 l):All v8 (.lim xs::l):=.cons h q
section
theorem bQ{st:St}(h1:fu t d st=some st1)(h2:body st1= .ok .next st2)(h3:aO t body ds st2=R):aO t body (d::ds) st=R:=by
 rw[aO,h1];dsimp only;refine Rw h2 ?_;exact h3
theorem L3{st:St}(h1:fu t d st=some st1)(h2:body st1= .ok .cont st2)(h3:aO t body ds st2=R):aO t body (d::ds) st=R:=by
 rw[aO,h1];dsimp only;refine Rw h2 ?_;exact h3
theorem AY{st:St}(h1:fu t d st=some st1)(h2:body st1= .ok (.ret r) st2):aO t body (d::ds) st= .ok (.ret r) st2:=by
 rw[aO,h1];dsimp only;rw[h2];rfl
theorem we{st:St}(h1:fu t d st=some st1)(h2:body st1= .exc x st2):aO t body (d::ds) st= .exc x st2:=by
 rw[aO,h1];dsimp only;rw[h2];rfl
end
inductive T1(x:Nat):List (Nat×LV)->Prop
 |no:T1 x []
 |one(a:LV):T1 x [(x,a)]
abbrev KV:=List (Int×Int)
abbrev W3:=Bool×Int×Int
noncomputable def cP(r:W3):D:=.tuple [.bool r.1,.int r.2.1,.int r.2.2]
def gC(xs:List (Nat×List Int)):List D:=xs.map fun p=>.tuple [.int (p.1:Int),dl p.2]
def yX(sg:LV)(xs:List D):Prop:=sg= .own xs\/sg= .dat (.list xs)
def om(w:Option W3)(objs:List bt):gu:=match w with
 |some r=>.ok (.dat (cP r)) objs
 |none=>.exc 13 objs
def yY(w:Option W3):gu:=match w with
 |some r=>.ok (.dat (cP r)) []
 |none=>.exc 12 []
noncomputable def Ui(i:Nat)(os:List bt)(tl:List (Nat×LV)):St:=⟨[(103,.ref 1),(86,.dat (.int i))]++tl,[],[],os⟩
def WC(p:Nat×List Int):D:=.tuple [.int (p.1:Int),dl p.2]
theorem qW(n)(i)(r)(os):∀(xs:List (Nat×List Int)) (hx:∀p∈xs,p.1=i->ae v8 n 24 [.dat (dl p.2)] []=yY (some r)) (tl:List (Nat×LV)),T1 53 tl->
  ∃gj,aO (fv (cE cU.body 0)) (execs v8 (ae v8 n) (gz (cE cU.body 0))) (gC xs) (Ui i os tl)=
   .ok (if xs.any (fun p=>p.1==i)then .ret (.dat (cP r))else .next) (Ui i os gj):=by
 intro xs
 induction xs with
 |nil=>exact fun ω tl ω=>⟨tl,rfl⟩
 |cons p xs ih=>
  intro hx tl ht;have hs:fu (fv (cE cU.body 0)) (WC p) (Ui i os tl)=some (Ui i os [(53,.dat (WC p))]):=by induction ht<;>rfl
  by_cases e:p.1=i
  ·refine Rw (show((p::xs).any fun p=>p.1==i)=true by rw[ub,fY.mpr e];rfl) (Rw (if_pos rfl) ?_)
   haveI hn:=hx p (.head _) e
   induction n using Nat.casesAuxOn with
   |zero=>cases hn
   |succ n=>exact⟨_,AY (st2:=Ui i os [(53,.dat (WC p))]) hs (d7 [131] [] [24] (aR (ji (a:=(p.1:Int)) (b:=(i:Int)) (bP (by exact bz _ e))) (aC hn aN)) (by kernel_rfl))⟩
  ·obtain⟨gj,h⟩:=ih (fun q hq=>hx q (.tail _ hq)) _ (.one (.dat (WC p)));refine⟨gj,bQ (st2:=Ui i os [(53,.dat (WC p))]) hs (d7 [131] [] [] (aR (ji (a:=(p.1:Int)) (b:=(i:Int)) (dx fun z=>e (FL.mp z))) aN) (by kernel_rfl)) ?_⟩;exact Rw (show((p::xs).any fun p=>p.1==i)=xs.any fun p=>p.1==i by exact Rw ub (Rw (Bx.mpr e) rfl)) h
theorem R4(n)(i:Nat)(r)(xs)(hx:∀p∈xs,p.1=i->ae v8 (n+2) 24 [.dat (dl p.2)] []=yY (some r))(ha:xs.any (fun p=>p.1==i)=true)(o)(s l)(sg)(dead)(hs:yX sg (gC xs)):
  ae v8 (n+3) 1009 [.ref 1,.dat (.int i)] [o,aZ s l sg dead]=om (some r) [o,aZ s l sg dead]:=by
 refine O2 hs ?_ ?_
 ·obtain⟨tl,h⟩:=qW (n+2) i r (hidden [o,aZ s l (.own (gC xs)) dead]) xs hx [] .no;exact bI [130] [] [] (aL ((if_pos ha)▸h) aN) (by kernel_rfl)
 ·obtain⟨tl,h⟩:=qW (n+2) i r [o,aZ s l (.dat (.list (gC xs))) dead] xs hx [] .no;exact bI [130] [] [] (aL ((if_pos ha)▸h) aN) (by kernel_rfl)
theorem IT(n)(i)(w)(xs)(hx:∀p∈xs,p.1≠i)(d)(hd:bW d)(s l)(sg)(dead)(hs:yX sg (gC xs))(hi:1+l+i<d.bl.length)(hw:ae v8 (n+2) 24 [.dat (dl (d.bl.getD (1+l+i) []))] []=yY w):
  ae v8 (n+3) 1009 [.ref 1,.dat (.int i)] [cI d,aZ s l sg dead]=om w [cI d,aZ s l sg dead]:=by
 haveI hr:=cW (n+1) d (1+l+i) hi hd [aZ s l sg dead]
 have ha:(xs.any fun p=>p.1==i)=false:=by
  generalize e:xs.any fun p=>p.1==i=zV
  induction zV using Tc with
  |false=>rfl
  |true=>obtain⟨p,h1,h2⟩:=tX.mp e;exact((hx p h1) (fY.mp h2)).elim
 rcases hs with rfl|rfl
 ·obtain⟨tl,h⟩:=qW (n+2) i (false,0,0) (hidden [cI d,aZ s l (.own (gC xs)) dead]) xs (fun p h e=>absurd e (hx p h)) [] .no;replace h:=ha▸h;cases w<;>exact bI [130] [] [1001,24] (aL h (aC hr (aC hw aN))) (by kernel_rfl)
 ·obtain⟨tl,h⟩:=qW (n+2) i (false,0,0) [cI d,aZ s l (.dat (.list (gC xs))) dead] xs (fun p h e=>absurd e (hx p h)) [] .no;replace h:=ha▸h;cases w<;>exact bI [130] [] [1001,24] (aL h (aC hr (aC hw aN))) (by kernel_rfl)
inductive T2(x y:Nat):List (Nat×LV)->Prop
 |no:T2 x y []
 |one(a b:LV):T2 x y [(x,a),(y,b)]
noncomputable def lN(js:List Nat):List D:=js.map fun(i:Nat)=>.int (i:Int)
def Reads(n s l:Nat)(o:bt)(sg:LV)(dead:Bool)(V:Nat->Option W3):Prop:=
 ∀i,i<s->ae v8 n 1009 [.ref 1,.dat (.int (i:Int))] [o,aZ s l sg dead]=om (V i) [o,aZ s l sg dead]
theorem d9(s:Nat)(h:s<=1000):gZ (s:Int)=some (lN (List.range s)):=by
 delta gZ;rw[if_pos (⟨kn.mpr h,vf (by decide) (zQ s)⟩),Int.toNat_natCast];rfl
noncomputable def R5(key:Int)(o:List bt)(tl:List (Nat×LV)):St:=⟨[(103,.ref 1),(48,.dat (.int key))]++tl,[],[],o⟩
noncomputable def EX(o:List bt)(tl:List (Nat×LV)):St:=⟨[(103,.ref 1)]++tl,[],[],o⟩
noncomputable def WD(r:Option Nat):dJ:=match r with|some i=>.ret (.dat (.int (i:Int)))|none=>.next
theorem L4(n s l)(o)(sg)(dead)(W:Nat->W3)(key):∀(js:List Nat) (hR:∀i∈js,ae v8 (n+1) 1009 [.ref 1,.dat (.int (i:Int))] [o,aZ s l sg dead]=om (some (W i)) [o,aZ s l sg dead]) (tl:List (Nat×LV)),T2 86 110 tl->
  ∃gj,aO (fv (cE dC.body 0)) (execs v8 (ae v8 (n+1)) (gz (cE dC.body 0))) (lN js) (R5 key [o,aZ s l sg dead] tl)=
   .ok (WD (js.find? fun i=>(W i).1&&decide ((W i).2.1=key))) (R5 key [o,aZ s l sg dead] gj):=by
 intro js
 induction js with
 |nil=>exact fun ω tl ω=>⟨tl,rfl⟩
 |cons i js ih=>
  intro hR tl ht
  haveI hs:∃b,fu (fv (cE dC.body 0)) (.int (i:Int)) (R5 key [o,aZ s l sg dead] tl)=some (R5 key [o,aZ s l sg dead] ((86,.dat (.int (i:Int)))::b))/\(b= []\/ ∃c,b= [(110,c)]):=by
   induction ht with
   |no=>exact⟨[],rfl,.inl rfl⟩
   |one a c=>exact⟨[(110,c)],rfl,.inr ⟨c,rfl⟩⟩
  obtain⟨b,hs,hb⟩:=hs
  haveI hr:=hR i (.head _)
  simp only[List.find?_cons];rcases hw:W i with⟨w,k,v⟩;rw[hw]at hr
  haveI ih:=ih (fun j hj=>hR j (.tail _ hj)) _ (.one (.dat (.int (i:Int))) (.dat (cP (w,k,v))))
  induction w with
  |false=>
   obtain⟨gj,h⟩:=ih;refine⟨gj,bQ (st2:=R5 key [o,aZ s l sg dead] [(86,.dat (.int (i:Int))),(110,.dat (cP (false,k,v)))]) hs ?_ h⟩;rcases hb with rfl|⟨c,rfl⟩<;>exact d7 [] [] [1009] (aC hr aN) (by kernel_rfl)
  |true=>
   rcases iy (k=key)with e|e
   ·dsimp only;rw[bP e];refine⟨_,AY (st2:=R5 key [o,aZ s l sg dead] [(86,.dat (.int (i:Int))),(110,.dat (cP (true,k,v)))]) hs ?_⟩;rcases hb with rfl|⟨c,rfl⟩<;>exact d7 [141] [] [1009] (aC hr (aR (ji (bP e)) aN)) (by kernel_rfl)
   ·dsimp only;rw[dx e]
    letI gj:=Ce ih
    haveI h:=(Cs ih)
    refine⟨gj,bQ (st2:=R5 key [o,aZ s l sg dead] [(86,.dat (.int (i:Int))),(110,.dat (cP (true,k,v)))]) hs ?_ h⟩;clear hR ht hs h;rcases hb with rfl|⟨c,rfl⟩<;>exact d7 [141] [] [1009] (aC hr (aR (ji (dx e)) aN)) (by kernel_rfl)
noncomputable def yZ(r:Option Nat):D:=match r with|some i=>.int (i:Int)|none=>.int (-1)
theorem AZ(n s l)(o)(sg)(dead)(W:Nat->W3)(h:Reads (n+1) s l o sg dead (fun i=>some (W i)))(hs:s<=1000)(key):
  ae v8 (n+2) 1010 [.ref 1,.dat (.int key)] [o,aZ s l sg dead]= .ok (.dat (yZ ((List.range s).find? (fun i=>(W i).1&&decide ((W i).2.1=key))))) [o,aZ s l sg dead]:=by
 obtain⟨tl,q⟩:=L4 n s l o sg dead W key (List.range s) (fun i hi=>h i (jn.mp hi)) [] .no;refine(bI [139] [139017034] [] (aG (d9 s hs) (aL q aN)) (R:=.ok (.dat (yZ ((List.range s).find? (fun i=>(W i).1&&decide ((W i).2.1=key))))) [o,aZ s l sg dead]) ?_);generalize(List.range s).find? (fun i=>(W i).1&&decide ((W i).2.1=key))=zV;induction zV using Oc<;>kernel_rfl
theorem L5(n s l)(o)(sg)(dead)(W:Nat->W3):∀(js:List Nat) (hR:∀i∈js,ae v8 (n+1) 1009 [.ref 1,.dat (.int (i:Int))] [o,aZ s l sg dead]=om (some (W i)) [o,aZ s l sg dead]) (tl:List (Nat×LV)),T1 86 tl->
  ∃gj,aO (fv (cE cV.body 0)) (execs v8 (ae v8 (n+1)) (gz (cE cV.body 0))) (lN js) (EX [o,aZ s l sg dead] tl)=
   .ok (WD (js.find? fun i=>!(W i).1)) (EX [o,aZ s l sg dead] gj):=by
 intro js
 induction js with
 |nil=>exact fun ω tl ω=>⟨tl,rfl⟩
 |cons i js ih=>
  intro hR tl ht;have hs:fu (fv (cE cV.body 0)) (.int (i:Int)) (EX [o,aZ s l sg dead] tl)=some (EX [o,aZ s l sg dead] [(86,.dat (.int (i:Int)))]):=by induction ht<;>rfl
  haveI hr:=hR i (.head _)
  simp only[List.find?_cons];rcases hw:W i with⟨w,k,v⟩;rw[hw]at hr
  induction w with
  |false=>exact⟨_,AY (st2:=EX [o,aZ s l sg dead] [(86,.dat (.int (i:Int)))]) hs (d7 [] [] [1009] (aC hr aN) (by kernel_rfl))⟩
  |true=>
   obtain⟨gj,h⟩:=ih (fun j hj=>hR j (.tail _ hj)) _ (.one (.dat (.int (i:Int))));exact⟨gj,bQ (st2:=EX [o,aZ s l sg dead] [(86,.dat (.int (i:Int)))]) hs (d7 [] [] [1009] (aC hr aN) (by kernel_rfl)) h⟩
theorem wg(n s l)(o)(sg)(dead)(W:Nat->W3)(h:Reads (n+1) s l o sg dead (fun i=>some (W i)))(hs:s<=1000):
  ae v8 (n+2) 1011 [.ref 1] [o,aZ s l sg dead]= .ok (.dat (yZ ((List.range s).find? (fun i=>!(W i).1)))) [o,aZ s l sg dead]:=by
 obtain⟨tl,q⟩:=L5 n s l o sg dead W (List.range s) (fun i hi=>h i (jn.mp hi)) [] .no;refine(bI [146] [146017034] [] (aG (d9 s hs) (aL q aN)) (R:=.ok (.dat (yZ ((List.range s).find? (fun i=>!(W i).1)))) [o,aZ s l sg dead]) ?_);generalize(List.range s).find? (fun i=>!(W i).1)=zV;induction zV using Oc<;>kernel_rfl
noncomputable def bG(ps:KV):List D:=ps.map fun p=>.tuple [.int p.1,.int p.2]
noncomputable def dM(k v:Int):KV->KV->Bool->KV×Bool
 | [],out,pl=>(out,pl)
 |p::r,out,pl=>if p.1=k then dM k v r out pl else if pl=false/\k<p.1 then dM k v r (out++ [(k,v),p]) true else dM k v r (out++ [p]) pl
theorem kZ{k v:Int}{out:KV}{pl:Bool}:dM k v [] out pl=(out,pl):=rfl
theorem la{k v:Int}{p:Int×Int}{r out:KV}{pl:Bool}:dM k v (p::r) out pl=if p.1=k then dM k v r out pl else if pl=false/\k<p.1 then dM k v r (out++ [(k,v),p]) true else dM k v r (out++ [p]) pl:=rfl
def lh(ps:KV)(k v:Int):KV:=match dM k v ps [] false with
 |(out,true)=>out
 |(out,false)=>out++ [(k,v)]
def L6(P:D)(k v:Int)(os:List bt)(out:KV)(pl:Bool)(tl:List (Nat×LV)):St:=⟨[(54,.dat P),(48,.dat (.int k)),(49,.dat (.int v)),(51,.own (bG out)),(52,.dat (.bool pl))]++tl,[],[],os⟩
theorem wh(a b):bG a++bG b=bG (a++b):=kb.symm
theorem ou(a):(bG a).length=a.length:=cn _
theorem L7(n)(P)(k v)(os):∀(ps out:KV) (pl:Bool) (tl:List (Nat×LV)),out.length+2*ps.length<=1000->T1 53 tl->
  ∃gj,aO (fv (cE gE.body 2)) (execs v8 (ae v8 n) (gz (cE gE.body 2))) (bG ps) (L6 P k v os out pl tl)= .ok .next (L6 P k v os (dM k v ps out pl).1 (dM k v ps out pl).2 gj):=by
 intro ps
 induction ps with
 |nil=>exact fun ω ω tl ω ω=>⟨tl,rfl⟩
 |cons p ps ih=>
  intro out pl tl hl ht;have hs:fu (fv (cE gE.body 2)) (.tuple [.int p.1,.int p.2]) (L6 P k v os out pl tl)=some (L6 P k v os out pl [(53,.dat (.tuple [.int p.1,.int p.2]))]):=by cases(ht)<;>rfl
  haveI hlen:ps.length+1=(p::ps).length:=rfl
  have R6:(bG out).length<=lim:=by rw[ou];dsimp only[lim];exact aI (fy ..) (aI hl (Dn rfl))
  simp only[kZ,la];by_cases e:p.1=k
  ·refine Rw (if_pos e) ?_;obtain⟨gj,h⟩:=ih out pl [(53,.dat (.tuple [.int p.1,.int p.2]))] (aI (iY (Fo 2 (OD _)) _) hl) (.one _);exact⟨gj,L3 (st2:=L6 P k v os out pl [(53,.dat (.tuple [.int p.1,.int p.2]))]) hs (d7 [57] [] [] (aR (ji (bP e)) aN) (by kernel_rfl)) h⟩
  ·refine Rw (aw e) ?_;by_cases g:pl=false/\k<p.1
   ·refine Rw (if_pos g) ?_;obtain⟨rfl,g⟩:=g;obtain⟨gj,h⟩:=ih (out++ [(k,v),p]) true [(53,.dat (.tuple [.int p.1,.int p.2]))] (by simp;exact aI (dN (nr ..)) hl) (.one _);refine⟨gj,bQ (st2:=L6 P k v os (out++ [(k,v),p]) true [(53,.dat (.tuple [.int p.1,.int p.2]))]) hs ?_ h⟩
    haveI aai:(bG out++ [PyData.tuple [.int k,.int v]]).length<=lim:=by rw[cZ,ou];dsimp only[lim,List.length_singleton];exact aI (iY (aI (Dn rfl) (jm 2 _)) _) (aI hl (Dn rfl))
    delta L6
    rw[show bG (out++ [(k,v),p])=bG out++ [.tuple [.int k,.int v]]++ [.tuple [.int p.1,.int p.2]]by rw[j9,<-wh];rfl];exact d7 [57,59] [60012036,62008021] [] (aR (ji (dx e)) (aR (og (bP g)) (aM R6 (aM aai aN)))) (by kernel_rfl)
   ·refine Rw (aw g) ?_;obtain⟨gj,h⟩:=ih (out++ [p]) pl [(53,.dat (.tuple [.int p.1,.int p.2]))] (by simp;exact aI (dN (nr ..)) (Nat.le_of_succ_le hl)) (.one _);refine⟨gj,bQ (st2:=L6 P k v os (out++ [p]) pl [(53,.dat (.tuple [.int p.1,.int p.2]))]) hs ?_ h⟩
    delta L6
    rw[<-wh];clear hl ht hs hlen h
    induction pl with
    |true=>exact d7 [57] [62008021] [] (aR (ji (dx e)) (aM R6 aN)) (by kernel_rfl)
    |false=>exact d7 [57,59] [62008021] [] (aR (ji (dx e)) (aR (og (dx fun z=>g ⟨rfl,z⟩)) (aM R6 aN))) (by kernel_rfl)
theorem sD(k v)(ps):∀out pl,(dM k v ps out pl).1.length<=out.length+2*ps.length:=by
 induction ps with
 |nil=>intro out pl;exact fB _
 |cons p r ih=>
  intro out pl;dsimp only[kZ,la]
  haveI h1:=ih out pl
  haveI h2:=ih (out++ [(k,v),p]) true
  haveI h3:=ih (out++ [p]) pl
  simp only[cZ,List.length_cons,List.length_nil]at h2 h3⊢;split
  ·exact aI h1 (fy _ 2)
  ·split<;>lia
theorem L8(n)(ps)(k v)(hl:ps.length<=100)(os):
  ae v8 (n+1) 26 [.dat (.list (bG ps)),.dat (.int k),.dat (.int v)] os= .ok (.dat (.list (bG (lh ps k v)))) os:=by
 obtain⟨tl,h⟩:=L7 n (.list (bG ps)) k v os ps [] false [] (by simp;exact aI (Fo _ hl) (Dn rfl)) .no
 haveI hq:=sD k v ps [] false
 delta lh
 generalize dM k v ps [] false=q at h hq;obtain⟨out,pl⟩:=q
 induction pl with
 |true=>exact bI [56] [] [] (aL h aN) (by kernel_rfl)
 |false=>
  exact Rw (show bG (out++ [(k,v)])=bG out++ [.tuple [.int k,.int v]]from(wh _ _).symm) (bI [56] [64008032] [] (aL h (aM (xs:=bG out) (by rw[ou];dsimp only[lim,List.length_nil]at hq⊢;lia) aN)) (by kernel_rfl))
noncomputable def fe(V:Nat->Option W3):List Nat->KV->Option KV
 | [],out=>some out
 |i::r,out=>match V i with
  |none=>none
  |some w=>fe V r (if w.1 then lh out w.2.1 w.2.2 else out)
theorem Eh{V:Nat->Option W3}{out:KV}:fe V [] out=some out:=rfl
theorem uS{V:Nat->Option W3}{i:Nat}{r:List Nat}{out:KV}:fe V (i::r) out=match V i with
  |none=>none
  |some w=>fe V r (if w.1 then lh out w.2.1 w.2.2 else out):=rfl
theorem IU(ps)(k v):(lh ps k v).length<=2*ps.length+1:=by
 haveI:=sD k v ps [] false
 delta lh
 generalize dM k v ps [] false=q at this⊢;obtain⟨out,pl⟩:=q;dsimp only[List.length_nil]at this;induction pl<;>simp<;>lia
noncomputable def PN(lv:LV)(o:List bt)(tl:List (Nat×LV)):St:=⟨[(103,.ref 1),(51,lv)]++tl,[],[],o⟩
def ppR(r:Option KV)(lv:LV)(o:List bt)(tl:List (Nat×LV)):Res dJ:=match r with
 |some _=>.ok .next (PN lv o tl)
 |none=>.exc 13 (PN lv o tl)
theorem L9(n s l)(o)(sg)(dead)(V:Nat->Option W3):∀(js:List Nat) (hR:∀i∈js,ae v8 (n+1) 1009 [.ref 1,.dat (.int (i:Int))] [o,aZ s l sg dead]=om (V i) [o,aZ s l sg dead]) (out:KV) (lv:LV) (tl:List (Nat×LV)),(out.length+1)*2^js.length<=101->yX lv (bG out)->T2 86 110 tl->
  ∃fh gj,aO (fv (cE eN.body 1)) (execs v8 (ae v8 (n+1)) (gz (cE eN.body 1))) (lN js) (PN lv [o,aZ s l sg dead] tl)=ppR (fe V js out) fh [o,aZ s l sg dead] gj/\ ∀out',fe V js out=some out'->yX fh (bG out'):=by
 intro js
 induction js with
 |nil=>exact fun ω out lv tl ω hv ω=>⟨lv,tl,rfl,fun out' e=>Rl (dS e) hv⟩
 |cons i js ih=>
  intro hR out lv tl hl hv ht
  haveI hs:∃b,fu (fv (cE eN.body 1)) (.int (i:Int)) (PN lv [o,aZ s l sg dead] tl)=some (PN lv [o,aZ s l sg dead] ((86,.dat (.int (i:Int)))::b))/\(b= []\/ ∃c,b= [(110,c)]):=by
   induction ht with
   |no=>exact⟨[],rfl,.inl rfl⟩
   |one a c=>exact⟨[(110,c)],rfl,.inr ⟨c,rfl⟩⟩
  obtain⟨b,Cb⟩:=hs
  haveI hr:=hR i (.head _)
  haveI nQ:=by
   haveI:=hl;rw[List.length_cons,Nat.pow_succ,<-FQ]at this;exact this
  have hol:out.length+1<=101:=aI (Nat.le_mul_of_pos_right _ (Nat.pow_pos (Dn rfl))) (hl);dsimp only[uS];generalize hw:V i=zV
  induction zV using Oc with
  |none=>
   replace hr:=hw▸hr;refine⟨lv,_,we (st2:=PN lv [o,aZ s l sg dead] ((86,.dat (.int (i:Int)))::b)) Cb.1 ?_,fun ω z=>(nomatch z)⟩;rcases Cb.2 with rfl|⟨c,rfl⟩<;>exact d7 [] [] [1009] (aC hr aN) (by kernel_rfl)
  |some w=>
   rw[hw]at hr;obtain⟨w,uT⟩:=w
   induction w with
   |false=>
    refine Bc fun au=>?_;obtain⟨fh,gj,h,h2⟩:=ih (fun j hj=>hR j (.tail _ hj)) out lv [(86,.dat (.int (i:Int))),(110,.dat (cP (false,uT.1,uT.2)))] (aI (jm ..) nQ) hv (.one _ _);refine au ?_;refine⟨fh,gj,bQ (st2:=PN lv [o,aZ s l sg dead] [(86,.dat (.int (i:Int))),(110,.dat (cP (false,uT.1,uT.2)))]) Cb.1 ?_ h,h2⟩;rcases Cb.2 with rfl|⟨c,rfl⟩<;>exact d7 [] [] [1009] (aC hr aN) (by kernel_rfl)
   |true=>
    have R7:=IU out uT.1 uT.2;obtain⟨fh,gj,h,h2⟩:=ih (fun j hj=>hR j (.tail _ hj)) (lh out uT.1 uT.2) (.dat (.list (bG (lh out uT.1 uT.2)))) [(86,.dat (.int (i:Int))),(110,.dat (cP (true,uT.1,uT.2)))] (aI (Nat.mul_le_mul_right _ (show(lh out uT.1 uT.2).length+1<=(out.length+1)*2 by lia)) (Rw (FQ ..) (Rw (Nat.mul_comm 2 ..) (Rl (FQ ..) nQ)))) (.inr rfl) (.one _ _);refine⟨fh,gj,bQ (st2:=PN (.dat (.list (bG (lh out uT.1 uT.2)))) [o,aZ s l sg dead] [(86,.dat (.int (i:Int))),(110,.dat (cP (true,uT.1,uT.2)))]) Cb.1 ?_ h,h2⟩;refine O2 hv ?_ ?_<;>rcases Cb.2 with rfl|⟨c,rfl⟩<;>exact d7 [] [] [1009,26] (aC hr (aC (L8 n out uT.1 uT.2 (Fz hol) []) aN)) (by kernel_rfl)
def prR(r:Option KV)(os:List bt):gu:=match r with
 |some out=>.ok (.dat (.list (bG out))) os
 |none=>.exc 13 os
theorem y3(n s l)(o)(sg)(dead)(V:Nat->Option W3)(h:Reads (n+1) s l o sg dead V)(hs:s<=6):
  ae v8 (n+2) 1018 [.ref 1] [o,aZ s l sg dead]=prR (fe V (List.range s) []) [o,aZ s l sg dead]:=by
 obtain⟨lv,tl,h1,h2⟩:=L9 n s l o sg dead V (List.range s) (fun i hi=>h i (jn.mp hi)) [] (.own []) [] (by
  refine Rw NO ?_
  exact aI (Fo _ (Nat.pow_le_pow_right (Dn rfl) hs)) (Dn rfl)) (.inl rfl) .no
 haveI hf:=aG (d9 s (aI hs (Dn rfl))) (aL h1 aN)
 clear h hs h1;generalize e:fe V (List.range s) []=zV
 induction zV using Oc with
 |none=>replace hf:=e▸hf;exact bI [201] [201017034] [] hf (by kernel_rfl)
 |some out=>
  rw[e]at hf;rcases h2 out e with rfl|rfl<;>exact bI [201] [201017034] [] hf (by kernel_rfl)
theorem lO(xs)(h:xs.length<=lim):wd (.list xs)=some (.int (xs.length:Int)):=by
 delta wd xp;dsimp only;refine Rw (if_pos h) ?_;rfl
noncomputable def W(hs:KV)(i:Nat):W3:=match hs[i]? with
 |some p=>(true,p.1,p.2)
 |none=>(false,0,0)
noncomputable def fg(k v:Int):KV->KV
 | []=>[(k,v)]
 |p::r=>if p.1=k then(p.1,v)::r else p::fg k v r
theorem iU{k v:Int}:fg k v []= [(k,v)]:=rfl
theorem iV{k v:Int}{p:Int×Int}{r:KV}:fg k v (p::r)=if p.1=k then(p.1,v)::r else p::fg k v r:=rfl
theorem Ei(k v)(hs)(h:∀p∈hs,p.1≠k):hs++ [(k,v)]=fg k v hs:=by
 induction hs with
 |nil=>rfl
 |cons a r ih=>simp[iU,iV,h a qw,ih (fun p hp=>h p (zM _ hp))]
theorem IV(hk:inR k)(hv:inR v)(t:All v8 l):All v8 (.rel .Lt (.int k) (.int 0) false:: .rel .GtE (.int k) (.int 4294967296) false:: .rel .Lt (.int v) (.int 0) false:: .rel .GtE (.int v) (.int 4294967296) false::l):=
 aR (fL (dx (by have:=hk.1;exact dX.mpr this))) (aR (tM (dx (by have:=hk.2;exact pT.mpr this))) (aR (fL (dx (by have:=hv.1;exact dX.mpr this))) (aR (tM (dx (by have:=hv.2;exact pT.mpr this))) t)))
noncomputable def IW:gu->gu
 |.ok _ os=>.ok (.dat .none) os
 |.exc x os=>.exc x os
 |.bad=>.bad
theorem WE(n)(s l)(sg)(o)(dead)(k v)(hk:inR k)(hv:inR v)(F G)(R)(hR:R≠ .bad)(e1:ae v8 (n+2) 1010 [.ref 1,.dat (.int k)] [o,aZ s l sg dead]= .ok (.dat (yZ F)) [o,aZ s l sg dead])(e2:ae v8 (n+2) 1011 [.ref 1] [o,aZ s l sg dead]= .ok (.dat (yZ G)) [o,aZ s l sg dead])(e3:∀i,(F.or G)=some i->ae v8 (n+2) 1012 [.ref 1,.dat (.int i),.dat (dl (cS k v))] [o,aZ s l sg dead]=R):
  ae v8 (n+3) 1014 [.ref 1,.dat (.int k),.dat (.int v)] [o,aZ s l sg dead]=(match F.or G with
   |none=>.exc 14 [o,aZ s l sg dead]
   |some _=>IW R):=by
 haveI e4:=aah n k v []
 haveI nn (i:Nat):bp .Lt (.int (i:Int)) (.int 0)=some false:=fL (dx (by lia))
 haveI m1:bp .Lt (.int (-1)) (.int 0)=some true:=rfl
 induction F with
 |some i=>
  refine Bc fun au=>?_
  induction R with
  |bad=>apply au;exact absurd rfl hR
  |ok r os=>apply au;exact bI [167,170,172] [] [1010,1011,1012,23] (IV hk hv (aC e1 (aR (nn i) (aR (nn i) (aC e4 (aC (e3 i rfl) aN)))))) (by kernel_rfl)
  |exc x os=>apply au;exact bI [167,170,172] [] [1010,1011,1012,23] (IV hk hv (aC e1 (aR (nn i) (aR (nn i) (aC e4 (aC (e3 i rfl) aN)))))) (by kernel_rfl)
 |none=>
  induction G with
  |none=>exact bI [167,170,172] [] [1010,1011,1012,23] (IV hk hv (aC e1 (aR m1 (aC e2 (aR m1 aN))))) (by kernel_rfl)
  |some i=>
   induction R with
   |bad=>exact absurd rfl hR
   |ok r os=>exact bI [167,170,172] [] [1010,1011,1012,23] (IV hk hv (aC e1 (aR m1 (aC e2 (aR (nn i) (aC e4 (aC (e3 i rfl) aN))))))) (by kernel_rfl)
   |exc x os=>exact bI [167,170,172] [] [1010,1011,1012,23] (IV hk hv (aC e1 (aR m1 (aC e2 (aR (nn i) (aC e4 (aC (e3 i rfl) aN))))))) (by kernel_rfl)
theorem CQ(n)(objs)(k v)(h:¬(inR k/\inR v)):ae v8 (n+1) 1014 [.ref 1,.dat (.int k),.dat (.int v)] objs= .exc 15 objs:=by
 refine Bc fun au=>?_;by_cases k1:k<0
 ·apply au;exact bI [167] [] [] (aR (fL (bP k1)) aN) (by kernel_rfl)
 ·apply au;by_cases k2:4294967296<=k
  ·exact bI [167] [] [] (aR (fL (dx k1)) (aR (tM (bP k2)) aN)) (by kernel_rfl)
  ·by_cases v1:v<0
   ·exact bI [167] [] [] (aR (fL (dx k1)) (aR (tM (dx k2)) (aR (fL (bP v1)) aN))) (by kernel_rfl)
   ·exact bI [167] [] [] (aR (fL (dx k1)) (aR (tM (dx k2)) (aR (fL (dx v1)) (aR (tM (a:=v) (b:=4294967296) (bP (by unfold inR at h;lia))) aN)))) (by kernel_rfl)
noncomputable def cX:List (Nat×List Int)->iC->iC×Bool
 | [],d=>(d,true)
 |(i,b)::r,d=>if d.cT=0 then(d,false)else cX r (d.put i b)
theorem fM(i)(b)(r)(d):cX ((i,b)::r) d=if d.cT=0 then(d,false)else cX r (d.put i b):=rfl
theorem y4(ws):∀d:iC,(cX ws d).1.bl.length=d.bl.length:=by
 induction ws with
 |nil=>intro d;rfl
 |cons w r ih=>
  intro d;rw[fM];split
  ·rfl
  ·exact(ih ..).trans (fU ..)
theorem qq(a b):∀d:iC,cX (a++b) d=if(cX a d).2 then cX b (cX a d).1 else cX a d:=by
 induction a with
 |nil=>intro d;rfl
 |cons w r ih=>
  intro d;refine Rw (FI ..) (Rw (fM ..) (Rw (fM ..) ?_));split
  ·rfl
  ·exact ih _
theorem CR(ws)(hw:∀w∈ws,w.2.length<=100):∀d:iC,bW d->bW (cX ws d).1:=by
 induction ws with
 |nil=>exact fun d h=>h
 |cons w r ih=>
  intro d h;rw[fM];split
  ·exact h
  ·exact ih (fun x hx=>hw x (.tail _ hx)) _ (h.put _ _ (hw w (.head _)))
def X0(r:iC×Bool)(mk:bt->St):Res dJ:=if r.2 then .ok .next (mk (cI r.1))else .exc 11 (mk (cI r.1))
def wkC(r:iC×Bool)(mk mk2:bt->List bt):gu:=if r.2 then .ok (.dat .none) (mk (cI r.1))else .exc 11 (mk2 (cI r.1))
theorem R8(j:Nat):(1:Int)+(j:Int)=((1+j:Nat):Int):=rfl
def CS(s l:Nat):List (Nat×List Int):=(0,zs 16)::(List.range s).map fun i=>(1+l+i,zs 16)
theorem Ej(n s l)(sg)(dead):∀(js:List Nat) (d:iC) (tl:List (Nat×LV)),(∀i∈js,1+l+i<d.bl.length)->d.bl.length<=1000->T1 86 tl->
  ∃gj,aO (fv (cE fR.body 1)) (execs v8 (ae v8 (n+2)) (gz (cE fR.body 1))) (lN js) (EX [cI d,aZ s l sg dead] tl)=X0 (cX (js.map fun i=>(1+l+i,zs 16)) d) fun o=>EX [o,aZ s l sg dead] gj:=by
 intro js
 induction js with
 |nil=>exact fun d tl ω ω ω=>⟨tl,rfl⟩
 |cons i js ih=>
  intro d tl hi hl ht;have hs:fu (fv (cE fR.body 1)) (.int (i:Int)) (EX [cI d,aZ s l sg dead] tl)=some (EX [cI d,aZ s l sg dead] [(86,.dat (.int (i:Int)))]):=by induction ht<;>rfl
  haveI hw:=jD (n+1) d (1+l+i) (zs 16) (hi i (.head _)) (Dn rfl) hl [aZ s l sg dead]
  simp only[c7,fM];unfold PM at hw;by_cases h0:d.cT=0
  ·rw[if_pos h0]at hw⊢;exact⟨_,we (st2:=EX [cI d,aZ s l sg dead] [(86,.dat (.int (i:Int)))]) hs (d7 [] [] [1002] (aC hw aN) (by kernel_rfl))⟩
  ·rw[aw h0]at hw⊢;obtain⟨gj,h⟩:=ih (d.put (1+l+i) (zs 16)) [(86,.dat (.int (i:Int)))] (fun j hj=>Rw (fU ..) (hi j (.tail _ hj))) (Rw (fU ..) hl) (.one _);exact⟨gj,bQ (st2:=EX [cI (d.put (1+l+i) (zs 16)),aZ s l sg dead] [(86,.dat (.int (i:Int)))]) hs (d7 [] [] [1002] (aC hw aN) (by kernel_rfl)) h⟩
theorem CT(n s l)(sg)(dead)(d)(hl:1+l+s<=d.bl.length)(hb:d.bl.length<=1000)(hs:s<=1000):
  ae v8 (n+3) 1006 [.ref 1] [cI d,aZ s l sg dead]=wkC (cX (CS s l) d) (fun o=>[o,aZ s l sg dead]) (fun o=>[o,aZ s l sg dead]):=by
 haveI hw:=jD (n+1) d 0 (zs 16) (by lia) (Dn rfl) hb [aZ s l sg dead]
 unfold PM at hw
 delta CS
 simp only[fM];by_cases h0:d.cT=0
 ·rw[if_pos h0]at hw⊢;exact bI [] [] [1002] (aC hw aN) (by kernel_rfl)
 ·rw[aw h0]at hw⊢;obtain⟨tl,h⟩:=Ej n s l sg dead (List.range s) (d.put 0 (zs 16)) [] (fun i hi=>by rw[fU];have:=jn.1 hi;exact aI (iY this _) hl) (Rw (fU ..) hb) .no;generalize cX ((List.range s).map fun i=>(1+l+i,zs 16)) (d.put 0 (zs 16))=r at h⊢;obtain⟨d2,q⟩:=r;induction q<;>exact bI [100] [100017034] [1002] (aC hw (aG (d9 s hs) (aL h aN))) (by kernel_rfl)
noncomputable def Uj(T:D)(o:List bt)(tl:List (Nat×LV)):St:=⟨[(103,.ref 1),(50,.dat T)]++tl,[],[],o⟩
noncomputable def R9(ts:List Int)(o:List bt)(tl:List (Nat×LV)):St:=⟨[(103,.ref 1),(50,.own (ts.map .int))]++tl,[],[],o⟩
def coB:List MS:=gz (cE j4.body 0)
noncomputable def Ek:MS->ME
 |.ret e _=>e
 |.asg _ e _=>e
 |_=>.jt 0 ⟨0,0,0,0⟩
def wj:ME->ME
 |.comp e _ _ _ _=>e
 |e=>e
noncomputable def wk:ME->MT
 |.comp _ (.mk t _ _) _ _ _=>t
 |_=>.loc 0 ⟨0,0,0,0⟩
noncomputable def Ma:ME->List ME
 |.comp _ (.mk _ _ i) _ _ _=>i
 |_=>[]
theorem aP(h:cv (ev v8 (ae v8 n) elt) [] t (bS v8 (ae v8 n) ifs) items ⟨[],aW,[],[]⟩=some ds)(hl:ds.length<=lim)(q:All v8 l):All v8 (.comp n elt t ifs items aW ds::l):=.cons ⟨h,hl⟩ q
theorem Mb{os:List (Option (List D))}(h1:iH [o]=some a)(h2:iH os=some b):iH (o::os)=some (a++b):=by
 induction o with
 |none=>cases h1
 |some x=>
  haveI h1:some (x++ [])=some a:=h1
  rw[rm]at h1;obtain rfl:x=a:=dS h1;exact bz _ h2
theorem jE{α:Type}(elt)(t)(ifs)(aW)(g:α->D)(f:α->List D):∀(xs:List α) (h:∀x∈xs,cv elt [] t ifs [g x] ⟨[],aW,[],[]⟩=some (f x)),cv elt [] t ifs (xs.map g) ⟨[],aW,[],[]⟩=some (xs.flatMap f):=by
 intro xs
 induction xs with
 |nil=>exact fun ω=>rfl
 |cons x r ih=>exact fun h=>Mb (h x (.head _)) (ih fun y hy=>h y (.tail _ hy))
theorem wm{α:Type}(f:α->D)(xs:List α):(xs.flatMap fun x=>[f x])=xs.map f:=by
 induction xs with
 |nil=>rfl
 |cons x r ih=>refine Rw Fv (Rw ih ?_);rfl
noncomputable def cpE(x:Nat)(p1 p2 p3:Pos):ME:=.pU .list [.cmp x p1] p2 p3
theorem y5(n x)(p1 p2 p3 p4)(aW)(bl:List (List Int))(hb:∀b∈bl,b.length<=100):cv (ev v8 (ae v8 n) (cpE x p1 p2 p3)) [] (.cmp x p4) (bS v8 (ae v8 n) []) (bl.map dl) ⟨[],aW,[],[]⟩=some (bl.map dl):=by
 refine(jE _ _ _ _ _ _ bl fun b h=>?_).trans (bz some (wm dl bl))
 have e:(ev v8 (ae v8 n) (cpE x p1 p2 p3)).dat ⟨[],aW,[(x,.dat (dl b))],[]⟩= .ok (dl b) ⟨[],aW,[(x,.dat (dl b))],[]⟩:=by
  show Res.bind (Res.bind (Res.bind (Res.bind (match look x [(x,LV.dat (dl b))]with|some (.dat d)=>Res.ok (RV.dat d) _|_=>.bad) _) _) _) _=_;rw[cu,if_pos rfl];show Res.bind (Res.bind (if(b.map PyData.int).length<=lim then _ else _) _) _=_;rw[if_pos (by rw[cn];exact aI (hb b h) (by decide))];rfl
 show iH [match(ev v8 (ae v8 n) (cpE x p1 p2 p3)).dat ⟨[],aW,[(x,.dat (dl b))],[]⟩with|.ok v gB=>if gB.objs.isEmpty then some [v]else none|_=>none]=_;rw[e];rfl
theorem IX(bl:List (List Int))(h:bl.length<=1000):(bl.map dl).length<=lim:=Rw (cn ..) (aI h (Dn rfl))
theorem y6(n)(d)(hd:bW d)(os):ae v8 (n+1) 1003 [.ref 0] (cI d::os)= .ok (.dat (.list (d.bl.map dl))) (cI d::os):=
 bI [] [85015045] [] (aP (elt:=wj (Ek (cE jb.body 0))) (t:=wk (Ek (cE jb.body 0))) (ifs:=[]) (y5 n 42 _ _ _ _ [] d.bl hd.2) (IX _ hd.1) aN) (by kernel_rfl)
theorem sE(n)(bl)(cT)(hb:∀b∈bl,b.length<=100)(yW:bl.length<=1000)(os):
  ae v8 (n+1) 1000 [.ref 0,.dat (.list (bl.map dl)),.dat (.int cT)] (⟨true,16,[]⟩::os)= .ok (.dat .none) (cI ⟨bl,cT,0⟩::os):=
 bI [] [69022046] [] (aP (elt:=wj (Ek (cE jO.body 0))) (t:=wk (Ek (cE jO.body 0))) (ifs:=[]) (y5 n 42 _ _ _ _ [] bl hb) (IX _ yW) aN) (by kernel_rfl)
def Pl(k:Nat)(d:D):Prop:=d.canLay0=true/\d.depth<=k
theorem IY(k)(xs)(h:∀x∈xs,Pl k x):PyData.canLayAll0 xs=true/\PyData.depthAll xs<=k:=by
 induction xs with
 |nil=>exact⟨rfl,ft _⟩
 |cons x r ih=>
  have h1:=h x qw
  haveI h2:=ih (fun y hy=>h y (zM _ hy))
  exact⟨fW.mpr ⟨h1.1,h2.1⟩,Nat.max_le.2 ⟨h1.2,h2.2⟩⟩
theorem gN(k)(xs)(h:∀x∈xs,Pl k x):Pl (k+1) (.list xs):=by
 haveI:=IY k xs h
 exact⟨this.1,vg this.2⟩
theorem mY(k)(xs)(h:∀x∈xs,Pl k x):Pl (k+1) (.tuple xs):=by
 haveI:=IY k xs h
 exact⟨this.1,vg this.2⟩
theorem dk(k)(i):Pl k (.int i):=⟨rfl,ft _⟩
theorem CU(k)(i):Pl k (.bool i):=⟨rfl,ft _⟩
theorem Pl.mono(h:Pl k d)(hm:k<=m):Pl m d:=⟨h.1,aI h.2 hm⟩
theorem IZ(k)(b):Pl (k+1) (dl b):=gN k _ (fun x hx=>by
 obtain⟨i,_,e⟩:=bU.1 hx;subst e;exact dk k i)
theorem A0(k)(bl:List (List Int)):Pl (k+2) (.list (bl.map dl)):=gN _ _ (fun x hx=>by
 obtain⟨i,_,e⟩:=bU.1 hx;subst e;exact IZ k i)
theorem A3(k)(ps):Pl (k+2) (.list (bG ps)):=gN _ _ (fun x hx=>by
 obtain⟨p,_,e⟩:=bU.1 hx;obtain rfl:=e
 exact mY k _ (fun y hy=>by
  simp only[cL,eF,jr]at hy
  rcases hy with h|h<;>subst h<;>exact dk k _))
theorem Sa(a b)(ha:Pl 60 a)(hb:Pl 60 b):Gb a b=some (PyData.eqv a b):=by
 have h1:cN a=true:=by simp only[cN,ha.1,BH,iZ];exact aI ha.2 (Dn rfl)
 have h2:cN b=true:=by simp only[cN,hb.1,BH,iZ];exact aI hb.2 (Dn rfl)
 simp[Gb,h1,h2]
theorem I0(a)(ha:Pl 60 a):Gb a a=some true:=by
 rw[Sa a a ha ha,SeqAt.eqv_refl a ha.1]
theorem gR(p:Nat)(hp:p<=100000):small (p:Int)=true:=by
 simp only[small,dg,iZ];lia
theorem CV(n dflt)(I)(hs:small I=true):OU n dflt (some (.int I))=some (eJ n I):=if_pos hs
theorem jV(n p:Nat):eJ n (p:Int)=min p n:=by
 dsimp only[eJ];refine Rw (aw (by lia)) ?_;simp only[Int.toNat_natCast]
theorem I1(xs)(I)(c)(hs:small I=true)(hc:eJ xs.length I=c)(h4:xs.length<=lim):fZ (.list xs) none (some (.int I))=some (.list (xs.take c))/\fZ (.list xs) (some (.int I)) none=some (.list (xs.drop c)):=by
 constructor
 ·refine(if_pos h4).trans ?_
  delta cut;refine Rw (CV _ _ _ hs) ?_;rw[hc];rfl
 ·refine(if_pos h4).trans ?_
  delta cut;refine Rw (CV _ _ _ hs) ?_;rw[hc]
  exact bz (fun z=>some (PyData.list (List.drop c z))) N1
theorem Sb(xs)(p:Nat)(hp:p<=xs.length)(hl:xs.length<=1000):fZ (.list xs) none (some (.int (p:Int)))=some (.list (xs.take p)):=
 (I1 xs p p (gR p (aI hp (aI hl (Dn rfl)))) ((jV ..).trans (pM hp)) (aI hl (Dn rfl))).1
theorem wo(xs)(p:Nat)(hl:xs.length<=1000)(hp:p<=100000):fZ (.list xs) (some (.int (p:Int))) none=some (.list (xs.drop p)):=by
 rw[(I1 xs p (min p xs.length) (gR p hp) (jV _ _) (by delta lim;exact aI hl (Dn rfl))).2];rcases FV p xs.length with h|h
 ·exact Rw (pM h) rfl
 ·exact Rw (By h) (Rw (Fa (fB _)) (Rw (Fa h) rfl))
theorem iD(h:a=b)(hp:Pl 60 a):bp .NotEq a b=some false:=by
 subst h;show(Gb a a).map _=_;refine Rw (I0 a hp) ?_;rfl
def SK(l:KV):Prop:=l.Pairwise fun a b=>a.1<b.1
theorem I3:∀(a b:KV),SK a->SK b->(∀x,x∈a↔x∈b)->a=b:=by
 intro a
 induction a with
 |nil=>
  intro b _ _ h
  induction b with
  |nil=>rfl
  |cons y t=>exact absurd ((h y).2 qw) (by simp)
 |cons x r ih=>
  intro b ha hb h
  induction b using Lc with
  |nil=>exact absurd ((h x).1 qw) (by simp)
  |cons y t=>
   have ha':=jJ.1 ha;have hb':=jJ.1 hb
   have EU:x=y:=by
    rcases cL.1 ((h x).1 qw)with e|e
    ·exact e
    ·rcases cL.1 ((h y).2 qw)with e2|e2
     ·exact e2.symm
     ·have:=hb'.1 x e;have:=ha'.1 y e2;lia
   clear ha hb;subst EU
   congr 1
   refine ih t ha'.2 hb'.2 (fun z=>⟨fun hz=>?_,fun hz=>?_⟩)
   ·rcases cL.1 ((h z).1 (zM _ hz))with e|e
    ·obtain rfl:=e;have:=ha'.1 z hz;lia
    ·exact e
   ·rcases cL.1 ((h z).2 (zM _ hz))with e|e
    ·obtain rfl:=e;have:=hb'.1 z hz;lia
    ·exact e
theorem y7(k v)(l):∀out,dM k v l out true=(out++l.filter (fun p=>p.1≠k),true):=by
 induction l with
 |nil=>intro out;simp[kZ,la]
 |cons p r ih=>
  intro out;simp only[kZ,la];rcases iy (p.1=k)with h|h
  ·simp[h,ih]
  ·simp[h,ih]
noncomputable def A4(k v:Int)(l:KV):KV:=l.filter (fun p=>p.1<k)++(k,v)::l.filter (fun p=>k<p.1)
theorem y8(k v)(l)(hs:SK l):lh l k v=A4 k v l:=by
 haveI key:∀(l:KV),SK l->∀out,(match dM k v l out false with|(o,true)=>o|(o,false)=>o++ [(k,v)])=out++A4 k v l:=by
  intro l
  induction l with
  |nil=>intro _ out;exact t6 _
  |cons p r ih=>
   intro hs out;have hs':=jJ.1 hs;dsimp only[kZ,la];rcases iy (p.1=k)with h|h
   ·refine Rw (if_pos h) (Rw (ih hs'.2 out) ?_);simp[A4,h]
   ·by_cases h2:k<p.1
    ·simp only[h,h2,eH,and_self,dZ,y7]
     haveI h3:¬p.1<k:=by lia
     haveI e1:r.filter (fun p=>decide (p.1<k))= []:=by
      rw[Nl];intro q hq;have:=hs'.1 q hq;simp;lia
     haveI e2:r.filter (fun p=>decide (p.1≠k))=r.filter (fun p=>decide (k<p.1)):=by
      apply List.filter_congr;intro q hq;have:=hs'.1 q hq;have a1:q.1≠k:=by lia
      haveI a2:k<q.1:=pS h2 this
      simp[a1,a2]
     simp only[A4,FH,h3,h2,e1];simp only[e2];exact j9 ..
    ·haveI h3:p.1<k:=by lia
     simp only[h,h2,eH,and_false];rw[ih hs'.2 (out++ [p])];simp[A4,FH,h3,h2]
 haveI:=key l hs []
 exact this
theorem Mc(k v)(l)(hs:SK l):SK (lh l k v):=by
 rw[y8 k v l hs,A4,SK,Nt];refine⟨hs.filter _,?_,?_⟩
 ·rw[jJ];refine⟨fun q hq=>?_,hs.filter _⟩;simpa using (vj.1 hq).2
 ·intro a ha b hb;have X4:=by simpa using (vj.1 ha).2
  rcases cL.1 hb with e|e
  ·exact Rw e X4
  ·have:k<b.1:=by simpa using (vj.1 e).2
   exact pS X4 this
theorem I4(k v)(l)(hs:SK l)(x):x∈lh l k v↔x=(k,v)\/(x∈l/\x.1≠k):=by
 simp only[y8 k v l hs,A4];simp only[cG,cL,vj,iZ];constructor
 ·rintro (⟨h1,h2⟩|h|⟨h1,h2⟩)
  ·exact Or.inr ⟨h1,Int.ne_of_lt h2⟩
  ·exact Or.inl h
  ·exact Or.inr ⟨h1,FW h2⟩
 ·rintro (h|⟨h1,h2⟩)
  ·exact Or.inr (Or.inl h)
  ·rcases Int.lt_or_gt_of_ne h2 with h|h
   ·exact Or.inl ⟨h1,h⟩
   ·exact Or.inr (Or.inr ⟨h1,h⟩)
def jF(ps:KV):KV:=ps.foldl (fun o p=>lh o p.1 p.2) []
def dictOf(ps:KV):KV:=ps.foldl (fun o p=>fg p.1 p.2 o) []
def NK(l:KV):Prop:=(l.map (·.1)).Nodup
theorem pA(k v)(l)(hn:NK l)(x):x∈fg k v l↔x=(k,v)\/(x∈l/\x.1≠k):=by
 induction l with
 |nil=>simp[iU,iV]
 |cons p r ih=>
  have hn':p.1∉r.map (·.1)/\NK r:=nu.1 hn;simp only[iU,iV];by_cases h:p.1=k
  ·simp only[h,dZ,cL];constructor
   ·rintro (e|e)
    ·exact Or.inl e
    ·refine Or.inr ⟨Or.inr e,fun e2=>hn'.1 ?_⟩;exact Rw h (Rl e2 (tQ e))
   ·rintro (e|⟨e|e,e2⟩)
    ·exact Or.inl e
    ·subst e;exact absurd h e2
    ·exact Or.inr e
  ·simp only[h,eH,cL,ih hn'.2];constructor
   ·rintro (e|e|⟨e1,e2⟩)
    ·clear hn hn';exact Rw e (Or.inr ⟨Or.inl rfl,h⟩)
    ·exact Or.inl e
    ·exact Or.inr ⟨Or.inr e1,e2⟩
   ·rintro (e|⟨e|e,e2⟩)
    ·exact Or.inr (Or.inl e)
    ·exact Or.inl e
    ·exact Or.inr (Or.inr ⟨e,e2⟩)
theorem y9(k v)(l)(hn:NK l):NK (fg k v l):=by
 induction l with
 |nil=>simp[iU,iV,NK]
 |cons p r ih=>
  have hn':p.1∉r.map (·.1)/\NK r:=nu.1 hn;simp only[iU,iV];by_cases h:p.1=k
  ·simp only[h,dZ];exact nu.2 ⟨Rl h hn'.1,hn'.2⟩
  ·simp only[h,eH];refine nu.2 ⟨fun hm=>?_,ih hn'.2⟩;obtain⟨q,hq,e⟩:=bU.1 hm;rcases(pA k v r hn'.2 q).1 hq with e2|⟨e2,_⟩
   ·subst e2;exact h e.symm
   ·exact hn'.1 (by simp only at e;exact Rl e (tQ e2))
theorem I5(ps:KV):∀(m d:KV),SK m->NK d->(∀x,x∈m↔x∈d)->
  SK (ps.foldl (fun o p=>lh o p.1 p.2) m)/\NK (ps.foldl (fun o p=>fg p.1 p.2 o) d)/\(∀x,x∈ps.foldl (fun o p=>lh o p.1 p.2) m↔x∈ps.foldl (fun o p=>fg p.1 p.2 o) d):=by
 induction ps with
 |nil=>intro m d h1 h2 h3;exact⟨h1,h2,h3⟩
 |cons p r ih=>
  intro m d h1 h2 h3;exact ih _ _ (Mc _ _ _ h1) (y9 _ _ _ h2) (fun x=>by rw[I4 _ _ _ h1,pA _ _ _ h2,h3])
theorem sF(ps):SK (jF ps):=(I5 ps [] [] List.Pairwise.nil pN (fun ω=>ud)).1
theorem El(ps):NK (dictOf ps):=(I5 ps [] [] List.Pairwise.nil pN (fun ω=>ud)).2.1
theorem pB(ps)(x):x∈jF ps↔x∈dictOf ps:=(I5 ps [] [] List.Pairwise.nil pN (fun ω=>ud)).2.2 x
theorem lj(hs)(hn:NK hs):dictOf hs=hs:=by
 haveI key:∀(b a:KV),NK (a++b)->b.foldl (fun o p=>fg p.1 p.2 o) a=a++b:=by
  intro b
  induction b with
  |nil=>intro a _;simp
  |cons p r ih=>
   intro a h;simp only[BA]
   haveI h1:∀q∈a,q.1≠p.1:=by
    intro q hq e;simp only[NK,kb,c7]at h;have:=(NN.1 h).2.2 q.1 (tQ hq) p.1 qw;exact this e
   refine Rl (Ei p.1 p.2 a h1) (Rw (ih (a++ [(p.1,p.2)]) (by simpa using h)) ?_);simp
 simpa [dictOf] using key hs [] hn
noncomputable def WG(x y:Int×Int):Bool:=if x.1=y.1 then decide (x.2<y.2)else decide (x.1<y.1)
noncomputable def qJ(x:Int×Int):KV->KV
 | []=>[x]
 |y::ys=>if WG x y then x::y::ys else y::qJ x ys
theorem Sd{x:Int×Int}:qJ x []= [x]:=rfl
theorem A5{x y:Int×Int}{ys:KV}:qJ x (y::ys)=if WG x y then x::y::ys else y::qJ x ys:=rfl
def uU(ps:KV):KV:=ps.foldl (fun a x=>qJ x a) []
theorem Se(x)(l):xq (.tuple [.int x.1,.int x.2]) (bG l)=some (bG (qJ x l)):=by
 induction l with
 |nil=>rfl
 |cons y r ih=>
  simp only[bG,c7]at ih⊢
  haveI hl:UC (.tuple [.int x.1,.int x.2]) (.tuple [.int y.1,.int y.2])=some (WG x y):=rfl
  refine Rw (Gg hl) (Rw A5 ?_);generalize WG x y=zV;induction zV using Tc<;>simp[ih]
theorem Md(ps):∀acc:KV,ry (bG ps) (bG acc)=some (bG (ps.foldl (fun a x=>qJ x a) acc)):=by
 induction ps with
 |nil=>intro acc;rfl
 |cons x r ih=>
  intro acc
  haveI:=Se x acc
  exact(BY this).trans (ih _)
theorem CW(ps)(hl:ps.length<=5):gA (bG ps)=some (bG (uU ps)):=by
 have h1:(bG ps).all vm=true:=by
  rw[jL];intro x hx;obtain⟨p,_,e⟩:=bU.1 hx;exact Rl e rfl
 haveI h2:(bG ps).length<=5:=by simpa [bG] using hl
 simp only[gA,h1,h2,F9,Om,dZ];exact Md ps []
theorem Em(x)(l)(hs:SK l)(hx:∀y∈l,y.1≠x.1):SK (qJ x l)/\ ∀z,z∈qJ x l↔z=x\/z∈l:=by
 induction l with
 |nil=>exact⟨xa _ _,fun z=>by simp[Sd,A5]⟩
 |cons y r ih=>
  have hs':=jJ.1 hs;have hy:=hx y qw;obtain⟨k1,k2⟩:=ih hs'.2 (fun z hz=>hx z (zM _ hz));refine Rw A5 ?_;rw[WG];refine Rw (aw (fun e=>hy e.symm:¬x.1=y.1)) ?_;by_cases h:x.1<y.1
  ·simp only[h,F9,dZ];refine⟨jJ.2 ⟨fun z hz=>?_,hs⟩,fun z=>by simp⟩;rcases cL.1 hz with e|e
   ·exact Rw e h
   ·have:=hs'.1 z e;exact pS h this
  ·simp only[h,decide_false,iw,eH];refine⟨jJ.2 ⟨fun z hz=>?_,k1⟩,fun z=>?_⟩
   ·rcases(k2 z).1 hz with e|e
    ·cases(e);lia
    ·exact hs'.1 z e
   ·simp only[cL,k2];constructor
    ·rintro (e|e|e)
     ·exact Or.inr (Or.inl e)
     ·exact Or.inl e
     ·exact Or.inr (Or.inr e)
    ·rintro (e|e|e)
     ·exact Or.inr (Or.inl e)
     ·exact Or.inl e
     ·exact Or.inr (Or.inr e)
theorem A6(ps)(hn:NK ps):SK (uU ps)/\ ∀z,z∈uU ps↔z∈ps:=by
 haveI key:∀(b a:KV),SK a->NK b->(∀x∈a,∀y∈b,x.1≠y.1)->SK (b.foldl (fun a x=>qJ x a) a)/\ ∀z,z∈b.foldl (fun a x=>qJ x a) a↔z∈a\/z∈b:=by
  intro b
  induction b with
  |nil=>intro a h _ _;exact⟨h,fun z=>by simp⟩
  |cons p r ih=>
   intro a h1 h2 h3;have h2':p.1∉r.map (·.1)/\NK r:=nu.1 h2;obtain⟨k1,k2⟩:=Em p a h1 (fun y hy=>h3 y hy p qw)
   obtain⟨q1,q2⟩:=ih (qJ p a) k1 h2'.2 (fun x hx y hy=>by
    rcases(k2 x).1 hx with e|e
    ·obtain rfl:=e.symm;intro e2;exact h2'.1 (Rw e2 (tQ hy))
    ·exact h3 x e y (zM _ hy))
   refine⟨q1,fun z=>?_⟩;simp only[BA,q2,k2,cL];constructor
   ·rintro ((e|e)|e)
    ·exact Or.inr (Or.inl e)
    ·exact Or.inl e
    ·exact Or.inr (Or.inr e)
   ·rintro (e|e|e)
    ·exact Or.inl (Or.inr e)
    ·exact Or.inl (Or.inl e)
    ·exact Or.inr e
 exact⟨(key ps [] List.Pairwise.nil hn (fun x hx=>nomatch hx)).1,fun z=>by simp[uU,(key ps [] List.Pairwise.nil hn (fun x hx=>nomatch hx)).2]⟩
theorem uV(ps):uU (dictOf ps)=jF ps:=by
 obtain⟨k1,k2⟩:=A6 (dictOf ps) (El ps);exact I3 _ _ k1 (sF ps) (fun x=>by rw[k2,pB])
noncomputable def dc(hs:KV):List (D×D):=hs.map fun p=>(.int p.1,.int p.2)
theorem Sf(k v)(l):dput (.int k) (.int v) (dc l)=some (dc (fg k v l)):=by
 induction l with
 |nil=>rfl
 |cons p r ih=>
  simp only[dc,c7]at ih⊢;simp only[Gf,iU,iV];rcases iy (p.1=k)with h|h
  ·simp[h]
  ·haveI:(p.1==k)=false:=by simp[h]
   simp[this,h,ih]
theorem A7(ps):∀acc:KV,dictFrom (bG ps) (dc acc)=some (dc (ps.foldl (fun o p=>fg p.1 p.2 o) acc)):=by
 induction ps with
 |nil=>intro acc;rfl
 |cons p r ih=>
  intro acc;exact(bz (fun z=>match z with|some a=>dictFrom (bG r) a|none=>none) (Sf p.1 p.2 acc)).trans (ih _)
theorem ow(ps):dictFrom (bG ps) []=some (dc (dictOf ps)):=A7 ps []
theorem Me(hs):(dc hs).map (fun p=>PyData.tuple [p.1,p.2])=bG hs:=by simp[dc,bG]
theorem ox(x)(hx:0<=x):Builtin.bitAnd x 255=Int.fmod x 256:=by
 haveI h:((255:Int)).toNat=2^8-1:=rfl
 simp only[Builtin.bitAnd,hx,F9,show decide ((0:Int)<=255)=true from rfl];refine Rw h (Rw (Nat.and_two_pow_sub_one_eq_mod ..) ?_);refine Rw (zF _ (by decide)) ?_;obtain⟨n,rfl⟩:=xb hx;rfl
structure HOk(s l:Nat)(hs:KV):Prop where
 nk:NK hs
 rg:∀p∈hs,inR p.1/\inR p.2
 len:hs.length<=min s l
theorem Eo(k v)(l):(fg k v l).length<=l.length+1/\((∃p∈l,p.1=k)->(fg k v l).length=l.length):=by
 induction l with
 |nil=>exact bR rfl
 |cons p r ih=>
  dsimp only[iU,iV];rcases iy (p.1=k)with h|h
  ·simp[h]
  ·simp only[h,eH,List.length_cons];refine⟨by exact vg ih.1,fun⟨q,hq,e⟩=>?_⟩;rcases cL.1 hq with e2|e2
   ·subst e2;exact absurd e h
   ·have:=ih.2 ⟨q,e2,e⟩;exact bz (· +1) this
theorem HOk.put(h:HOk s l hs)(k v)(hk:inR k)(hv:inR v)(hc:(∃p∈hs,p.1=k)\/hs.length<min s l):HOk s l (fg k v hs):=by
 refine⟨y9 k v hs h.nk,fun p hp=>?_,?_⟩
 ·rcases(pA k v hs h.nk p).1 hp with e|e
  ·exact Rw e ⟨hk,hv⟩
  ·exact h.rg p e.1
 ·haveI:=Eo k v hs
  rcases hc with hc|hc
  ·exact Rw (this.2 hc) h.len
  ·exact aI this.1 hc
theorem Mf(hs)(hn:NK hs):uU hs=jF hs:=by
 haveI:=uV hs
 rwa [lj hs hn]at this
abbrev En:=Option (Int×Int)
def eb:En->List Int
 |none=>zs 16
 |some p=>cS p.1 p.2
noncomputable def w3:En->W3
 |none=>(false,0,0)
 |some p=>(true,p.1,p.2)
def mA(e:En):Prop:=∀p,e=some p->inR p.1/\inR p.2
abbrev Qu:=List (Nat×En)
def qb(Q:Qu):List (Nat×List Int):=Q.map fun p=>(p.1,eb p.2)
noncomputable def vw(tab:List En)(Q:Qu)(i:Nat):En:=match Q.find? (fun p=>p.1==i)with
 |some p=>p.2
 |none=>tab.getD i none
def aJ(log:List (List Int))(tab:List En)(cT wr:Int):iC:=⟨zs 16::(log++tab.map eb),cT,wr⟩
theorem cJ(e):(eb e).length=16:=by induction e<;>rfl
theorem pD(n)(e)(h:mA e):ae v8 (n+2) 24 [.dat (dl (eb e))] []=yY (some (w3 e)):=by
 induction e with
 |none=>exact LZ n []
 |some p=>exact R3 n p.1 p.2 (h p rfl).1 (h p rfl).2 []
structure l9(l:Nat)(log:List (List Int))(tab:List En)(Q:Qu):Prop where
 l2:l<=2
 ll:log.length=l
 lb:∀b∈log,b.length<=100
 lt:tab.length=3
 te:∀e∈tab,mA e
 qe:∀p∈Q,mA p.2/\p.1<3
 pw:Q.Pairwise fun a b=>a.1≠b.1
 ql:Q.length<=l
theorem I6{α:Type}:∀{Q:List (Nat×α)},(Q.Pairwise fun a b=>a.1≠b.1)->∀p∈Q,∀p'∈Q,p.1=p'.1->p=p':=by
 intro zV
 induction zV with
 |nil=>
  exact @fun ω ω h ω ω ω=>nomatch h
 |cons a Q zI=>
  exact @fun hp p h p' h' e=>by
   obtain⟨h1,h2⟩:=jJ.mp hp;rcases cL.mp h with q|q
   ·rcases cL.mp h' with q'|q'
    ·exact Rw q (Rw q' rfl)
    ·exact((h1 _ q') (q▸e)).elim
   ·rcases cL.mp h' with q'|q'
    ·exact((h1 _ q) (q'▸e.symm)).elim
    ·exact zI h2 p q p' q' e
theorem l9.qu(h:l9 l log tab Q):∀p∈Q,∀p'∈Q,p.1=p'.1->p=p':=I6 h.pw
theorem l9.dn(h:l9 l log tab Q)(cT wr):bW (aJ log tab cT wr):=by
 refine⟨?_,fun b hb=>?_⟩
 ·haveI h1:=h.ll;have h2:=h.lt;have h3:=h.l2
  simp only[aJ,List.length_cons,cZ,cn];exact Rw (La h1 h2) (aI (iY h3 4) (Dn rfl))
 ·rw[aJ,cL,cG,bU]at hb;rcases hb with rfl|hb|⟨e,_,rfl⟩
  ·decide
  ·exact h.lb b hb
  ·rw[cJ];decide
theorem CX(h:l9 l log tab Q)(cT wr)(hi:i<3):(aJ log tab cT wr).bl.getD (1+l+i) []=eb (tab.getD i none)/\1+l+i<(aJ log tab cT wr).bl.length:=by
 haveI h1:=h.ll;have h2:=h.lt
 refine⟨?_,?_⟩
 ·show(zs 16::(log++tab.map eb)).getD (1+l+i) []=_;rw[show 1+l+i=(l+i)+1 by lia,Fm];refine Rl h1 ?_;rw[fi,Bm (fy _ _),E9,jK,fi];exact Rw (nq (h2▸hi)) rfl
 ·simp only[aJ,List.length_cons,cZ,cn];lia
theorem A8{tab:List En}(h:∀e∈tab,mA e)(i):mA (tab.getD i none):=by
 refine Rw (fi) ?_;generalize e:tab[i]?=zV
 induction zV using Oc with
 |none=>exact fun ω z=>(nomatch z)
 |some x=>exact h x (zK e)
theorem lP(h:l9 l log tab Q)(n)(cT wr)(sg)(dead)(hsg:yX sg (gC (qb Q))):Reads (n+3) 3 l (cI (aJ log tab cT wr)) sg dead (fun i=>some (w3 (vw tab Q i))):=by
 intro i hi;generalize e:Q.find? (fun p=>p.1==i)=zV
 induction zV using Oc with
 |some p=>
  have hm:=Dh e;have hp:=fY.mp (BB (p:=fun(p:Nat×En)=>p.1==i) e);have hv:vw tab Q i=p.2:=by unfold vw;rw[e]
  show _=om (some (w3 (vw tab Q i))) _;refine Rw hv ?_;refine R4 n i (w3 p.2) (qb Q) (fun q hq z=>?_) ?_ _ 3 l sg dead hsg
  ·obtain⟨q',hq',rfl⟩:=bU.mp hq;have:=h.qu q' hq' p hm (z.trans hp.symm);exact Rl this (pD n _ (h.qe _ hq').1)
  ·exact tX.mpr ⟨(p.1,eb p.2),bU.mpr ⟨p,hm,rfl⟩,fY.mpr hp⟩
 |none=>
  have hv:vw tab Q i=tab.getD i none:=by unfold vw;rw[e]
  show _=om (some (w3 (vw tab Q i))) _;refine Rw hv ?_;refine IT n i (some (w3 (tab.getD i none))) (qb Q) (fun q hq z=>?_) _ (h.dn cT wr) 3 l sg dead hsg (CX h cT wr hi).2 ?_
  ·obtain⟨q',hq',rfl⟩:=bU.mp hq;exact absurd (fY.mpr z) (by simpa using tR.mp e q' hq')
  ·exact Rw ((CX h cT wr hi).1) (pD n _ (A8 h.te i))
noncomputable def sG{α:Type}(i:Nat)(b:α):List (Nat×α)->Option (List (Nat×α))
 | []=>none
 |p::r=>if p.1=i then some ((i,b)::r)else(sG i b r).map (p:: ·)
theorem sH{α:Type}{i:Nat}{b:α}{p:Nat×α}{r:List (Nat×α)}:sG i b (p::r)=if p.1=i then some ((i,b)::r)else(sG i b r).map (p:: ·):=rfl
def gD{α:Type}(l:Nat)(xs:List (Nat×α))(i:Nat)(b:α):Option (List (Nat×α)):=match sG i b xs with
 |some ys=>some ys
 |none=>if l<=xs.length then none else some (xs++ [(i,b)])
def stR(o:bt)(s l:Nat)(dead:Bool)(xs:List (Nat×List Int))(r:Option (List (Nat×List Int))):gu:=match r with
 |none=>.exc 14 [o,aZ s l (.own (gC xs)) dead]
 |some ys=>.ok (.dat .none) [o,aZ s l (.own (gC ys)) dead]
theorem rj{a:Nat}(h:decide (a=i)=c):bp .Eq (.int (a:Int)) (.int (i:Int))=some c:=ji (Rl h (decide_eq_decide.mpr FL))
theorem rg{a:Nat}(h:decide (i<=a)=c):bp .GtE (.int (a:Int)) (.int (i:Int))=some c:=tM (Rl h (decide_eq_decide.mpr kn))
theorem za(n i:Nat)(b)(hb:b.length<=100)(o)(s l)(dead):∀(xs:List (Nat×List Int)),xs.length<=2->
  ae v8 (n+1) 1012 [.ref 1,.dat (.int (i:Int)),.dat (dl b)] [o,aZ s l (.own (gC xs)) dead]=stR o s l dead xs (gD l xs i b):=by
 have hL:=sz b hb;intro xs hx;rcases xs with _|⟨p,_|⟨q,_|⟨_,_⟩⟩⟩
 ·rcases iy (l<=0)with c|c
  ·exact Rw (show gD l [] i b=none from if_pos c) (bI [156] [] [] (aR (rg (a:=0) (bP c)) aN) (by kernel_rfl))
  ·exact Rw (show gD l [] i b=some [(i,b)]from aw c) (bI [156] [158031042] [] (aR (rg (a:=0) (dx c)) (aV hL aN)) (by kernel_rfl))
 ·rcases iy (p.1=i)with e|e
  ·exact Rw (show gD l [p] i b=some [(i,b)]by delta gD;rw[sH,if_pos e]) (bI [153] [154037048] [] (aR (rj (bP e)) (aV hL aN)) (by kernel_rfl))
  ·haveI q:gD l [p] i b=if l<=1 then none else some [p,(i,b)]:=by delta gD;rw[sH,aw e];rfl
   refine Rw q ?_;by_cases c:l<=1
   ·exact Rw (if_pos c) (bI [153,156] [] [] (aR (rj (dx e)) (aR (rg (a:=1) (bP c)) aN)) (by kernel_rfl))
   ·exact Rw (aw c) (bI [153,156] [158031042] [] (aR (rj (dx e)) (aR (rg (a:=1) (dx c)) (aV hL aN))) (by kernel_rfl))
 ·by_cases e:p.1=i
  ·exact Rw (show gD l [p,q] i b=some [(i,b),q]by delta gD;rw[sH,if_pos e]) (bI [153] [154037048] [] (aR (rj (bP e)) (aV hL aN)) (by kernel_rfl))
  ·by_cases e2:q.1=i
   ·exact Rw (show gD l [p,q] i b=some [p,(i,b)]by delta gD;rw[sH,aw e,sH,if_pos e2];rfl) (bI [153] [154037048] [] (aR (rj (dx e)) (aR (rj (bP e2)) (aV hL aN))) (by kernel_rfl))
   ·haveI z:gD l [p,q] i b=if l<=2 then none else some [p,q,(i,b)]:=by delta gD;rw[sH,aw e,sH,aw e2];rfl
    refine Rw z ?_;by_cases c:l<=2
    ·exact Rw (if_pos c) (bI [153,156] [] [] (aR (rj (dx e)) (aR (rj (dx e2)) (aR (rg (a:=2) (bP c)) aN))) (by kernel_rfl))
    ·exact Rw (aw c) (bI [153,156] [158031042] [] (aR (rj (dx e)) (aR (rj (dx e2)) (aR (rg (a:=2) (dx c)) (aV hL aN)))) (by kernel_rfl))
 ·simp at hx
def lQ(d:iC)(l:Nat)(Q:Qu)(dead:Bool):List bt:=[cI d,aZ 3 l (.own (gC (qb Q))) dead]
theorem CY(i)(e):∀Q:Qu,sG i (eb e) (qb Q)=(sG i e Q).map qb
 | []=>rfl
 |p::r=>by
  show(if p.1=i then _ else _)=Option.map qb (if p.1=i then _ else _);rcases iy (p.1=i)with h|h
  ·rw[if_pos h,if_pos h];rfl
  ·rw[aw h,aw h];show(sG i (eb e) (qb r)).map _=_;simp only[CY i e r,NY,NY];rfl
theorem qX(l i)(e)(Q):gD l (qb Q) i (eb e)=(gD l Q i e).map qb:=by
 unfold gD;rw[CY];generalize sG i e Q=zV
 induction zV using Oc with
 |some ys=>rfl
 |none=>
  rw[show(qb Q).length=Q.length from cn _];by_cases h:l<=Q.length
  ·exact Rw (if_pos h) (Rw (if_pos h) rfl)
  ·refine Rw (aw h) (Rw (aw h) ?_);show _=some (qb (Q++_));unfold qb;refine Rw kb ?_;rfl
def bg(V:Nat->En)(k:Int):Option Nat:=(List.range 3).find? fun i=>(w3 (V i)).1&&decide ((w3 (V i)).2.1=k)
def dQ(V:Nat->En):Option Nat:=(List.range 3).find? fun i=>!(w3 (V i)).1
def iE(l:Nat)(V:Nat->En)(Q:Qu)(k v:Int):Option Qu:=((bg V k).or (dQ V)).bind fun i=>gD l Q i (some (k,v))
def I7(d:iC)(l:Nat)(Q:Qu)(dead:Bool)(a:D)(r:Option Qu):gu:=match r with
 |none=>.exc 14 (lQ d l Q dead)
 |some Q'=>.ok (.dat a) (lQ d l Q' dead)
section
variable{l:Nat}{log:List (List Int)}{tab:List En}{Q:Qu}(h:l9 l log tab Q)(n:Nat)(cT wr:Int)(dead:Bool)
include h
theorem CZ(i:Nat)(e):ae v8 (n+1) 1012 [.ref 1,.dat (.int (i:Int)),.dat (dl (eb e))] (lQ (aJ log tab cT wr) l Q dead)=I7 (aJ log tab cT wr) l Q dead .none (gD l Q i e):=by
 refine(za n i (eb e) (by rw[cJ];decide) _ 3 l dead (qb Q) (by have:=h.ql;have:=h.l2;refine Rw (show(qb Q).length=Q.length from cn _) ?_;lia)).trans ?_;rw[qX];generalize gD l Q i e=zV;induction zV using Oc<;>rfl
theorem A9(k):ae v8 (n+4) 1010 [.ref 1,.dat (.int k)] (lQ (aJ log tab cT wr) l Q dead)= .ok (.dat (yZ (bg (vw tab Q) k))) (lQ (aJ log tab cT wr) l Q dead):=
 AZ (n+2) 3 l _ _ dead (fun i=>w3 (vw tab Q i)) (lP h n cT wr _ dead (.inl rfl)) (Dn rfl) k
theorem Sg:ae v8 (n+4) 1011 [.ref 1] (lQ (aJ log tab cT wr) l Q dead)= .ok (.dat (yZ (dQ (vw tab Q)))) (lQ (aJ log tab cT wr) l Q dead):=
 wg (n+2) 3 l _ _ dead (fun i=>w3 (vw tab Q i)) (lP h n cT wr _ dead (.inl rfl)) (Dn rfl)
theorem I8(k v)(hk:inR k)(hv:inR v):ae v8 (n+5) 1014 [.ref 1,.dat (.int k),.dat (.int v)] (lQ (aJ log tab cT wr) l Q dead)=I7 (aJ log tab cT wr) l Q dead .none (iE l (vw tab Q) Q k v):=by
 haveI q:=fun R hR e3=>WE (n+2) 3 l (.own (gC (qb Q))) (cI (aJ log tab cT wr)) dead k v hk hv (bg (vw tab Q) k) (dQ (vw tab Q)) R hR (A9 h n cT wr dead k) (Sg h n cT wr dead) e3
 delta iE
 generalize e:(bg (vw tab Q) k).or (dQ (vw tab Q))=zV
 induction zV using Oc with
 |none=>replace q:=e▸q;exact q (.exc 0 []) nofun (fun i z=>nomatch z)
 |some i=>
  rw[e]at q;refine(q (I7 (aJ log tab cT wr) l Q dead .none (gD l Q i (some (k,v)))) (by cases gD l Q i (some (k,v))<;>exact nofun) (fun j z=>?_)).trans ?_
  ·cases z;exact CZ h (n+3) cT wr dead i (some (k,v))
  ·show IW _=I7 _ _ _ _ _ (gD l Q i (some (k,v)));generalize gD l Q i (some (k,v))=zV;induction zV using Oc<;>rfl
end
abbrev Bl:=List (Nat×List Int)
noncomputable def tj(xs:Bl)(j:Nat):Nat:=(xs.getD j (0,[])).1
noncomputable def bj(xs:Bl)(j:Nat):List Int:=(xs.getD j (0,[])).2
noncomputable def ti(ts:List Nat):List Int:=ts.map fun(i:Nat)=>(i:Int)
theorem PO(ts)(j:Nat)(h:j<ts.length)(hm:ts.length<=100):bZ (dl (ti ts)) (.int (j:Int))=some (.int ((ts.getD j 0:Nat):Int)):=
 lM _ _ _ (by simp[ti,fi,h]) (by simp[ti];exact aI hm (Dn rfl))
theorem getD_mem{α:Type}{l:List α}{a:α}(h:j<l.length):l.getD j a∈l:=by
 exact Rw fi (Rw (nq h) (tW h))
theorem Ep(n s l)(ts)(sg)(dead)(Bs:Nat->List Int)(hB:∀j,(Bs j).length<=100)(hm:ts.length<=l)(uv:ts.length<=100):∀(js:List Nat) (hj:∀j∈js,j<ts.length) (d:iC) (tl:List (Nat×LV)),bW d->(1+l<=d.bl.length/\ ∀t∈ts,1+l+t<d.bl.length)->(∀j,j<ts.length->d.bl.getD (1+j) []=Bs j)->T1 94 tl->
  ∃gj,aO (fv (cE dB.body 0)) (execs v8 (ae v8 (n+2)) (gz (cE dB.body 0))) (lN js) (Uj (dl (ti ts)) [cI d,aZ s l sg dead] tl)=X0 (cX (js.map fun j=>(1+l+ts.getD j 0,Bs j)) d) fun o=>Uj (dl (ti ts)) [o,aZ s l sg dead] gj:=by
 intro js
 induction js with
 |nil=>exact fun ω d tl ω ω ω ω=>⟨tl,rfl⟩
 |cons j js ih=>
  intro hj d tl hd hN WH ht;have PQ:=hj j (.head _);have hs:fu (fv (cE dB.body 0)) (.int (j:Int)) (Uj (dl (ti ts)) [cI d,aZ s l sg dead] tl)=some (Uj (dl (ti ts)) [cI d,aZ s l sg dead] [(94,.dat (.int (j:Int)))]):=by induction ht<;>rfl
  haveI hw:=jD (n+1) d (1+l+ts.getD j 0) (Bs j) (hN.2 _ (getD_mem PQ)) (hB j) hd.1 [aZ s l sg dead]
  haveI hr:=cW (n+1) d (1+j) (by have:=hN.1;exact ve (zO (ve PQ hm) 1) hN.1) hd [aZ s l sg dead]
  rw[WH j PQ,<-R8]at hr;simp only[c7,fM];unfold PM at hw;by_cases h0:d.cT=0
  ·rw[if_pos h0]at hw⊢;exact⟨_,we (st2:=Uj (dl (ti ts)) [cI d,aZ s l sg dead] [(94,.dat (.int (j:Int)))]) hs (d7 [] [105038048] [1002,1001] (aV (PO ts j PQ uv) (aC hr (aC hw aN))) (by kernel_rfl))⟩
  ·rw[aw h0]at hw⊢
   obtain⟨gj,h⟩:=ih (fun k hk=>hj k (.tail _ hk)) (d.put (1+l+ts.getD j 0) (Bs j)) [(94,.dat (.int (j:Int)))] (hd.put _ _ (hB j)) (by rw[fU];exact hN) (fun k hk=>by
    refine Rl (WH k hk) ?_;simp only[iC.put,fi,xg];rw[aw (fun e=>absurd (ve hk hm) (mh.mpr (Nat.le_of_add_le_add_left (aI (fy ..) (dN e)))))]) (.one _)
   exact⟨gj,bQ (st2:=Uj (dl (ti ts)) [cI (d.put (1+l+ts.getD j 0) (Bs j)),aZ s l sg dead] [(94,.dat (.int (j:Int)))]) hs (d7 [] [105038048] [1002,1001] (aV (PO ts j PQ uv) (aC hr (aC hw aN))) (by kernel_rfl)) h⟩
def lp(l:Nat)(ts:List Nat)(Bs:Nat->List Int):Bl:=(List.range ts.length).map (fun j=>(1+l+ts.getD j 0,Bs j))++ [(0,zs 16)]
theorem Mg(ts)(hm:ts.length<=100):wd (dl (ti ts))=some (.int (ts.length:Int)):=by
 refine Rw (lO _ (by simp only[cn,ti,lim];exact aI hm (Dn rfl))) ?_;simp only[cn,ti]
theorem sI(n s l)(ts)(sg)(dead)(Bs:Nat->List Int)(hB:∀j,(Bs j).length<=100)(hm:ts.length<=l)(uv:ts.length<=100)(d)(hd:bW d)(hN:1+l<=d.bl.length/\ ∀t∈ts,1+l+t<d.bl.length)(WH:∀j,j<ts.length->d.bl.getD (1+j) []=Bs j):
  ae v8 (n+3) 1007 [.ref 1,.dat (dl (ti ts))] [cI d,aZ s l sg dead]=wkC (cX (lp l ts Bs) d) (fun o=>[o,aZ s l sg dead]) (fun o=>[o,aZ s l sg dead]):=by
 obtain⟨tl,h⟩:=Ep n s l ts sg dead Bs hB hm uv (List.range ts.length) (fun j hj=>jn.1 hj) d [] hd hN WH .no
 haveI hq:=y4 ((List.range ts.length).map fun j=>(1+l+ts.getD j 0,Bs j)) d
 delta lp
 rw[qq];generalize cX ((List.range ts.length).map fun j=>(1+l+ts.getD j 0,Bs j)) d=r at h hq⊢;obtain⟨d2,q⟩:=r
 haveI hf {l:List Cl} (t:All v8 l):=aV (Mg ts uv) (aG (d9 ts.length (aI uv (Dn rfl))) (aL h t))
 clear WH hB hm uv h
 induction q with
 |false=>exact bI [104] [104023035,104017036] [1002] (hf aN) (by kernel_rfl)
 |true=>
  haveI hw:=jD (n+1) d2 0 (zs 16) (by refine Rw hq ?_;have:=hN.1;exact aI (fy ..) this) (Dn rfl) (Rw hq hd.1) [aZ s l sg dead]
  refine Rw (if_pos rfl ..) (Rw (fM ..) ?_);unfold PM at hw;by_cases h0:d2.cT=0
  ·rw[if_pos h0]at hw⊢;exact bI [104] [104023035,104017036] [1002] (hf (aC hw aN)) (by kernel_rfl)
  ·rw[aw h0]at hw⊢;exact bI [104] [104023035,104017036] [1002] (hf (aC hw aN)) (by kernel_rfl)
theorem Mh(xs:Bl)(j)(h:j<xs.length)(hl:xs.length<=100):bZ (.list (gC xs)) (.int (j:Int))=some (.tuple [.int ((tj xs j:Nat):Int),dl (bj xs j)]):=by
 refine lM _ _ _ ?_ (by simp[gC];exact aI hl (Dn rfl))
 delta gC tj bj
 refine Rw (jK) ?_;refine Rw (fi) ?_;refine Rw (nq h) ?_;rfl
theorem Er(n s l)(hs)(hl:hs.length<=100)(hB:∀j,(bj hs j).length<=100)(dead):∀(js:List Nat) (hj:∀j∈js,j<hs.length) (d:iC) (ts:List Int) (tl:List (Nat×LV)),ts.length+js.length<=1000->bW d->1+hs.length<=d.bl.length->T1 94 tl->
  ∃Pg gj,aO (fv (cE coB 1)) (execs v8 (ae v8 (n+1)) (gz (cE coB 1))) (lN js) (R9 ts [cI d,aZ s l (.own (gC hs)) dead] tl)=X0 (cX (js.map fun j=>(1+j,bj hs j)) d) (fun o=>R9 Pg [o,aZ s l (.own (gC hs)) dead] gj)/\((cX (js.map fun j=>(1+j,bj hs j)) d).2=true->Pg=ts++js.map fun(j:Nat)=>((tj hs j:Nat):Int)):=by
 intro js
 induction js with
 |nil=>exact fun ω d ts tl ω ω ω ω=>⟨ts,tl,rfl,fun ω=>(rm _).symm⟩
 |cons j js ih=>
  intro hj d ts tl hlen hd hN ht
  haveI PQ:=hj j (.head _)
  have hs':fu (fv (cE coB 1)) (.int (j:Int)) (R9 ts [cI d,aZ s l (.own (gC hs)) dead] tl)=some (R9 ts [cI d,aZ s l (.own (gC hs)) dead] [(94,.dat (.int (j:Int)))]):=by cases(ht)<;>rfl
  haveI hw:=jD n d (1+j) (bj hs j) (aI (iY PQ _) hN) (hB j) hd.1 [aZ s l (.own (gC hs)) dead]
  haveI hn:=Mh hs j PQ hl
  refine Rw c7 ?_;simp only[fM];unfold PM at hw;by_cases h0:d.cT=0
  ·rw[if_pos h0]at hw⊢;exact⟨ts,_,we (st2:=R9 ts [cI d,aZ s l (.own (gC hs)) dead] [(94,.dat (.int (j:Int)))]) hs' (d7 [] [190039053] [1002] (aV hn (aC hw aN)) (by kernel_rfl)),nofun⟩
  ·rw[aw h0]at hw⊢;obtain⟨Pg,gj,z18⟩:=ih (fun k hk=>hj k (.tail _ hk)) (d.put (1+j) (bj hs j)) (ts++ [((tj hs j:Nat):Int)]) [(94,.dat (.int (j:Int)))] (by simp at hlen⊢;exact aI (dN (nr ..)) hlen) (hd.put _ _ (hB j)) (Rw (fU ..) hN) (.one _);refine⟨Pg,gj,bQ (st2:=R9 (ts++ [((tj hs j:Nat):Int)]) [cI (d.put (1+j) (bj hs j)),aZ s l (.own (gC hs)) dead] [(94,.dat (.int (j:Int)))]) hs' ?_ z18.1,fun z=>by rw[z18.2 z];simp⟩;unfold R9;exact Rw kb (d7 [] [190039053,191031045,191016049] [1002] (aV hn (aC hw (aV hn (aM (xs:=ts.map .int) (by rw[cn];dsimp only[lim];simp at hlen;exact aI (fy ..) (aI hlen (Dn rfl))) aN)))) (by kernel_rfl))
def qr(hs:Bl):Bl:=(List.range hs.length).map fun j=>(1+j,bj hs j)
def du(ts:List Nat):List Int:=CO ((ts.length:Int)::ti ts)
def uW(hs:Bl)(l:Nat):Bl:=qr hs++ [(0,du (hs.map Prod.fst))]++lp l (hs.map Prod.fst) (bj hs)
theorem Sh(n)(ts)(hm:ts.length<=2)(os):ae v8 (n+2) 25 [.dat (dl (ti ts))] os= .ok (.dat (dl (du ts))) os:=by
 rcases ts with _|⟨a,_|⟨b,_|⟨c,ts⟩⟩⟩
 ·kernel_rfl
 ·kernel_rfl
 ·kernel_rfl
 ·simp at hm
theorem gk(ts)(hm:ts.length<=2):(du ts).length<=100:=by
 rcases ts with _|⟨a,_|⟨b,_|⟨c,ts⟩⟩⟩
 ·exact(by decide:16<=100)
 ·exact(by decide:16<=100)
 ·exact(by decide:16<=100)
 ·simp at hm
theorem Si(hs):((List.range hs.length).map fun(j:Nat)=>((tj hs j:Nat):Int))=ti (hs.map Prod.fst):=by
 delta ti tj
 apply NQ;intro i;simp only[jK,qy];by_cases h:i<hs.length
 ·refine Rw (Bo h) (Rw (nq h) ?_);simp[fi,nq h]
 ·exact Rw (wW (by simpa using h)) (Rw (wW (kl h)) rfl)
theorem I9(hs)(js:List Nat):∀(d:iC),(∀j∈js,1+j<d.bl.length)->(cX (js.map fun j=>(1+j,bj hs j)) d).2=true->
  (∀j∈js,(cX (js.map fun j=>(1+j,bj hs j)) d).1.bl.getD (1+j) []=bj hs j)/\(∀i,(d.bl.getD (1+i) []=bj hs i)->(cX (js.map fun j=>(1+j,bj hs j)) d).1.bl.getD (1+i) []=bj hs i):=by
 induction js with
 |nil=>intro d _ _;exact⟨fun ω h=>(nomatch h),fun i h=>h⟩
 |cons j r ih=>
  intro d hj hok;rw[c7,fM]at hok⊢;by_cases h0:d.cT=0
  ·rw[if_pos h0]at hok;injection hok
  ·rw[aw h0]at hok⊢;obtain⟨h1,h2⟩:=ih (d.put (1+j) (bj hs j)) (fun k hk=>Rw (fU ..) (hj k (.tail _ hk))) hok
   have WI:∀i,(i=j\/d.bl.getD (1+i) []=bj hs i)->(d.put (1+j) (bj hs j)).bl.getD (1+i) []=bj hs i:=by
    intro i hi;simp only[iC.put,fi,xg];by_cases e:j=i
    ·subst e;exact Rw (if_pos rfl) (Rw (if_pos (hj j (.head _))) rfl)
    ·refine Rw (aw (fun z=>e (NI z))) ?_;rcases hi with hi|hi
     ·exact absurd hi.symm e
     ·exact fi▸hi
   refine⟨fun k hk=>?_,fun i hi=>h2 i (WI i (.inr hi))⟩;rcases cL.1 hk with e|e
   ·subst e;exact h2 k (WI k (.inl rfl))
   ·exact h1 k e
theorem lS(n s l)(hs)(hl:hs.length<=l)(h3:hs.length<=2)(hB:∀j,(bj hs j).length<=100)(dead)(d)(hd:bW d)(hN:1+l<=d.bl.length/\ ∀t∈hs.map Prod.fst,1+l+t<d.bl.length):
  ae v8 (n+4) 1017 [.ref 1] [cI d,aZ s l (.own (gC hs)) dead]=wkC (cX (uW hs l) d) (fun o=>[o,aZ s l (.own []) dead]) (fun o=>[o,aZ s l (.own (gC hs)) true]):=by
 refine Bc fun au=>?_;obtain⟨ts,tl,h,ES⟩:=Er (n+2) s l hs (aI h3 (Dn rfl)) hB dead (List.range hs.length) (fun j hj=>jn.1 hj) d [] [] (by simp;exact aI h3 (Dn rfl)) hd (by have:=hN.1;exact aI (iY hl _) this) .no
 haveI hq:=y4 (qr hs) d
 have hok:bW (cX (qr hs) d).1:=CR _ (fun w hw=>by obtain⟨j,_,rfl⟩:=bU.1 hw;exact hB j) d hd;have Lo:(cX (qr hs) d).2=true->∀j∈List.range hs.length,(cX (qr hs) d).1.bl.getD (1+j) []=bj hs j:=fun z=>(I9 hs (List.range hs.length) d (fun j hj=>by have:=jn.1 hj;have:=hN.1;lia) z).1
 haveI T6:(gC hs).length=hs.length:=cn _
 have Sj:wd (.list (gC hs))=some (.int (hs.length:Int)):=Rw (lO _ (by rw[T6];delta lim;exact aI h3 (Dn rfl))) (Rw T6 rfl);refine au ?_
 delta uW
 rw[j9,qq];change aO _ _ _ _=X0 (cX (qr hs) d) _ at h;change (cX (qr hs) d).2=true->_ at ES;generalize cX (qr hs) d=r at h hq hok Lo ES⊢;obtain⟨d1,q⟩:=r;have hf {l:List Cl} (t:All v8 l):=aV Sj (aG (d9 hs.length (aI h3 (Dn rfl))) (aL h t))
 induction q with
 |false=>exact bI [189] [189027043,189021044] [] (hf aN) (by kernel_rfl)
 |true=>
  obtain rfl:=ES rfl;rw[t6,Si]at h;have hf {l:List Cl} (t:All v8 l):=aV Sj (aG (d9 hs.length (aI h3 (Dn rfl))) (aL h t))
  haveI R7:(hs.map Prod.fst).length=hs.length:=cn _
  haveI he:=Sh (n+1) (hs.map Prod.fst) (Rw R7 h3) []
  have hw:=jD (n+2) d1 0 (du (hs.map Prod.fst)) (by refine Rw hq ?_;have:=hN.1;exact aI (fy ..) this) (gk _ (Rw R7 h3)) hok.1 [aZ s l (.own (gC hs)) dead];dsimp only[if_pos rfl,List.singleton_append,fM];unfold PM at hw;by_cases h0:d1.cT=0
  ·rw[if_pos h0]at hw⊢;exact bI [189] [189027043,189021044] [25,1002] (hf (aC he (aC hw aN))) (by kernel_rfl)
  ·rw[aw h0]at hw⊢
   haveI hi:=sI n s l (hs.map Prod.fst) (.own (gC hs)) dead (bj hs) hB (Rw R7 hl) (Rw R7 (aI h3 (Dn rfl))) (d1.put 0 (du (hs.map Prod.fst))) (hok.put _ _ (gk _ (Rw R7 h3))) (by refine Rw (fU ..) ?_;exact Rw hq hN) (fun j hj=>by
    refine Rl (Lo rfl j (jn.2 (R7▸hj))) ?_;simp only[iC.put,fi,xg];rw[aw (by lia)])
   generalize cX (lp l (hs.map Prod.fst) (bj hs)) (d1.put 0 (du (hs.map Prod.fst)))=r at hi⊢;obtain⟨d2,q⟩:=r;cases(q)<;>exact bI [189] [189027043,189021044] [25,1002,1007] (hf (aC he (aC hw (aC hi aN)))) (by kernel_rfl)
theorem wt(n)(ts)(hm:ts.length<=2)(ht:∀t∈ts,t<3)(os):ae v8 (n+2) 117 [.dat (dl (du ts))] os= .ok (.dat (dl (ti ts))) os:=by
 rcases ts with _|⟨a,_|⟨b,_|⟨c,ts⟩⟩⟩
 ·kernel_rfl
 ·refine Ga (ht a (.head _)) ?_ ?_ ?_<;>kernel_rfl
 ·refine Ga (ht a (.head _)) ?_ ?_ ?_<;>refine Ga (ht b (.tail _ (.head _))) ?_ ?_ ?_<;>kernel_rfl
 ·simp at hm
def reR(l:Nat)(r:iC×Bool)(m:Nat)(sg:LV)(dead:Bool):gu:=if r.2 then .ok (.dat (.int (m:Int))) [cI r.1,aZ 3 l (.own []) dead]else .exc 11 [cI r.1,aZ 3 l sg dead]
section
variable(n l:Nat)(d:iC)(hd:bW d)(sg:LV)(dead:Bool)
include hd
theorem Uk{a:Nat}(h:a<3):bp .GtE (.int (a:Int)) (.int 3)=some false:=tM (dx (pT.mpr (kc.mpr h)))
theorem Ba(ts)(hm:ts.length<=l)(h2:ts.length<=2)(h3:∀t∈ts,t<3)(hN:4+l<=d.bl.length)(h0:d.bl.getD 0 []=du ts)(hw:∀j,j<ts.length->∃r,ae v8 (n+3) 24 [.dat (dl (d.bl.getD (1+j) []))] []=yY (some r)):
  ae v8 (n+4) 1008 [.ref 1] [cI d,aZ 3 l sg dead]=reR l (cX (lp l ts fun j=>d.bl.getD (1+j) []) d) ts.length sg dead:=by
 haveI e0:=cW (n+2) d 0 (Lx hN rfl) hd [aZ 3 l sg dead]
 rw[h0]at e0
 haveI e1:=wt (n+1) ts h2 h3 []
 haveI ei:=sI n 3 l ts sg dead (fun j=>d.bl.getD (1+j) []) (fun j=>IS _ hd.2 _) hm (aI h2 (Dn rfl)) d hd ⟨by exact aI (l4 (Dn rfl:1<=4) l) hN,fun t ht=>by have:=h3 t ht;exact Ld hN this⟩ (fun ω ω=>rfl)
 haveI rd (j:Nat) (h:1+j<d.bl.length):=cW (n+2) d (1+j) h hd [aZ 3 l sg dead]
 generalize cX (lp l ts fun j=>d.bl.getD (1+j) []) d=r at ei⊢;obtain⟨d2,q⟩:=r;rcases ts with _|⟨a,_|⟨b,_|⟨c,ts⟩⟩⟩
 ·haveI g:bp .Gt (.int (0:Nat)) (.int (l:Int))=some false:=og (dx (dX.mpr (zQ _)))
  induction q<;>exact bI [113] [] [1001,117,1007] (aC e0 (aC e1 (aR g (aC ei aN)))) (by kernel_rfl)
 ·haveI g:bp .Gt (.int (1:Nat)) (.int (l:Int))=some false:=og (dx (by have:1<=l:=hm;exact dX.mpr (kn.mpr this)))
  obtain⟨r0,w0⟩:=hw 0 (tY _)
  haveI q0:=rd 0 (Lx hN rfl)
  induction q<;>exact bI [113,116] [] [1001,117,24,1007] (aC e0 (aC e1 (aR g (aR (Uk d hd (h3 a (.head _))) (aC q0 (aC w0 (aC ei aN))))))) (by kernel_rfl)
 ·haveI g:bp .Gt (.int (2:Nat)) (.int (l:Int))=some false:=og (dx (by have:2<=l:=hm;exact dX.mpr (kn.mpr this)))
  haveI w0:=(Cs (hw 0 (tY _)))
  haveI w1:=(Cs (hw 1 (N3 (tY _))))
  induction q<;>exact bI [113,116] [] [1001,117,24,1007] (aC e0 (aC e1 (aR g (aR (Uk d hd (h3 a (.head _))) (aC (rd 0 (Lx hN rfl)) (aC w0 (aR (Uk d hd (h3 b (.tail _ (.head _)))) (aC (rd 1 (by have:2<=l:=hm;exact Lx hN rfl)) (aC w1 (aC ei aN)))))))))) (by kernel_rfl)
 ·simp at h2
end
noncomputable def jG(w:Int):Nat->Int
 |0=>w
 |m+1=>jG w m+1
theorem sJ(w)(m):jG w m=w+m:=by
 induction m with
 |zero=>exact(BQ w).symm
 |succ m ih=>show jG w m+1=_;rw[ih];exact FT ..
def cLog(log:List (List Int))(Q:Qu):List (List Int):=Q.map (fun p=>eb p.2)++log.drop Q.length
def fO(tab:List En)(Q:Qu):List En:=(List.range 3).map (vw tab Q)
theorem mZ{α:Type}{a:List α}(h:a.length=3):∃x y z,a= [x,y,z]:=by
 rcases a with _|⟨x,_|⟨y,_|⟨z,_|⟨_,_⟩⟩⟩⟩<;>first|exact⟨_,_,_,rfl⟩|(simp at h)
section
variable{l:Nat}{log:List (List Int)}{tab:List En}{Q:Qu}(h:l9 l log tab Q)
include h
theorem Mi(wr):cX (uW (qb Q) l) (aJ log tab (-1) wr)=(aJ (cLog log Q) (fO tab Q) (-1) (jG wr (2*Q.length+2)),true):=by
 obtain⟨t0,t1,t2,rfl⟩:=mZ h.lt;obtain rfl:=h.ll;have h2:=h.l2
 haveI hq:=h.ql
 haveI hi:=fun p hp=>(h.qe p hp).2
 haveI hu:=h.qu
 clear h;rcases Q with _|⟨⟨i,e⟩,_|⟨⟨j,f⟩,_|⟨_,_⟩⟩⟩
 ·rcases log with _|⟨g0,_|⟨g1,_|⟨_,_⟩⟩⟩
  ·kernel_rfl
  ·kernel_rfl
  ·kernel_rfl
  ·simp at h2
 ·haveI i3:=hi _ (.head _)
  rcases log with _|⟨g0,_|⟨g1,_|⟨_,_⟩⟩⟩
  ·simp at hq
  ·refine Ga (i:=i) i3 ?_ ?_ ?_<;>kernel_rfl
  ·refine Ga (i:=i) i3 ?_ ?_ ?_<;>kernel_rfl
  ·simp at h2
 ·haveI i3:=hi _ (.head _)
  haveI ij:=hu (i,e) (.head _) (j,f) (.tail _ (.head _))
  rcases log with _|⟨g0,_|⟨g1,_|⟨_,_⟩⟩⟩
  ·simp at hq
  ·simp at hq
  ·have j3:=hi _ (.tail _ (.head _));clear hi hu h2 hq;revert ij;refine Ga (i:=i) i3 ?_ ?_ ?_<;>refine Ga (i:=j) j3 ?_ ?_ ?_<;>intro ij<;>first|(cases ij rfl;kernel_rfl)|kernel_rfl
  ·simp at h2
 ·simp at hq;exact absurd (aI hq h2) (mi.mpr (jm 3 _))
theorem oy(n)(wr)(dead):ae v8 (n+4) 1017 [.ref 1] (lQ (aJ log tab (-1) wr) l Q dead)= .ok (.dat .none) (lQ (aJ (cLog log Q) (fO tab Q) (-1) (jG wr (2*Q.length+2))) l [] dead):=by
 have hN:(aJ log tab (-1) wr).bl.length=1+l+3:=by
  haveI h1:=h.ll;have h2:=h.lt
  simp only[aJ,List.length_cons,cZ,cn];exact Lb h1 h2
 haveI q:=lS n 3 l (qb Q) (Rw (cn _) h.ql) (Rw (cn _) (aI h.ql h.l2)) (fun j=>?_) dead (aJ log tab (-1) wr) (h.dn _ _) ⟨by exact aI (fy _ 3) (dN hN.symm),fun t ht=>?_⟩
 ·rw[Mi h]at q;exact q
 ·delta bj
  refine Rw (fi) ?_;generalize e:(qb Q)[j]?=zV
  induction zV using Oc with
  |none=>exact ft _
  |some p=>
   obtain⟨q,_,rfl⟩:=bU.mp (zK e);refine Rw (cJ ..) ?_;decide
 ·obtain⟨p,hp,rfl⟩:=bU.mp ht;obtain⟨q,hq,rfl⟩:=bU.mp hp;have:=(h.qe q hq).2;exact xf (zO this _) hN.symm
def cQ(l:Nat)(V:Nat->En)(Q:Qu)(k:Int):Bool×Option Qu:=match bg V k with
 |none=>(false,some Q)
 |some i=>(true,gD l Q i none)
theorem Ja(n)(cT wr)(dead)(k):ae v8 (n+5) 1015 [.ref 1,.dat (.int k)] (lQ (aJ log tab cT wr) l Q dead)=I7 (aJ log tab cT wr) l Q dead (.bool (cQ l (vw tab Q) Q k).1) (cQ l (vw tab Q) Q k).2:=by
 haveI e1:=A9 h n cT wr dead k
 haveI nn (i:Nat):bp .Lt (.int (i:Int)) (.int 0)=some false:=fL (dx (by lia))
 haveI m1:bp .Lt (.int (-1)) (.int 0)=some true:=rfl
 delta cQ
 generalize e:bg (vw tab Q) k=zV
 induction zV using Oc with
 |none=>rw[e]at e1;exact bI [178] [] [1010] (aC e1 (aR m1 aN)) (by kernel_rfl)
 |some i=>
  rw[e]at e1
  haveI e2:=CZ h (n+3) cT wr dead i none
  dsimp only;generalize z:gD l Q i none=zV
  induction zV using Oc with
  |none=>replace e2:=z▸e2;exact bI [178] [] [1010,23,1012] (aC e1 (aR (nn i) (aC (Wy (n+2) []) (aC e2 aN)))) (by kernel_rfl)
  |some Q'=>rw[z]at e2;exact bI [178] [] [1010,23,1012] (aC e1 (aR (nn i) (aC (Wy (n+2) []) (aC e2 aN)))) (by kernel_rfl)
def oz(V:Nat->En)(k:Int):D:=match bg V k with
 |none=>.none
 |some i=>.int (w3 (V i)).2.2
theorem WJ(n)(cT wr)(dead)(k):ae v8 (n+5) 1013 [.ref 1,.dat (.int k)] (lQ (aJ log tab cT wr) l Q dead)= .ok (.dat (oz (vw tab Q) k)) (lQ (aJ log tab cT wr) l Q dead):=by
 haveI e1:=A9 h n cT wr dead k
 haveI nn (i:Nat):bp .Lt (.int (i:Int)) (.int 0)=some false:=fL (dx (by lia))
 haveI m1:bp .Lt (.int (-1)) (.int 0)=some true:=rfl
 unfold oz;generalize e:bg (vw tab Q) k=zV
 induction zV using Oc with
 |none=>rw[e]at e1;exact bI [162] [] [1010] (aC e1 (aR m1 aN)) (by kernel_rfl)
 |some i=>
  exact bI [162] [] [1010,1009] (aC (e▸e1) (aR (nn i) (aC (lP h (n+1) cT wr (.own (gC (qb Q))) dead (.inl rfl) i (jn.mp (Dh e))) aN))) (by kernel_rfl)
def cK(V:Nat->En):KV:=[0,1,2].foldl (fun out i=>match V i with|none=>out|some p=>lh out p.1 p.2) []
theorem qY(n)(cT wr)(dead):ae v8 (n+4) 1018 [.ref 1] (lQ (aJ log tab cT wr) l Q dead)= .ok (.dat (.list (bG (cK (vw tab Q))))) (lQ (aJ log tab cT wr) l Q dead):=by
 refine(y3 (n+2) 3 l _ _ dead (fun i=>some (w3 (vw tab Q i))) (lP h n cT wr _ dead (.inl rfl)) (Dn rfl)).trans ?_
 haveI:fe (fun i=>some (w3 (vw tab Q i))) (List.range 3) []=some (cK (vw tab Q)):=by
  show fe _ [0,1,2] []=_;unfold cK;simp only[Eh,uS,List.foldl];generalize vw tab Q 0=zV;induction zV using Oc<;>cases vw tab Q 1<;>cases vw tab Q 2<;>rfl
 exact Rw this rfl
theorem Sk(n)(cT wr)(dead):ae v8 (n+1) 1016 [.ref 1] (lQ (aJ log tab cT wr) l Q dead)= .ok (.dat .none) (lQ (aJ log tab cT wr) l [] dead):=by kernel_rfl
theorem Sl(n)(wr)(dead):ae v8 (n+3) 1006 [.ref 1] (lQ (aJ log tab (-1) wr) l Q dead)= .ok (.dat .none) (lQ (aJ log [none,none,none] (-1) (jG wr 4)) l Q dead):=by
 have hN:(aJ log tab (-1) wr).bl.length=1+l+3:=by
  have h1:=h.ll;have h2:=h.lt;simp only[aJ,List.length_cons,cZ,cn];lia
 apply(CT n 3 l (.own (gC (qb Q))) dead (aJ log tab (-1) wr) (dN hN.symm) (h.dn _ _).1 (Dn rfl)).trans
 haveI:cX (CS 3 l) (aJ log tab (-1) wr)=(aJ log [none,none,none] (-1) (jG wr 4),true):=by
  obtain⟨t0,t1,t2,rfl⟩:=mZ h.lt
  haveI hl:=h.ll
  subst hl
  haveI h2:=h.l2
  rcases log with _|⟨g0,_|⟨g1,_|⟨_,_⟩⟩⟩
  ·kernel_rfl
  ·kernel_rfl
  ·kernel_rfl
  ·simp at h2
 exact Rw this rfl
theorem wu(n)(wr)(dead):ae v8 (n+4) 1008 [.ref 1] (lQ (aJ log tab (-1) wr) l Q dead)= .ok (.dat (.int 0)) (lQ (aJ log tab (-1) (jG wr 1)) l [] dead):=by
 haveI hN:(aJ log tab (-1) wr).bl.length=1+l+3:=by
  have h1:=h.ll;have h2:=h.lt;rw[aJ,List.length_cons,cZ,cn];exact Lb h1 h2
 exact(Ba n l (aJ log tab (-1) wr) (h.dn _ _) (.own (gC (qb Q))) dead [] (ft _) (ft _) (fun ω z=>nomatch z) (dN ((nr 1 3 l).trans hN.symm)) rfl (fun ω z=>nomatch z)).trans rfl
end
inductive s7 where
 |dat(d:D)
 |value
 |full
 |format
 |iW
 |power
noncomputable def s7.ctorIdx(x:s7):Nat:=s7.casesOn x (fun ω=>0) 1 2 3 4 5
noncomputable def s7.d:s7->D
 |.dat d=>d
 |.value=>.str "ValueError"
 |.full=>.str "FullError"
 |.format=>.str "FormatError"
 |.iW=>.str "CorruptError"
 |.power=>.str "PowerLoss"
noncomputable def s7.c(os:List bt):s7->gu
 |.dat d=>.ok (.dat d) os
 |.value=>.exc 15 os
 |.full=>.exc 14 os
 |.format=>.exc 12 os
 |.iW=>.exc 13 os
 |.power=>.exc 11 os
inductive Tr(n:Nat):List D->List bt->List D->List bt->Prop
 |nil(os:List bt):Tr n [] os [] os
 |cons{k:Str}{x y:D}{r:List D}{os os1 WK:List bt}{as:List D}(a:s7)(h:ae v8 (n+1) 125 [.ref 1,.dat (.str k),.dat x,.dat y] os=a.c os1)(t:Tr n r os1 as WK):Tr n (.tuple [.str k,x,y]::r) os (a.d::as) WK
def trB:MS:=cE rJ.body 1
noncomputable def X5(I S P R:D)(as:List D)(os:List bt)(tl:List (Nat×LV)):St:=⟨[(66,.dat I),(144,.dat S),(71,.dat P),(141,.dat R),(146,.ref 1),(139,.own as)]++tl,[],[],os⟩
inductive T4:List (Nat×LV)->Prop
 |no:T4 []
 |one(a b c e:LV):T4 [(136,a),(45,b),(145,c),(147,e)]
set_option tactic.hygienic true in
theorem Jb(n)(I S P R){os:List bt}(h:Tr n road os as QT):∀(acc:List D) (tl:List (Nat×LV)),T4 tl->acc.length+road.length<=100->
  ∃gj,aO (fv trB) (execs v8 (ae v8 (n+1)) (gz trB)) road (X5 I S P R acc os tl)= .ok .next (X5 I S P R (acc++as) QT gj):=by
 induction h with
 |nil os=>intro acc tl _ _;exact⟨tl,Rw (rm ..) rfl⟩
 |cons a e t ih=>
  rename_i k x y r os1 WK os3 as';intro acc tl ht hl;have nQ:acc.length<=lim:=by simp only[List.length_cons]at hl;dsimp only[lim];exact aI (fy ..) (aI hl (Dn rfl))
  obtain⟨gj,q⟩:=ih (acc++ [a.d]) [(136,.dat (.str k)),(45,.dat x),(145,.dat y),(147,.dat a.d)] (.one _ _ _ _) (by simp only[List.length_cons,cZ,List.length_nil]at hl⊢;exact aI (dN (nr ..)) hl);rw[j9]at q;refine⟨gj,?_⟩
  induction ht with
  |no=>
   refine bQ (st1:=X5 I S P R acc os1 [(136,.dat (.str k)),(45,.dat x),(145,.dat y)]) rfl ?_ q;induction a<;>exact d7 [] [321008027] [125] (aC e (aM nQ aN)) (by kernel_rfl)
  |one p1 p2 p3 p4=>
   refine bQ (st1:=X5 I S P R acc os1 [(136,.dat (.str k)),(45,.dat x),(145,.dat y),(147,p4)]) rfl ?_ q;induction a<;>exact d7 [] [321008027] [125] (aC e (aM nQ aN)) (by kernel_rfl)
def tryD(as:List D)(d:iC)(xs:List D)(dead:Bool):D:=.tuple [.list as,.list (d.bl.map dl),.int d.wr,.list xs,.bool dead]
theorem jj(n l)(bl)(yW:bW ⟨bl,0,0⟩)(cT)(hd:bW d)(hr:road.length<=100)(h:Tr (n+1) road [cI ⟨bl,cT,0⟩,aZ 3 l (.own []) false] as [cI d,aZ 3 l (.own xs) dead]):
  ae v8 (n+3) 126 [.dat (.list (bl.map dl)),.dat (.int (l:Int)),.dat (.int cT),.dat (.list road)] []= .ok (.dat (tryD as d xs dead)) [cI d,aZ 3 l (.dat (.list xs)) dead]:=by
 haveI q:=(Cs (Jb (n+1) (.list (bl.map dl)) (.int (l:Int)) (.int cT) (.list road) h [] [] .no (by simpa using hr)))
 haveI e3:=y6 (n+1) d hd [aZ 3 l (.own xs) dead]
 exact bI [308] [] [1000,1004,1003] (aC (sE (n+1) bl cT yW.2 yW.1 []) (aC (sC (n+1) 3 l (cI ⟨bl,cT,0⟩)) (aL q (aC e3 aN)))) (by kernel_rfl)
inductive Op where
 |put(k v:Int)
 |del(k:Int)
 |get(k:Int)
 |bB
 |wx
 |mB
 |sL
 |bG
noncomputable def Op.ctorIdx(x:Op):Nat:=Op.casesOn x (fun ω ω=>0) (fun ω=>1) (fun ω=>2) 3 4 5 6 7
noncomputable def bO:Op->D
 |.put k v=>.tuple [.str "put",.int k,.int v]
 |.del k=>.tuple [.str "del",.int k,.int 0]
 |.get k=>.tuple [.str "get",.int k,.int 0]
 |.bB=>.tuple [.str "commit",.none,.none]
 |.wx=>.tuple [.str "rollback",.none,.none]
 |.mB=>.tuple [.str "recover",.int 0,.int 0]
 |.sL=>.tuple [.str "wipe",.none,.none]
 |.bG=>.tuple [.str "pairs",.none,.none]
structure YS where
 log:List (List Int)
 tab:List En
 Q:Qu
 wr:Int
def YS.ob(l:Nat)(s:YS):List bt:=lQ (aJ s.log s.tab (-1) s.wr) l s.Q false
def YS.V(s:YS):Nat->En:=vw s.tab s.Q
noncomputable def pE(a:D)(s:YS):Option Qu->s7×YS
 |none=>(.full,s)
 |some Q=>(.dat a,{s with Q:=Q})
def ag(l:Nat):Op->YS->s7×YS
 |.put k v,s=>if inR k/\inR v then pE .none s (iE l s.V s.Q k v)else(.value,s)
 |.del k,s=>pE (.bool (cQ l s.V s.Q k).1) s (cQ l s.V s.Q k).2
 |.get k,s=>(.dat (oz s.V k),s)
 |.bB,s=>(.dat .none,⟨cLog s.log s.Q,fO s.tab s.Q,[],jG s.wr (2*s.Q.length+2)⟩)
 |.wx,s=>(.dat .none,{s with Q:=[]})
 |.mB,s=>(.dat (.int 0),{s with Q:=[],wr:=jG s.wr 1})
 |.sL,s=>(.dat .none,{s with tab:=[none,none,none],wr:=jG s.wr 4})
 |.bG,s=>(.dat (.list (bG (cK s.V))),s)
theorem WL(l)(a)(s)(r):I7 (aJ s.log s.tab (-1) s.wr) l s.Q false a r=(pE a s r).1.c ((pE a s r).2.ob l):=by induction r<;>rfl
theorem Sm(h:l9 l s.log s.tab s.Q)(n)(op):∃k x y,bO op= .tuple [.str k,x,y]/\ae v8 (n+6) 125 [.ref 1,.dat (.str k),.dat x,.dat y] (s.ob l)=(ag l op s).1.c ((ag l op s).2.ob l):=by
 induction op with
 |put k v=>
  refine⟨_,_,_,rfl,?_⟩;by_cases c:inR k/\inR v
  ·have e:=I8 h n (-1) s.wr false k v c.1 c.2;refine Rw (show ag l (.put k v) s=_ from if_pos c) (Rl (WL ..) ?_);show _=I7 _ _ _ _ _ (iE l (vw s.tab s.Q) s.Q k v);generalize z:iE l (vw s.tab s.Q) s.Q k v=zV
   induction zV using Oc with
   |none=>exact bI [] [] [1014] (aC (z▸e) aN) (by kernel_rfl)
   |some Q'=>rw[z]at e;exact bI [] [] [1014] (aC e aN) (by kernel_rfl)
  ·have e:=CQ (n+4) (s.ob l) k v c;exact Rw (show ag l (.put k v) s=_ from aw c) (bI [] [] [1014] (aC e aN) (by kernel_rfl))
 |del k=>
  refine⟨_,_,_,rfl,?_⟩
  haveI e:=Ja h n (-1) s.wr false k
  show _=s7.c ((pE (.bool (cQ l (vw s.tab s.Q) s.Q k).1) s (cQ l (vw s.tab s.Q) s.Q k).2).2.ob l) (pE (.bool (cQ l (vw s.tab s.Q) s.Q k).1) s (cQ l (vw s.tab s.Q) s.Q k).2).1;generalize z:(cQ l (vw s.tab s.Q) s.Q k).2=zV
  induction zV using Oc with
  |none=>rw[z]at e;exact bI [] [] [1015] (aC e aN) (by kernel_rfl)
  |some Q'=>rw[z]at e;exact bI [] [] [1015] (aC e aN) (by kernel_rfl)
 |get k=>exact⟨_,_,_,rfl,bI [] [] [1013] (aC (WJ h n (-1) s.wr false k) aN) (by kernel_rfl)⟩
 |bB=>exact⟨_,_,_,rfl,bI [] [] [1017] (aC (oy h (n+1) s.wr false) aN) (by kernel_rfl)⟩
 |wx=>exact⟨_,_,_,rfl,bI [] [] [1016] (aC (Sk h (n+4) (-1) s.wr false) aN) (by kernel_rfl)⟩
 |mB=>exact⟨_,_,_,rfl,bI [] [] [1008] (aC (wu h (n+1) s.wr false) aN) (by kernel_rfl)⟩
 |sL=>exact⟨_,_,_,rfl,bI [] [] [1006] (aC (Sl h (n+2) s.wr false) aN) (by kernel_rfl)⟩
 |bG=>exact⟨_,_,_,rfl,bI [] [] [1018] (aC (qY h (n+1) (-1) s.wr false) aN) (by kernel_rfl)⟩
section
variable{l:Nat}{log:List (List Int)}{tab:List En}{Q:Qu}(h:l9 l log tab Q)
include h
set_option tactic.hygienic true in
theorem sM(hi:i<3)(he:mA e)(hQ:gD l Q i e=some Q'):l9 l log tab Q':=by
 have hq:=h.ql;have hE:=h.qe;have hU:=h.pw
 suffices q:(∀p∈Q',mA p.2/\p.1<3)/\(Q'.Pairwise fun a b=>a.1≠b.1)/\Q'.length<=l from⟨h.l2,h.ll,h.lb,h.lt,h.te,q.1,q.2.1,q.2.2⟩
 clear h
 haveI fin {Q:Qu} (hE:∀p∈Q,mA p.2/\p.1<3) (hU:Q.Pairwise fun a b=>a.1≠b.1):(∀Q',sG i e Q=some Q'->(∀p∈Q',mA p.2/\p.1<3)/\(Q'.Pairwise fun a b=>a.1≠b.1)/\Q'.length=Q.length/\Q'.map (·.1)=Q.map (·.1))/\(sG i e Q=none->∀p∈Q,p.1≠i):=by
  induction Q with
  |nil=>exact⟨fun ω z=>(nomatch z),fun ω ω z=>(nomatch z)⟩
  |cons p Q ih=>
   obtain⟨u1,u2⟩:=jJ.mp hU;dsimp only[sG];by_cases c:p.1=i
   ·refine Rw (if_pos c) ?_;refine⟨fun Q' z=>?_,(fun z=>by injection z)⟩;cases z;subst c;refine⟨fun q hq=>?_,jJ.mpr ⟨u1,u2⟩,rfl,rfl⟩;rcases cL.mp hq with rfl|hq
    ·exact⟨he,hi⟩
    ·exact hE q (.tail _ hq)
   ·refine Rw (aw c) ?_;refine⟨fun Q' z=>?_,fun z q hq=>?_⟩
    ·obtain⟨R,hR,rfl⟩:=iu.mp z;obtain⟨a1,a2,a3,a4⟩:=(ih (fun p hp=>hE p (.tail _ hp)) u2).1 R hR;refine⟨fun q hq=>?_,jJ.mpr ⟨fun q hq=>?_,a2⟩,bz (· +1) a3,bz (p.1:: ·) a4⟩
     ·rcases cL.mp hq with rfl|hq
      ·exact hE q (.head _)
      ·exact a1 q hq
     ·have:q.1∈R.map (·.1):=bU.mpr ⟨q,hq,rfl⟩;rw[a4]at this;obtain⟨q',UP⟩:=bU.mp this;exact Rl UP.2 (u1 q' UP.1)
    ·rcases cL.mp hq with rfl|hq
     ·exact c
     ·exact(ih (fun p hp=>hE p (.tail _ hp)) u2).2 (E7.mp z) q hq
 obtain⟨f1,f2⟩:=fin hE hU
 delta gD at hQ
 generalize z:sG i e Q=zV
 induction zV using Oc with
 |some ys=>rw[z]at hQ;cases hQ;obtain⟨a1,a2,a3,_⟩:=f1 _ z;exact⟨a1,a2,a3▸hq⟩
 |none=>
  rw[z]at hQ;dsimp only at hQ;split at hQ
  ·cases hQ
  ·cases hQ;rename_i c;refine⟨fun q hq=>?_,Nt.mpr ⟨hU,xa ..,fun a ha b hb=>?_⟩,?_⟩
   ·rcases cG.mp hq with hq|hq
    ·exact hE q hq
    ·exact Rw (dp.mp hq) ⟨he,hi⟩
   ·exact Rw (dp.mp hb) (f2 z a ha)
   ·refine Rw cZ ?_;exact mi.mp c
end
def YS.Ok(l:Nat)(s:YS):Prop:=l9 l s.log s.tab s.Q
theorem C1(h:l9 l log tab Q)(i):mA (vw tab Q i):=by
 unfold vw;generalize e:Q.find? (fun p=>p.1==i)=zV
 induction zV using Oc with
 |some p=>exact(h.qe p (Dh e)).1
 |none=>exact A8 h.te i
theorem l9.WM(h:l9 l log tab Q):l9 l log tab []:=
 ⟨h.l2,h.ll,h.lb,h.lt,h.te,fun ω z=>(nomatch z),.nil,ft _⟩
theorem lU(h:bg V k=some i):i<3:=jn.mp (Dh h)
theorem qZ(h:dQ V=some i):i<3:=jn.mp (Dh h)
theorem Jc(h:s.Ok l)(a)(r)(hr:∀Q',r=some Q'->l9 l s.log s.tab Q'):(pE a s r).2.Ok l:=by
 induction r with
 |none=>exact h
 |some Q'=>exact hr Q' rfl
theorem az(h:s.Ok l)(op):(ag l op s).2.Ok l:=by
 induction op with
 |put k v=>
  by_cases c:inR k/\inR v
  ·refine Rw (show ag l (.put k v) s=_ from if_pos c) (Jc h _ _ fun Q' hQ=>?_);obtain⟨i,hi,hQ⟩:=w9.mp hQ;refine sM h ?_ (fun p hp=>Rl (dS hp) c) hQ;generalize e:bg s.V k=zV
   induction zV using Oc with
   |some j=>rw[e]at hi;cases hi;exact lU e
   |none=>exact qZ (e▸hi)
  ·exact Rw (show ag l (.put k v) s=_ from aw c) h
 |del k=>
  refine Jc h _ _ fun Q' hQ=>?_;unfold cQ at hQ;generalize e:bg s.V k=zV
  induction zV using Oc with
  |none=>rw[e]at hQ;cases hQ;exact h
  |some i=>rw[e]at hQ;exact sM h (e:=none) (lU e) (fun ω z=>(nomatch z)) hQ
 |get k=>exact h
 |bB=>
  refine⟨h.l2,?_,fun b hb=>?_,rfl,fun e he=>?_,fun ω z=>(nomatch z),.nil,ft _⟩
  ·show(cLog s.log s.Q).length=l;have h1:=h.ll;have h2:=h.ql;simp only[cLog,cZ,cn,tg];exact(Bp (h1▸h2)).trans h1
  ·rcases cG.mp hb with hb|hb
   ·obtain⟨p,_,rfl⟩:=bU.mp hb;rw[cJ];decide
   ·exact h.lb b (Nu hb)
  ·obtain⟨i,_,rfl⟩:=bU.mp he;exact C1 h i
 |wx=>exact h.WM
 |mB=>exact h.WM
 |sL=>exact⟨h.l2,h.ll,h.lb,rfl,fun e he=>by
   rcases cL.mp he with rfl|he
   ·exact fun ω z=>(nomatch z)
   rcases cL.mp he with rfl|he
   ·exact fun ω z=>(nomatch z)
   refine Rw (dp.mp he) ?_;exact fun ω z=>(nomatch z),h.qe,h.pw,h.ql⟩
 |bG=>exact h
noncomputable def ay(l:Nat):List Op->YS->List D×YS
 | [],s=>([],s)
 |op::r,s=>((ag l op s).1.d::(ay l r (ag l op s).2).1,(ay l r (ag l op s).2).2)
theorem Sn(n l):∀(ops:List Op) (s:YS),s.Ok l->Tr (n+5) (ops.map bO) (s.ob l) (ay l ops s).1 ((ay l ops s).2.ob l):=by
 intro zV
 induction zV with
 |nil=>
  exact @fun s ω=>.nil _
 |cons op r zI=>
  exact @fun s h=>by
   obtain⟨k,x,y,z3⟩:=Sm h n op;exact Rw c7 (Rw z3.1 (.cons _ z3.2 (zI _ (az h op))))
theorem wy:∀(ops:List Op) {s:YS},s.Ok l->(ay l ops s).2.Ok l:=by
 intro zV
 induction zV with
 |nil=>
  exact @fun ω h=>h
 |cons op r zI=>
  exact @fun ω h=>zI (az h op)
theorem So(n l)(log)(tab)(h:l9 l log tab [])(ops)(ho:ops.length<=100):
  ∃os,ae v8 (n+7) 126 [.dat (.list ((aJ log tab (-1) 0).bl.map dl)),.dat (.int (l:Int)),.dat (.int (-1)),.dat (.list (ops.map bO))] []=
   .ok (.dat (tryD (ay l ops ⟨log,tab,[],0⟩).1 (aJ (ay l ops ⟨log,tab,[],0⟩).2.log (ay l ops ⟨log,tab,[],0⟩).2.tab (-1) (ay l ops ⟨log,tab,[],0⟩).2.wr) (gC (qb (ay l ops ⟨log,tab,[],0⟩).2.Q)) false)) os:=
 haveI h0:YS.Ok l ⟨log,tab,[],0⟩:=h
 ⟨_,jj (n+4) l _ (h.dn 0 0) (-1) (wy ops h0|>.dn _ _) (Rw (cn ..) ho) (Sn n l ops ⟨log,tab,[],0⟩ h0)⟩
noncomputable def bE:En->D
 |none=>.none
 |some p=>.tuple [.int p.1,.int p.2]
noncomputable def sb(x:Int):List Int:=[Builtin.bitAnd (Int.fdiv x 16777216) 255,Builtin.bitAnd (Int.fdiv x 65536) 255,Builtin.bitAnd (Int.fdiv x 256) 255,Builtin.bitAnd (Int.fdiv x 1) 255]
theorem C2(hx:inR x):sb x=fb x:=by
 haveI z (y:Int) (hy:0<=y):0<=Int.fdiv x y:=Rw (EZ _ hy) (Oh hx.1 hy)
 delta sb fb
 rw[ox _ (z _ (by decide)),ox _ (z _ (by decide)),ox _ (z _ (by decide)),ox _ (z _ (by decide)),Int.fdiv_one]
def bodyOf:En->List Int
 |none=>[]
 |some p=>[1]++sb p.1++sb p.2
theorem Mj(n)(e)(h:mA e):ae v8 (n+1) 120 [.dat (dl (bodyOf e))] []= .ok (.dat (dl (eb e))) []:=by
 induction e with
 |none=>kernel_rfl
 |some p=>
  haveI q:ae v8 (n+1) 120 [.dat (dl ([1]++sb p.1++sb p.2))] []= .ok (.dat (dl (CO ([1]++sb p.1++sb p.2)))) []:=by kernel_rfl
  rw[C2 (h p rfl).1,C2 (h p rfl).2]at q;unfold bodyOf;dsimp only;rw[C2 (h p rfl).1,C2 (h p rfl).2];exact q
def imB:MS:=cE nE.body 1
noncomputable def X6(I:D)(out:List D)(tl:List (Nat×LV)):St:=⟨[(132,.dat I),(66,.own out)]++tl,[],[],[]⟩
inductive Ti:List (Nat×LV)->Prop
 |no:Ti []
 |one(a b:LV):Ti [(131,a),(43,b)]
theorem Mk(n)(I):∀(es:List En) (he:∀e∈es,mA e) (out:List D) (tl:List (Nat×LV)),Ti tl->out.length+es.length<=100->
  ∃gj,aO (fv imB) (execs v8 (ae v8 (n+1)) (gz imB)) (es.map bE) (X6 I out tl)= .ok .next (X6 I (out++es.map fun e=>dl (eb e)) gj):=by
 intro es
 induction es with
 |nil=>intro _ out tl _ _;exact⟨tl,Rw (rm ..) rfl⟩
 |cons e r ih=>
  intro he out tl ht hl;have nQ:out.length<=lim:=by simp only[List.length_cons]at hl;delta lim;exact aI (fy ..) (aI hl (Dn rfl))
  obtain⟨gj,q⟩:=ih (fun x hx=>he x (.tail _ hx)) (out++ [dl (eb e)]) [(131,.dat (bE e)),(43,.dat (dl (bodyOf e)))] (.one _ _) (by simp only[List.length_cons,cZ,List.length_nil]at hl⊢;exact aI (dN (nr ..)) hl);rw[j9]at q;have hg:=aC (Mj n e (he e (.head _))) (aM nQ aN);refine⟨gj,?_⟩
  induction ht with
  |no=>
   refine bQ (st1:=X6 I out [(131,.dat (bE e))]) rfl ?_ q;induction e<;>exact d7 [] [244008037] [120] hg (by kernel_rfl)
  |one a b=>
   refine bQ (st1:=X6 I out [(131,.dat (bE e)),(43,b)]) rfl ?_ q;induction e<;>exact d7 [] [244008037] [120] hg (by kernel_rfl)
def lr(es:List En):D:=.list ((zs 16::es.map eb).map dl)
theorem gm(n)(es)(he:∀e∈es,mA e)(hl:es.length<=50):ae v8 (n+2) 121 [.dat (.list (es.map bE))] []= .ok (.dat (lr es)) []:=by
 obtain⟨tl,q⟩:=Mk n (.list (es.map bE)) es he [dl (zs 16)] [] .no (by simp;exact aI (iY hl _) (Dn rfl));exact bI [242] [] [] (aL ((show(es.map fun e=>dl (eb e))=(es.map eb).map dl by refine Rw qy ?_;rfl)▸q) aN) (by kernel_rfl)
def zD:MS:=cE rI.body 1
def Sp:ME:=Ek (cE (gz zD) 1)
noncomputable def X7:MS->List MS
 |.ifs _ b _ _=>b
 |_=>[]
noncomputable def ifF:MS->List MS
 |.ifs _ _ b _=>b
 |_=>[]
def aaj:ME->ME
 |.bin _ _ r _=>r
 |e=>e
def Ml:ME->ME
 |.bin _ l _ _=>l
 |e=>e
noncomputable def bfA:ME->ME
 |.pU _ (a::_) _ _=>a
 |e=>e
noncomputable def aak:ME->ME
 |.tup (a::_) _ _=>a
 |e=>e
def Sq:ME:=aaj (Ek (cE (X7 (cE (gz zD) 2)) 0))
def Sr:ME:=bfA (Ek (cE (X7 (cE (gz zD) 3)) 0))
def aal:MS:=cE (ifF (cE (gz zD) 3)) 0
def aam:MS:=cE (ifF aal) 0
def aan:MS:=cE (ifF aam) 0
def WN:ME:=Ml (aak (Ek (cE (X7 aan) 0)))
def t3(V:Nat->En):List D:=[bE (V 0),bE (V 1),bE (V 2)]
def jk(key:D)(e:En):Bool:=match key with
 |.int k=>(w3 e).1&&decide ((w3 e).2.1=k)
 |_=>false
theorem fmN(c:Nat->Bool)(xs:List Nat):(xs.flatMap fun i=>if c i then [PyData.int (i:Int)]else [])=lN (xs.filter c):=by
 induction xs with
 |nil=>rfl
 |cons p r ih=>
  simp only[Fv,ih,FH];generalize c p=zV;induction zV using Tc<;>rfl
def WO(key:D):Prop:=key= .none\/ ∃k,key= .int k
theorem wz(hk:WO key)(p):bp .Eq (.int p.1) key=some (jk key (some p)):=by
 rcases hk with rfl|⟨k,rfl⟩
 ·kernel_rfl
 ·exact ji rfl
theorem Et(n)(V:Nat->En)(hk:WO key):cv (ev v8 (ae v8 n) (wj Sp)) [] (wk Sp) (bS v8 (ae v8 n) (Ma Sp)) (lN [0,1,2]) ⟨[],[(143,.dat (.list (t3 V))),(48,.dat key)],[],[]⟩=some (lN ([0,1,2].filter fun i=>jk key (V i))):=by
 refine(jE _ _ _ _ (fun i:Nat=>PyData.int (i:Int)) (fun i=>if jk key (V i)then [PyData.int (i:Int)]else []) [0,1,2] fun i hi=>?_).trans (bz some (fmN _ _));have a0:bp .IsNot .none .none=some false:=rfl;have a1 (p:Int×Int):bp .IsNot (.tuple [.int p.1,.int p.2]) .none=some true:=rfl;have hi:=by simpa using hi
 haveI hn (e:En) (z:e=none):jk key e=false:=by subst z;rcases hk with rfl|⟨k,rfl⟩<;>rfl
 unfold t3;refine O3 hi ?_ ?_ ?_
 ·cases e:V 0 with
  |none=>exact Rw (hn none rfl) (J6 [260] [] [] (aR a0 aN) (by kernel_rfl))
  |some p=>
   have hr:=wz hk p;cases z:jk key (some p)<;>rw[z]at hr<;>exact J6 [260] [] [] (aR (a1 p) (aR hr aN)) (by kernel_rfl)
 ·cases e:V 1 with
  |none=>exact Rw (hn none rfl) (J6 [260] [] [] (aR a0 aN) (by kernel_rfl))
  |some p=>
   have hr:=wz hk p;cases z:jk key (some p)<;>rw[z]at hr<;>exact J6 [260] [] [] (aR (a1 p) (aR hr aN)) (by kernel_rfl)
 ·cases e:V 2 with
  |none=>exact Rw (hn none rfl) (J6 [260] [] [] (aR a0 aN) (by kernel_rfl))
  |some p=>
   have hr:=wz hk p;cases z:jk key (some p)<;>rw[z]at hr<;>exact J6 [260] [] [] (aR (a1 p) (aR hr aN)) (by kernel_rfl)
theorem aao(n)(V:Nat->En)(key):cv (ev v8 (ae v8 n) (wj Sq)) [] (wk Sq) (bS v8 (ae v8 n) (Ma Sq)) (lN [0,1,2]) ⟨[],[(143,.dat (.list (t3 V))),(48,.dat key)],[],[]⟩=some (lN ([0,1,2].filter fun i=>!(w3 (V i)).1)):=by
 unfold t3;cases h0:V 0<;>cases h1:V 1<;>cases h2:V 2<;>simp only[List.filter,h0,h1,h2,w3]<;>kernel_rfl
noncomputable def ents(V:Nat->En):KV:=[V 0,V 1,V 2].filterMap id
theorem aap(n)(V:Nat->En)(key):cv (ev v8 (ae v8 n) (wj Sr)) [] (wk Sr) (bS v8 (ae v8 n) (Ma Sr)) (t3 V) ⟨[],[(143,.dat (.list (t3 V))),(48,.dat key)],[],[]⟩=some (bG (ents V)):=by
 delta t3 ents
 generalize V 0=zV;induction zV using Oc<;>cases V 1<;>cases V 2<;>kernel_rfl
theorem aaq(n)(V:Nat->En)(key)(T)(hT:∀t∈T,t<3):cv (ev v8 (ae v8 n) (wj WN)) [] (wk WN) (bS v8 (ae v8 n) []) (lN T) ⟨[],[(143,.dat (.list (t3 V))),(48,.dat key)],[],[]⟩=some (T.map fun i=>bE (V i)):=by
 refine(jE _ _ _ _ (fun i:Nat=>PyData.int (i:Int)) (fun i=>[bE (V i)]) T fun i hi=>?_).trans (bz some (wm _ _));have:=hT i hi;refine Ga this ?_ ?_ ?_<;>kernel_rfl
theorem PR(i:Nat)(T)(hT:T.length<=2):bp .NotIn (.int (i:Int)) (.list (lN T))=some (!decide (i∈T)):=by
 have e (a:Nat):PyData.eqv (.int (a:Int)) (.int (i:Int))=decide (a=i):=by
  show((a:Int)==(i:Int))=_;by_cases h:a=i
  ·refine Rw h ?_;simp
  ·exact Rw (dx h) (pP fun z=>h (FL.mp z))
 rcases T with _|⟨a,_|⟨b,_|⟨c,T⟩⟩⟩
 ·kernel_rfl
 ·show(Option.map (!·) (some (PyData.eqv (.int (a:Int)) (.int (i:Int))||false)):Option Bool)=_;rw[e,Ol];simp[eq_comm]
 ·show(Option.map (!·) (some (PyData.eqv (.int (a:Int)) (.int (i:Int))||(PyData.eqv (.int (b:Int)) (.int (i:Int))||false))):Option Bool)=_;simp only[e,e,Ol];simp[eq_comm]
 ·simp at hT
def Eu(l:Nat)(L:List D)(R:D)(as:List D)(T:List Nat)(wr:Int)(V:Nat->En)(ck tl:List (Nat×LV)):St:=
 ⟨[(144,.dat (.int (l:Int))),(78,.dat (.list L)),(141,.dat R),(70,.dat (.int wr)),(140,.dat (.list (lN T))),(139,.own as)]++tl,[(143,.dat (.list (t3 V)))]++ck,[],[]⟩
inductive Tu:List (Nat×LV)->List (Nat×LV)->Prop
 |no:Tu [] []
 |a(k v a h c:LV):Tu [(136,k),(49,v),(142,a),(75,h)] [(48,c)]
 |b(k v a h e c:LV):Tu [(136,k),(49,v),(142,a),(75,h),(131,e)] [(48,c)]
noncomputable def upd(V:Nat->En)(i:Nat)(e:En):Nat->En:=fun j=>if j=i then e else V j
theorem Bb(a b)(h:a.length+b.length<=1000):fE .add (.list (lN a)) (.list (lN b))=some (.list (lN (a++b))):=by
 show(if _ then _ else _)=_;rw[if_pos (by simp only[lN,cn];exact aI h (Dn rfl))];unfold lN;rw[kb]
theorem sN(T)(h:T.length<=1000):wd (.list (lN T))=some (.int (T.length:Int)):=by
 rw[lO _ (by simp only[lN,cn];exact aI h (Dn rfl))];simp only[lN,cn]
def tA(kd:Str)(key v A:D)(H:List Nat):List (Nat×LV):=[(136,.dat (.str kd)),(49,.dat v),(142,.dat A),(75,.dat (.list (lN H)))]
def tB(kd:Str)(key v A:D)(H:List Nat)(e:LV):List (Nat×LV):=[(136,.dat (.str kd)),(49,.dat v),(142,.dat A),(75,.dat (.list (lN H))),(131,e)]
theorem Bd(a)(h:small x=true):fE .mul (.int a) (.int x)=some (.int (a*x)):=by
 exact(if_pos h)
theorem Mm(V:Nat->En)(i:Nat)(hi:i<3)(e)(t:All v8 r):All v8 (.val (fZ (.list (t3 V)) none (some (.int (i:Int)))) (.list ((t3 V).take i)):: .val (fE .add (.list ((t3 V).take i)) (.list [bE e])) (.list ((t3 V).take i++ [bE e]))::
  .val (fZ (.list (t3 V)) (some (.int ((i:Int)+1))) none) (.list ((t3 V).drop (i+1))):: .val (fE .add (.list ((t3 V).take i++ [bE e])) (.list ((t3 V).drop (i+1)))) (.list (t3 (upd V i e)))::r):=by
 refine Ga hi ?_ ?_ ?_<;>exact aV rfl (aV rfl (aV rfl (aV rfl t)))
def ls8:List Nat:=[271,275,280]
noncomputable def vl8:List Nat:=[260015083,262026067,262019067,264028075,266021035,270036063,270070082,270066084,270036084,270099111,270095111,275053065,279020035,279020045,279048067,279020067,281026045,282008030]
def Go(n:Nat)(item:D)(s:St)(s':List (Nat×LV)->List (Nat×LV)->St):Prop:=∃gj WQ,Tu gj WQ/\ ∀{r:List D} {Z:Res dJ},aO (fv zD) (execs v8 (ae v8 n) (gz zD)) r (s' WQ gj)=Z->aO (fv zD) (execs v8 (ae v8 n) (gz zD)) (item::r) s=Z
def Ss(n:Nat)(item:D)(fc:List Cl)(st:St):Option (Option (Res dJ×List Cl)):=(fu (fv zD) item st).map fun st1=>PL (eZ v8 ls8 vl8 (d6 v8 ls8 vl8 [] n) n (gz zD) st1 (j7 fc))
def Su(fc:List Cl)(st:St):Option (Option (Res dJ×List Cl)):=some (some (.ok .next st,fc))
theorem pF{st:St}(hf:All v8 fc)(h:Ss n item fc st=Su fc aE)(q:aO (fv zD) (execs v8 (ae v8 n) (gz zD)) r aE=Z):aO (fv zD) (execs v8 (ae v8 n) (gz zD)) (item::r) st=Z:=
 (iu.mp h).elim fun ω h=>bQ h.1 (d7 ls8 vl8 [] hf h.2) q
section
variable(kd:Str)(key v A:D)(H:List Nat){tl ck:List (Nat×LV)}(ht:Tu tl ck){fc:List Cl}(hf:All v8 fc)
include ht hf
theorem Jd{s:List (Nat×LV)->List (Nat×LV)->St}(h0:Ss n item fc (s [] [])=Su fc (s' [(48,.dat key)] (tA kd key v A H)))(h1:∀a b c d e,Ss n item fc (s [(48,e)] [(136,a),(49,b),(142,c),(75,d)])=Su fc (s' [(48,.dat key)] (tA kd key v A H)))(h2:∀a b c d e f,Ss n item fc (s [(48,f)] [(136,a),(49,b),(142,c),(75,d),(131,e)])=Su fc (s' [(48,.dat key)] (tB kd key v A H e))):
  Go n item (s ck tl) s':=by
 induction ht with
 |no=>exact⟨_,_,.a _ _ _ _ _,pF hf h0⟩
 |a=>exact⟨_,_,.a _ _ _ _ _,pF hf (h1 _ _ _ _ _)⟩
 |b=>exact⟨_,_,.b _ _ _ _ _ _,pF hf (h2 _ _ _ _ _ _)⟩
theorem Mn{s:List (Nat×LV)->List (Nat×LV)->St}(E)(h0:Ss n item fc (s [] [])=Su fc (s' [(48,.dat key)] (tB kd key v A H E)))(h1:∀a b c d e,Ss n item fc (s [(48,e)] [(136,a),(49,b),(142,c),(75,d)])=Su fc (s' [(48,.dat key)] (tB kd key v A H E)))(h2:∀a b c d e f,Ss n item fc (s [(48,f)] [(136,a),(49,b),(142,c),(75,d),(131,e)])=Su fc (s' [(48,.dat key)] (tB kd key v A H E))):
  Go n item (s ck tl) s':=by
 induction ht with
 |no=>exact⟨_,_,.b _ _ _ _ _ _,pF hf h0⟩
 |a=>exact⟨_,_,.b _ _ _ _ _ _,pF hf (h1 _ _ _ _ _)⟩
 |b=>exact⟨_,_,.b _ _ _ _ _ _,pF hf (h2 _ _ _ _ _ _)⟩
end
def m8(l:Nat)(T:List Nat)(V:Nat->En)(a:D)(e:En):Option Nat->D×List Nat×(Nat->En)
 |none=>(.str "FullError",T,V)
 |some i=>if i∈T then(a,T,upd V i e)else if T.length=l then(.str "FullError",T,V)else(a,T++ [i],upd V i e)
theorem Ew{α:Type}{p:α->Prop}{c:Prop}[Decidable c]{x y:α}(a:c->p x)(b:¬c->p y):p (if c then x else y):=(iy c).elim (fun h=>Rw (if_pos h) (a h)) fun h=>Rw (aw h) (b h)
theorem mxR{k v:Int}(c:inR k/\inR v):¬(if k<v then v else k)>4294967295:=Ew (p:=fun z=>¬z>4294967295) (fun ω=>dX.mpr (Fi c.2.2)) fun ω=>dX.mpr (Fi c.1.2)
theorem mnR{k v:Int}(c:inR k/\inR v):¬(if v<k then v else k)<0:=Ew (p:=fun z=>¬z<0) (fun ω=>dX.mpr c.2.1) fun ω=>dX.mpr c.1.1
theorem mxB{k v:Int}(c:¬(inR k/\inR v))(g:¬(if v<k then v else k)<0):(if k<v then v else k)>4294967295:=pT.mp fun z=>c
 ⟨⟨ma (dX.mp g) (Ew (p:=fun z=>z<=k) mf fun ω=>BU _),ND (ma (Ew (p:=fun z=>k<=z) mf fun ω=>BU _) z)⟩,
  ⟨ma (dX.mp g) (Ew (p:=fun z=>z<=v) (fun ω=>BU _) dX.mp),ND (ma (Ew (p:=fun z=>v<=z) (fun ω=>BU _) dX.mp) z)⟩⟩
section
variable(n l:Nat)(hl:l<=2)(L:List D)(R:D)(as:List D)(has:as.length<=100)(T:List Nat)(hT:T.length<=l)(wr:Int)(V:Nat->En)
include hl has hT
theorem Sv(k v)(ht:Tu tl ck):Go n (.tuple [.str "put",.int k,.int v]) (Eu l L R as T wr V ck tl) (let o:=if inR k/\inR v then m8 l T V .none (some (k,v)) ((bg V k).or (dQ V))else(.str "ValueError",T,V);Eu l L R (as++ [o.1]) o.2.1 wr o.2.2):=by
 have ha:as.length<=lim:=aI has (Dn rfl);obtain⟨H,hH⟩:∃H,H=([0,1,2].filter fun i=>jk (.int k) (V i))++([0,1,2].filter fun i=>!(w3 (V i)).1):=⟨_,rfl⟩
 haveI hh:H.head?=(bg V k).or (dQ V):=by simp only[hH,List.head?_append,Bu,Bu];rfl
 have hm:∀i∈H,i<3:=fun i hi=>by
  rw[hH]at hi;exact jn.mp ((cG.mp hi).elim (fun q=>(vj.mp q).1) fun q=>(vj.mp q).1:i∈List.range 3)
 have f1:=zJ (fun i=>jk (.int k) (V i)) [0,1,2];have f2:=zJ (fun i=>!(w3 (V i)).1) [0,1,2]
 haveI hb:=Bb ([0,1,2].filter fun i=>jk (.int k) (V i)) ([0,1,2].filter fun i=>!(w3 (V i)).1) (by dsimp only[List.length_cons,List.length_nil]at f1 f2;exact aI (xl f1 f2) (Dn rfl))
 rw[<-hH]at hb;have pl:bp .Eq (.str "put") (.str "put")=some true:=by kernel_rfl
 have front {r:List Cl} (t:All v8 r):=aP (Et n V (.inr ⟨k,rfl⟩)) (by simp only[lN,cn];exact aI f1 (Dn rfl)) (aP (aao n V (.int k)) (by simp only[lN,cn];exact aI f2 (Dn rfl)) (aV hb (aR pl t)));have J7:H.length<=100:=by refine Rw hH (Rw cZ ?_);dsimp only[List.length_cons,List.length_nil]at f1 f2;exact aI (xl f1 f2) (Dn rfl)
 refine Rl hh ?_;clear hh hb f1 f2;clear hH;rcases iy (inR k/\inR v)with c|c
 ·refine Rw (if_pos c) ?_;have g1:bp .Lt (.int (if v<k then v else k)) (.int 0)=some false:=fL (dx (mnR c));have g2:bp .Gt (.int (if k<v then v else k)) (.int 4294967295)=some false:=og (dx (mxR c))
  induction H using Lc with
  |nil=>
   have hf:=front (aR g1 (aR g2 (aM (xs:=lN []) (ft _) (aM ha aN))));exact Jd "put" (.int k) (.int v) (.str "FullError") [] ht hf (by kernel_rfl) (fun ω ω ω ω ω=>by kernel_rfl) fun ω ω ω ω ω ω=>by kernel_rfl
  |cons i H=>
   have ni:=PR i T (aI hT hl);have hHl:(lN (i::H)).length<=lim:=by simp only[lN,cn];exact aI J7 (Dn rfl)
   refine Rw (show(i::H).head?=some i from rfl) ?_;simp only[m8];rcases iy (i∈T)with hi|hi
   ·simp only[if_pos hi];replace ni:=(bP hi)▸ni;have hf:=front (aR g1 (aR g2 (aM hHl (aR ni (Mm V i (hm i (.head _)) (some (k,v)) (aR ni (aM ha aN)))))));exact Mn "put" (.int k) (.int v) .none (i::H) ht hf (.dat (.tuple [.int k,.int v])) (by kernel_rfl) (fun ω ω ω ω ω=>by kernel_rfl) fun ω ω ω ω ω ω=>by kernel_rfl
   ·rw[aw hi];rw[dx hi]at ni;by_cases hz:T.length=l
    ·simp only[if_pos hz];have hf:=front (aR g1 (aR g2 (aM hHl (aR ni (aV (sN T (hz▸aI hl (Dn rfl))) (aR (rj (bP hz)) (aM ha aN)))))));exact Jd "put" (.int k) (.int v) (.str "FullError") (i::H) ht hf (by kernel_rfl) (fun ω ω ω ω ω=>by kernel_rfl) fun ω ω ω ω ω ω=>by kernel_rfl
    ·simp only[aw hz];have hf:=front (aR g1 (aR g2 (aM hHl (aR ni (aV (sN T (aI hT (aI hl (Dn rfl)))) (aR (rj (dx hz)) (Mm V i (hm i (.head _)) (some (k,v)) (aR ni (aV (Bb T [i] (by simp;exact aI hT (aI hl (Dn rfl)))) (aM ha aN))))))))));exact Mn "put" (.int k) (.int v) .none (i::H) ht hf (.dat (.tuple [.int k,.int v])) (by kernel_rfl) (fun ω ω ω ω ω=>by kernel_rfl) fun ω ω ω ω ω ω=>by kernel_rfl
 ·refine Rw (aw c) ?_;by_cases g:(if v<k then v else k)<0
  ·have hf:=front (aR (fL (a:=if v<k then v else k) (b:=0) (bP g)) (aM ha aN));exact Jd "put" (.int k) (.int v) (.str "ValueError") H ht hf (by kernel_rfl) (fun ω ω ω ω ω=>by kernel_rfl) fun ω ω ω ω ω ω=>by kernel_rfl
  ·have g2:bp .Gt (.int (if k<v then v else k)) (.int 4294967295)=some true:=og (bP (mxB c g))
   haveI hf:=front (aR (fL (a:=if v<k then v else k) (b:=0) (dx g)) (aR g2 (aM ha aN)))
   exact Jd "put" (.int k) (.int v) (.str "ValueError") H ht hf (by kernel_rfl) (fun ω ω ω ω ω=>by kernel_rfl) fun ω ω ω ω ω ω=>by kernel_rfl
theorem Sw(k)(ht:Tu tl ck):Go n (.tuple [.str "del",.int k,.int 0]) (Eu l L R as T wr V ck tl) (let o:=(match bg V k with|none=>(PyData.bool false,T,V)|some i=>m8 l T V (.bool true) none (some i));Eu l L R (as++ [o.1]) o.2.1 wr o.2.2):=by
 have ha:as.length<=lim:=aI has (Dn rfl);obtain⟨H,hH⟩:∃H,H=([0,1,2].filter fun i=>jk (.int k) (V i)):=⟨_,rfl⟩
 haveI hh:H.head?=bg V k:=by rw[hH];exact Bu
 have hm:∀i∈H,i<3:=fun i hi=>by
  exact jn.mp ((vj.mp (hH▸hi)).1:i∈List.range 3)
 haveI f1:=zJ (fun i=>jk (.int k) (V i)) [0,1,2]
 haveI hc:=Et n V (key:=.int k) (.inr ⟨k,rfl⟩)
 have J7:(lN H).length<=lim:=by rw[hH];simp only[lN,cn];exact aI f1 (Dn rfl)
 simp only[<-hH]at hc;have pl:bp .Eq (.str "del") (.str "put")=some false:=by kernel_rfl
 have front {r:List Cl} (t:All v8 r):=aP hc J7 (aR pl (aM J7 t));refine Rl hh ?_;clear hh f1 hc;clear hH
 induction H using Lc with
 |nil=>
  have hf:=front (aM ha aN);exact Jd "del" (.int k) (.int 0) (.bool false) [] ht hf (by kernel_rfl) (fun ω ω ω ω ω=>by kernel_rfl) fun ω ω ω ω ω ω=>by kernel_rfl
 |cons i H=>
  haveI ni:=PR i T (aI hT hl)
  have i3:=hm i (.head _);refine Rw (show(i::H).head?=some i from rfl) ?_;simp only[m8];rcases iy (i∈T)with hi|hi
  ·refine Rw (if_pos hi) ?_;replace ni:=(bP hi)▸ni;have hf:=front (aM J7 (aR ni (Mm V i i3 none (aR ni (aM ha aN)))));exact Mn "del" (.int k) (.int 0) (.bool true) (i::H) ht hf (.dat .none) (by kernel_rfl) (fun ω ω ω ω ω=>by kernel_rfl) fun ω ω ω ω ω ω=>by kernel_rfl
  ·rw[aw hi];rw[dx hi]at ni;by_cases hz:T.length=l
   ·simp only[if_pos hz];have hf:=front (aM J7 (aR ni (aV (sN T (hz▸aI hl (Dn rfl))) (aR (rj (bP hz)) (aM ha aN)))));exact Jd "del" (.int k) (.int 0) (.str "FullError") (i::H) ht hf (by kernel_rfl) (fun ω ω ω ω ω=>by kernel_rfl) fun ω ω ω ω ω ω=>by kernel_rfl
   ·simp only[aw hz];have hf:=front (aM J7 (aR ni (aV (sN T (by lia)) (aR (rj (dx hz)) (Mm V i i3 none (aR ni (aV (Bb T [i] (by simp;lia)) (aM ha aN))))))));exact Mn "del" (.int k) (.int 0) (.bool true) (i::H) ht hf (.dat .none) (by kernel_rfl) (fun ω ω ω ω ω=>by kernel_rfl) fun ω ω ω ω ω ω=>by kernel_rfl
theorem Sy(k)(ht:Tu tl ck):Go n (.tuple [.str "get",.int k,.int 0]) (Eu l L R as T wr V ck tl) (Eu l L R (as++ [oz V k]) T wr V):=by
 obtain⟨H,hH⟩:∃H,H=([0,1,2].filter fun i=>jk (.int k) (V i)):=⟨_,rfl⟩
 haveI hh:H.head?=bg V k:=by rw[hH];exact Bu
 have hm:∀i∈H,i<3/\jk (.int k) (V i)=true:=fun i hi=>by
  rw[hH]at hi;have h2:=vj.mp hi
  haveI:=h2.1
  simp at this;exact⟨by lia,h2.2⟩
 haveI f1:=zJ (fun i=>jk (.int k) (V i)) [0,1,2]
 haveI hc:=Et n V (key:=.int k) (.inr ⟨k,rfl⟩)
 have J7:(lN H).length<=lim:=by refine Rw hH ?_;simp only[lN,cn];exact aI f1 (Dn rfl)
 simp only[<-hH]at hc;have front {r:List Cl} (t:All v8 r):=aP hc J7 (aM J7 t);unfold oz;refine Rl hh ?_;clear hh f1 hc;clear hH
 induction H using Lc with
 |nil=>
  have hf:=front (aM (aI has (Dn rfl)) aN);exact Jd "get" (.int k) (.int 0) .none [] ht hf (by kernel_rfl) (fun ω ω ω ω ω=>by kernel_rfl) fun ω ω ω ω ω ω=>by kernel_rfl
 |cons i H=>
  haveI o7:=(hm i (.head _))
  haveI i3:=o7.1
  haveI hv:=o7.2
  refine Rw (show(i::H).head?=some i from rfl) ?_
  have hx:bZ (.list (t3 V)) (.int (i:Int))=some (bE (V i)):=by
   refine Ga i3 ?_ ?_ ?_<;>rfl
  dsimp only;generalize e:V i=zV
  induction zV using Oc with
  |none=>rw[e]at hv;exact nomatch hv
  |some p=>
   rw[e]at hx
   haveI hf:=front (aV hx (aM (aI has (Dn rfl)) aN))
   exact Jd "get" (.int k) (.int 0) (.int p.2) (i::H) ht hf (by kernel_rfl) (fun ω ω ω ω ω=>by kernel_rfl) fun ω ω ω ω ω ω=>by kernel_rfl
theorem Sz(hn:NK (ents V))(ht:Tu tl ck):Go n (.tuple [.str "pairs",.none,.none]) (Eu l L R as T wr V ck tl) (Eu l L R (as++ [.list (bG (jF (ents V)))]) T wr V):=by
 haveI f1:=zJ (fun i=>jk .none (V i)) [0,1,2]
 have XN:(ents V).length<=3:=E6 id [V 0,V 1,V 2]
 haveI hs:gA (bG (ents V))=some (bG (jF (ents V))):=by refine Rw (CW _ (aI XN (Dn rfl))) ?_;rw[Mf _ hn]
 haveI hf:=aP (Et n V (key:=.none) (.inl rfl)) (aI f1 (Dn rfl)) (aP (aap n V .none) (Rw (ou ..) (aI XN (Dn rfl))) (aS hs (aM (aI has (Dn rfl)) aN)))
 exact Jd "pairs" .none .none (.list (bG (jF (ents V)))) ([0,1,2].filter fun i=>jk .none (V i)) ht hf (by kernel_rfl) (fun ω ω ω ω ω=>by kernel_rfl) fun ω ω ω ω ω ω=>by kernel_rfl
theorem SA(ht:Tu tl ck):Go n (.tuple [.str "wipe",.none,.none]) (Eu l L R as T wr V ck tl) (Eu l L R (as++ [.none]) T (wr+4) (fun ω=>none)):=by
 haveI hf:=aP (Et n V (key:=.none) (.inl rfl)) (aI (zJ (fun i=>jk .none (V i)) [0,1,2]) (Dn rfl)) (aM (aI has (Dn rfl)) aN)
 exact Jd "wipe" .none .none .none ([0,1,2].filter fun i=>jk .none (V i)) ht hf (by kernel_rfl) (fun ω ω ω ω ω=>by kernel_rfl) fun ω ω ω ω ω ω=>by kernel_rfl
theorem SD(hT3:∀t∈T,t<3)(hL:T.length<=L.length)(HB:L.length<=100)(ht:Tu tl ck):Go n (.tuple [.str "commit",.none,.none]) (Eu l L R as T wr V ck tl) (Eu l ((T.map fun i=>bE (V i))++L.drop T.length) R (as++ [.none]) [] (wr+2*(T.length:Int)+2) V):=by
 haveI f1:=zJ (fun i=>jk .none (V i)) [0,1,2]
 haveI nl:=sN T (aI hT (aI hl (Dn rfl)))
 haveI T6:=wo L T.length (aI HB (Dn rfl)) (aI hT (aI hl (Dn rfl)))
 haveI hmul:fE .mul (.int 2) (.int (T.length:Int))=some (.int (2*(T.length:Int))):=Bd 2 (gR _ (aI hT (aI hl (Dn rfl))))
 haveI hb:fE .add (.list (T.map fun i=>bE (V i))) (.list (L.drop T.length))=some (.list ((T.map fun i=>bE (V i))++L.drop T.length)):=by
  exact(if_pos (by rw[(cn _),tg];exact aI (show T.length+(L.length-T.length)<=100 by exact(FV T.length L.length).elim (fun h=>Rw (Bp h) HB) fun h=>Rw (Nr h) (aI hT (aI hl (Dn rfl)))) (by decide)))
 haveI hf:=aP (Et n V (key:=.none) (.inl rfl)) (aI f1 (Dn rfl)) (aP (aaq n V .none T hT3) (Rw (cn _) (aI (show T.length<=100 by exact aI hL HB) (Dn rfl))) (aV nl (aV T6 (aV hb (aV nl (aV hmul (aM (aI has (Dn rfl)) aN)))))))
 exact Jd "commit" .none .none .none ([0,1,2].filter fun i=>jk .none (V i)) ht hf (by kernel_rfl) (fun ω ω ω ω ω=>by kernel_rfl) fun ω ω ω ω ω ω=>by kernel_rfl
end
theorem sO:∀{Q Q':Qu},sG i e Q=some Q'->(∀j,Q'.find? (fun p=>p.1==j)=if j=i then some (i,e)else Q.find? (fun p=>p.1==j))/\Q'.map (·.1)=Q.map (·.1)/\i∈Q.map (·.1)
 | [],_,h=>(nomatch h)
 |p::Q,Q',h=>by
  unfold sG at h;by_cases c:p.1=i
  ·rw[if_pos c]at h;cases h;refine⟨fun j=>?_,Rw c7 (Rw c7 (Rw c rfl)),by refine Rw c7 (Rw c ?_);exact .head _⟩;simp only[List.find?_cons,List.find?_cons,c];by_cases z:j=i
   ·refine Rw (if_pos z) ?_;refine Rw z ?_;simp
   ·exact Rw (aw z) (Rw (pP fun y=>z y.symm) rfl)
  ·replace h:=(aw c)▸h;obtain⟨R,hR,rfl⟩:=iu.mp h;obtain⟨a,KA⟩:=sO hR;refine⟨fun j=>?_,Rw c7 (Rw c7 (Rw KA.1 rfl)),.tail _ KA.2⟩;simp only[List.find?_cons,List.find?_cons,a];by_cases z:j=i
   ·exact Rw (if_pos z) (Rw (if_pos z) (Rw z (Rw (pP c) rfl)))
   ·exact Rw (aw z) (Rw (aw z) rfl)
theorem lV:∀{Q:Qu},sG i e Q=none->¬i∈Q.map (·.1)
 | []=>@fun ω z=>(nomatch z)
 |p::Q=>@fun h z=>by
  unfold sG at h;by_cases c:p.1=i
  ·exact Ns h (if_pos c)
  ·replace h:=(aw c)▸h;rcases cL.mp z with z|z
   ·exact c z.symm
   ·exact lV (E7.mp h) z
theorem Be{l:Nat}{tab:List En}{Q:Qu}(hl:Q.length<=l)(i:Nat)(e:En)(a:D):m8 l (Q.map (·.1)) (vw tab Q) a e (some i)=match gD l Q i e with
  |none=>(.str "FullError",Q.map (·.1),vw tab Q)
  |some Q'=>(a,Q'.map (·.1),vw tab Q'):=by
 delta gD m8
 dsimp only
 have hv {Q':Qu} (h:∀j,Q'.find? (fun p=>p.1==j)=if j=i then some (i,e)else Q.find? (fun p=>p.1==j)):upd (vw tab Q) i e=vw tab Q':=by
  funext j
  delta upd vw
  refine Rw (h j) ?_;by_cases z:j=i
  ·exact Rw (if_pos z) (Rw (if_pos z) rfl)
  ·exact Rw (aw z) (Rw (aw z) rfl)
 generalize z:sG i e Q=zV
 induction zV using Oc with
 |some Q'=>
  haveI vH:=(sO z)
  haveI h1:=vH.1
  haveI h2:=vH.2.1
  haveI h3:=vH.2.2
  refine Rw (if_pos h3) ?_;simp only[h2,hv h1]
 |none=>
  refine Rw (aw (lV z) ..) (Rw (cn ..) ?_);by_cases c:Q.length=l
  ·exact Rw (if_pos c) (Rw (if_pos (dN c.symm)) rfl)
  ·refine Rw (aw c) (Rw (aw (fun z=>c (xk hl z))) ?_);dsimp only;refine Rw kb ?_;rw[hv (Q':=Q++ [(i,e)]) fun j=>?_];rfl;refine Rw NP (Rw List.find?_singleton ?_);by_cases y:j=i
   ·rw[if_pos y,y,tR.mpr fun p hp=>by
     haveI:p.1≠i:=fun w=>(lV z) (bU.mpr ⟨p,hp,w⟩)
     simpa using this]
    simp
   ·rw[aw y,aw (by simpa using fun w=>y w.symm)];simp
theorem sP(h:l9 l log tab Q):vw (fO tab Q) []=vw tab Q:=by
 funext j;show(fO tab Q).getD j none=_
 delta fO
 by_cases c:j<3
 ·exact Rw fi (Rw jK (Rw (Bo c) rfl))
 ·refine Rw fi (Rw (wW (by simp;exact kl c)) ?_)
  delta vw
  rw[tR.mpr fun p hp=>by
   have:=(h.qe p hp).2
   haveI:p.1≠j:=fun e=>c (e▸this)
   simpa using this,fi,wW (Rw h.lt (kl c))]
theorem SE(tab)(hp:Q.Pairwise fun a b=>a.1≠b.1)(h:p∈Q):vw tab Q p.1=p.2:=by
 unfold vw;generalize e:Q.find? (fun q=>q.1==p.1)=zV
 induction zV using Oc with
 |none=>exact absurd (rl p.1) (by simpa using tR.mp e p h)
 |some q=>
  exact Rw (I6 hp q (Dh e) p h (fY.mp (BB (p:=fun(q:Nat×En)=>q.1==p.1) e))) rfl
def pG(V:Nat->En):Prop:=∀i j,i<3->j<3->∀p q,V i=some p->V j=some q->p.1=q.1->i=j
theorem wB(h:pG V):NK (ents V):=by
 haveI h01:=h 0 1 (by decide) (by decide)
 haveI h02:=h 0 2 (by decide) (by decide)
 haveI h12:=h 1 2 (by decide) (by decide)
 delta NK ents
 cases e0:V 0<;>cases e1:V 1<;>cases e2:V 2<;>simp[List.filterMap,e0,e1,e2]at h01 h02 h12⊢ <;>first|assumption|exact⟨⟨h01,h02⟩,h12⟩
theorem dA(h:bg V k=some i):i<3/\ ∃v,V i=some (k,v):=by
 refine⟨lU h,?_⟩;have:=BB (p:=fun i=>(w3 (V i)).1&&decide ((w3 (V i)).2.1=k)) h;generalize e:V i=zV
 induction zV using Oc with
 |none=>replace this:=e▸this;exact Nf rfl this
 |some p=>replace this:=e▸this;simp[w3]at this;exact⟨p.2,Rl (bR this) rfl⟩
theorem jW(h:bg V k=none)(hj:j<3)(e:V j=some p):p.1≠k:=by
 haveI:=tR.mp h j (jn.mpr hj)
 exact fun z=>(e▸this) (by simp[w3,z])
theorem q5(h:pG V)(hi:(bg V k).or (dQ V)=some i):pG (upd V i (some (k,v))):=by
 have ho:∀j,j<3->j≠i->∀p,V j=some p->p.1≠k:=by
  intro j hj hne p hp e;generalize z:bg V k=zV
  induction zV using Oc with
  |none=>exact jW z hj hp e
  |some i'=>
   rw[z]at hi;cases hi;obtain⟨h3,w,hw⟩:=dA z;exact hne (h j _ hj h3 p (k,w) hp hw e)
 intro a b ha hb p q hp hq e
 delta upd at hp hq
 by_cases ca:a=i
 ·by_cases cb:b=i
  ·exact Rw ca (Rw cb rfl)
  ·rw[if_pos ca]at hp;rw[aw cb]at hq;cases hp;exact absurd e.symm (ho b hb cb q hq)
 ·by_cases cb:b=i
  ·rw[aw ca]at hp;rw[if_pos cb]at hq;cases hq;exact absurd e (ho a ha ca p hp)
  ·rw[aw ca]at hp;rw[aw cb]at hq;exact h a b ha hb p q hp hq e
theorem C3(h:pG V)(i):pG (upd V i none):=by
 intro a b ha hb p q hp hq e
 delta upd at hp hq
 by_cases ca:a=i
 ·exact Ns (if_pos ca) hp
 ·by_cases cb:b=i
  ·exact Ns (if_pos cb) hq
  ·rw[aw ca]at hp;rw[aw cb]at hq;exact h a b ha hb p q hp hq e
theorem j8(hl:Q.length<=l)(h:gD l Q i e=some Q'):vw tab Q'=upd (vw tab Q) i e:=by
 haveI q:=Be (tab:=tab) hl i e (.int 0)
 simp only[h]at q
 delta m8 at q
 dsimp only at q;split at q
 ·exact(bz (fun x=>x.2.2) q).symm
 ·split at q
  ·exact nomatch(bz (fun x=>x.1) q)
  ·exact(bz (fun x=>x.2.2) q).symm
structure Du(l:Nat)(s:YS)(E:List En):Prop where
 ok:s.Ok l
 lg:s.log=E.map eb
 el:E.length=l
 ee:∀e∈E,mA e
 nk:pG s.V
def dOp(op:Op)(s:YS):Prop:=match op with
 |.wx=>False
 |.mB=>False
 |.sL=>s.Q= []
 |_=>True
def dY(l:Nat)(R:D)(E:List En)(s:YS)(as:List D)(ck tl:List (Nat×LV)):St:=Eu l (E.map bE) R as (s.Q.map (·.1)) s.wr s.V ck tl
theorem pH(V:Nat->En):cK V=jF (ents V):=by
 delta cK ents
 simp only[List.foldl];generalize V 0=zV;induction zV using Oc<;>cases V 1<;>cases V 2<;>rfl
theorem Mo(h:Du l s E)(n)(R)(op)(ho:dOp op s)(as)(has:as.length<=100)(ht:Tu tl ck):
  ∃E',Du l (ag l op s).2 E'/\Go n (bO op) (dY l R E s as ck tl) (dY l R E' (ag l op s).2 (as++ [(ag l op s).1.d])):=by
 refine Bc fun au=>?_;have nQ:=h.ok.l2;have zE:=h.ok.ql;have hT:(s.Q.map (·.1)).length<=l:=Rw (cn ..) zE;have kg:=az h.ok op
 induction op with
 |put k v=>
  haveI t2:=Sv n l nQ (E.map bE) R as has (s.Q.map (·.1)) hT s.wr s.V k v ht
  refine au ?_;rcases iy (inR k/\inR v)with c|c
  ·rw[show ag l (.put k v) s=_ from if_pos c]at kg⊢;rw[if_pos c]at t2
   delta iE at kg⊢
   generalize z:(bg s.V k).or (dQ s.V)=zV
   induction zV using Oc with
   |none=>rw[z]at t2;exact⟨E,h,t2⟩
   |some i=>
    rw[z]at t2 kg;dsimp only[Option.bind]at kg⊢;rw[show s.V=vw s.tab s.Q from rfl,Be zE]at t2;generalize y:gD l s.Q i (some (k,v))=zV
    induction zV using Oc with
    |none=>rw[y]at t2;exact⟨E,h,t2⟩
    |some Q'=>
     rw[y]at t2 kg;refine⟨E,⟨kg,h.lg,h.el,h.ee,?_⟩,t2⟩;show pG (vw s.tab Q');exact Rw (j8 zE y) (q5 h.nk z)
  ·rw[show ag l (.put k v) s=_ from aw c];rw[aw c]at t2;exact⟨E,h,t2⟩
 |del k=>
  have t2:=Sw n l nQ (E.map bE) R as has (s.Q.map (·.1)) hT s.wr s.V k ht;refine au ?_;rw[show ag l (.del k) s=pE (.bool (cQ l s.V s.Q k).1) s (cQ l s.V s.Q k).2 from rfl]at kg⊢
  delta cQ at kg⊢
  generalize z:bg s.V k=zV
  induction zV using Oc with
  |none=>rw[z]at t2;exact⟨E,h,t2⟩
  |some i=>
   rw[z]at t2 kg;dsimp only at t2 kg⊢;rw[show s.V=vw s.tab s.Q from rfl,Be zE]at t2;generalize y:gD l s.Q i none=zV
   induction zV using Oc with
   |none=>rw[y]at t2;exact⟨E,h,t2⟩
   |some Q'=>
    rw[y]at t2 kg;refine⟨E,⟨kg,h.lg,h.el,h.ee,?_⟩,t2⟩;show pG (vw s.tab Q');exact Rw (j8 zE y) (C3 h.nk i)
 |get k=>
  haveI t2:=Sy n l nQ (E.map bE) R as has (s.Q.map (·.1)) hT s.wr s.V k ht
  exact au ⟨E,h,t2⟩
 |bB=>
  haveI t2:=SD n l nQ (E.map bE) R as has (s.Q.map (·.1)) hT s.wr s.V (fun t ht=>by obtain⟨p,hp,rfl⟩:=bU.mp ht;exact(h.ok.qe p hp).2) (by simp only[cn,cn,h.el];exact zE) (by simp only[cn,h.el];exact aI nQ (Dn rfl)) ht
  haveI e1:((s.Q.map (·.1)).map fun i=>bE (s.V i))++(E.map bE).drop (s.Q.map (·.1)).length=(s.Q.map (·.2)++E.drop s.Q.length).map bE:=by
   simp only[kb,Oj,cn,qy,qy]
   congr 1
   exact Fl fun p hp=>bz bE (SE s.tab h.ok.pw hp)
  haveI e2:s.wr+2*((s.Q.map (·.1)).length:Int)+2=jG s.wr (2*s.Q.length+2):=by refine Rw (sJ ..) (Rw (cn ..) ?_);exact FT ..
  haveI e3:=sP h.ok
  simp only[e1,e2]at t2;refine au ?_;refine⟨s.Q.map (·.2)++E.drop s.Q.length,⟨kg,?_,?_,fun e he=>?_,?_⟩,?_⟩
  ·show cLog s.log s.Q=_;simp only[h.lg,kb,qy,Oj];rfl
  ·simp only[cZ,cn,tg];exact(Bp (h.el▸zE)).trans h.el
  ·rcases cG.mp he with he|he
   ·obtain⟨p,hp,rfl⟩:=bU.mp he;exact(h.ok.qe p hp).1
   ·exact h.ee e (Nu he)
  ·show pG (vw (fO s.tab s.Q) []);refine Rw e3 ?_;exact h.nk
  ·exact t2
 |wx=>exact ho.elim
 |mB=>exact ho.elim
 |sL=>
  haveI t2:=SA n l nQ (E.map bE) R as has (s.Q.map (·.1)) hT s.wr s.V ht
  haveI e3:(ag l .sL s).2.V=fun ω=>none:=by
   funext j;show vw [none,none,none] s.Q j=none;refine Rw ho ?_;rcases j with _|_|_|j<;>rfl
  haveI e2:s.wr+4=jG s.wr 4:=(sJ s.wr 4).symm
  rw[e2]at t2;refine au ?_;refine⟨E,⟨kg,h.lg,h.el,h.ee,?_⟩,?_⟩
  ·exact Rw e3 (fun ω ω ω ω ω ω z=>(nomatch z))
  ·delta dY
   exact Rw e3 t2
 |bG=>
  haveI t2:=Sz n l nQ (E.map bE) R as has (s.Q.map (·.1)) hT s.wr s.V (wB h.nk) ht
  rw[<-pH]at t2;exact au ⟨E,h,t2⟩
noncomputable def Je(l:Nat):List Op->YS->Prop
 | [],_=>True
 |op::r,s=>dOp op s/\Je l r (ag l op s).2
theorem SF(n l)(R):∀(ops:List Op) (s:YS) (E:List En),Du l s E->Je l ops s->∀(as:List D),as.length+ops.length<=100->∀{tl ck:List (Nat×LV)},Tu tl ck->
  ∃E',Du l (ay l ops s).2 E'/\ ∃gj WQ,aO (fv zD) (execs v8 (ae v8 n) (gz zD)) (ops.map bO) (dY l R E s as ck tl)= .ok .next (dY l R E' (ay l ops s).2 (as++(ay l ops s).1) WQ gj):=by
 intro zV
 induction zV with
 |nil=>
  exact @fun s E h ω as ω tl ck ht=>⟨E,h,tl,ck,Rw (rm ..) rfl⟩
 |cons op r zI=>
  exact @fun s E h ho as hl tl ck ht=>by
   simp only[List.length_cons]at hl;refine Bc fun au=>?_;obtain⟨E1,h1,tl1,ck1,z6⟩:=Mo h n R op ho.1 as (aI (fy ..) hl) ht;obtain⟨E2,h2,tl2,ck2,q2⟩:=zI _ E1 h1 ho.2 (as++ [(ag l op s).1.d]) (by refine Rw cZ (Rw List.length_singleton ?_);exact aI (dN (nr ..)) hl) z6.1;apply au;refine⟨E2,h2,tl2,ck2,z6.2 ?_⟩;rw[j9]at q2;exact q2
noncomputable def v3(V:Nat->En):List En:=[V 0,V 1,V 2]
theorem WR{s:YS}(h:s.Ok l):∀e∈v3 s.V,mA e:=by
 intro e he;rcases cL.mp he with rfl|he
 ·exact C1 h 0
 rcases cL.mp he with rfl|he
 ·exact C1 h 1
 exact Rw (dp.mp he) (C1 h 2)
theorem SG(n l)(tab E)(h:Du l ⟨E.map eb,tab,[],0⟩ E)(ops)(ho:Je l ops ⟨E.map eb,tab,[],0⟩)(hl:ops.length<=50):
  ∃E',Du l (ay l ops ⟨E.map eb,tab,[],0⟩).2 E'/\ae v8 (n+3) 124 [.dat (.int (l:Int)),.dat (.list (tab.map bE)),.dat (.list (E.map bE)),.dat (.list (ops.map bO))] []=
   .ok (.dat (.tuple [.list (ay l ops ⟨E.map eb,tab,[],0⟩).1,lr (E'++v3 (ay l ops ⟨E.map eb,tab,[],0⟩).2.V),.int (ay l ops ⟨E.map eb,tab,[],0⟩).2.wr])) []:=by
 refine Bc fun au=>?_;obtain⟨E',h',gj,WQ,q⟩:=SF (n+2) l (.list (ops.map bO)) ops ⟨E.map eb,tab,[],0⟩ E h ho [] (by simp;exact aI hl (Dn rfl)) .no;apply au;refine⟨E',h',?_⟩;clear hl ho;obtain⟨t0,t1,t2,rfl⟩:=mZ h.ok.lt
 haveI hi:=gm n (E'++v3 (ay l ops ⟨E.map eb,[t0,t1,t2],[],0⟩).2.V) (fun e he=>by
  rcases cG.mp he with he|he
  ·exact h'.ee e he
  ·exact WR h'.ok e he) (by have:=h'.el;have:=h'.ok.l2;simp[v3];lia)
 haveI hb:fE .add (.list (E'.map bE)) (.list (t3 (ay l ops ⟨E.map eb,[t0,t1,t2],[],0⟩).2.V))=some (.list ((E'++v3 (ay l ops ⟨E.map eb,[t0,t1,t2],[],0⟩).2.V).map bE)):=by
  show(if _ then _ else _)=_;rw[if_pos (by have:=h'.el;have:=h'.ok.l2;simp only[cn,t3,List.length_cons,List.length_nil,lim];lia),kb];rfl
 exact bI [258] [283032043] [121] (aL q (aV hb (aC hi aN))) (by kernel_rfl)
noncomputable def YS.up(s:YS)(m:Int):YS:={s with wr:=s.wr+m}
theorem Bf(w m)(n):jG (w+m) n=jG w n+m:=by rw[sJ,sJ];exact Int.add_right_comm ..
theorem jX(l)(op)(s)(m):ag l op (s.up m)=((ag l op s).1,(ag l op s).2.up m):=by
 induction op with
 |put k v=>
  by_cases c:inR k/\inR v
  ·refine Rw (show ag l (.put k v) (s.up m)=_ from if_pos c) (Rw (show ag l (.put k v) s=_ from if_pos c) ?_);show pE .none (s.up m) (iE l s.V s.Q k v)=_;generalize iE l s.V s.Q k v=zV;induction zV using Oc<;>rfl
  ·exact Rw (show ag l (.put k v) (s.up m)=_ from aw c) (Rw (show ag l (.put k v) s=_ from aw c) rfl)
 |del k=>
  show pE (.bool (cQ l s.V s.Q k).1) (s.up m) (cQ l s.V s.Q k).2=((pE (.bool (cQ l s.V s.Q k).1) s (cQ l s.V s.Q k).2).1,(pE (.bool (cQ l s.V s.Q k).1) s (cQ l s.V s.Q k).2).2.up m);generalize(cQ l s.V s.Q k).2=zV;induction zV using Oc<;>rfl
 |get k=>rfl
 |bB=>exact bz (fun w=>(s7.dat .none,(⟨cLog s.log s.Q,fO s.tab s.Q,[],w⟩:YS))) (Bf s.wr m _)
 |wx=>rfl
 |mB=>exact bz (fun w=>(s7.dat (.int 0),({s with Q:=[],wr:=w}:YS))) (Bf s.wr m 1)
 |sL=>exact bz (fun w=>(s7.dat .none,({s with tab:=[none,none,none],wr:=w}:YS))) (Bf s.wr m 4)
 |bG=>rfl
theorem wC(l)(m):∀(ops:List Op) (s:YS),ay l ops (s.up m)=((ay l ops s).1,(ay l ops s).2.up m):=by
 intro zV
 induction zV with
 |nil=>
  exact @fun s=>rfl
 |cons op r zI=>
  exact @fun s=>by
   show((ag l op (s.up m)).1.d::(ay l r (ag l op (s.up m)).2).1,(ay l r (ag l op (s.up m)).2).2)=_;refine Rw (jX l op s m) ?_;rw[zI];rfl
def dm(op:Op):Prop:=(∃k v,op= .put k v)\/ ∃k,op= .del k
theorem wD(l)(h:dm op)(s):∃Q,(ag l op s).2={s with Q:=Q}:=by
 rcases h with⟨k,v,rfl⟩|⟨k,rfl⟩
 ·by_cases c:inR k/\inR v
  ·refine Rw (show ag l (.put k v) s=_ from if_pos c) ?_;generalize iE l s.V s.Q k v=zV
   induction zV using Oc with
   |none=>exact⟨s.Q,rfl⟩
   |some Q=>exact⟨Q,rfl⟩
  ·exact Rw (show ag l (.put k v) s=_ from aw c) ⟨s.Q,rfl⟩
 ·show∃Q,(pE _ s (cQ l s.V s.Q k).2).2=_;generalize(cQ l s.V s.Q k).2=zV
  induction zV using Oc with
  |none=>exact⟨s.Q,rfl⟩
  |some Q=>exact⟨Q,rfl⟩
theorem Jf(l)(h:dm op)(hs:s.Q= []):(ag l .wx (ag l op s).2).2=s:=by
 obtain⟨Q,e⟩:=wD l h s;refine Rw e ?_;obtain⟨log,z3⟩:=s;subst hs;rfl
theorem Jg(l)(h:dm op)(hs:s.Q= []):(ag l .mB (ag l op s).2).2=s.up 1:=by
 obtain⟨Q,e⟩:=wD l h s;refine Rw e ?_;obtain⟨log,z3⟩:=s;subst hs;rfl
theorem SH(l)(hs:s.Q= []):(ag l .mB s).2=s.up 1:=by
 obtain⟨log,z1⟩:=s;subst hs;rfl
theorem Mp(l)(h:s.Ok l)(hs:s.Q= []):(ag l .wx (ag l .bB s).2).2=s.up 2:=by
 obtain⟨log,tab,Q0,wr⟩:=s;obtain rfl:=hs;obtain⟨t0,t1,t2,rfl⟩:=mZ h.lt;exact bz (fun w=>(⟨log,[t0,t1,t2],[],w⟩:YS)) (show wr+1+1=wr+2 by exact FT ..)
theorem aar(l)(h:dm op)(hs:s.Q= []):(ag l .sL (ag l .wx (ag l .sL (ag l op s).2).2).2).2=(ag l .sL s).2.up 4:=by
 obtain⟨Q,e⟩:=wD l h s;refine Rw e ?_;obtain⟨log,tab,Q0,wr⟩:=s;obtain rfl:=hs;exact bz (fun w=>(⟨log,[none,none,none],[],w⟩:YS)) (show wr+1+1+1+1+1+1+1+1=wr+1+1+1+1+4 by lia)
theorem m9(h:pG V)(hi:i<3)(e:V i=some (k,v)):bg V k=some i:=by
 generalize z:bg V k=zV
 induction zV using Oc with
 |none=>exact((jW z hi e) rfl).elim
 |some j=>
  obtain⟨h3,w,hw⟩:=dA z;exact bz _ (h j i h3 hi _ _ hw e rfl)
theorem zb:∀{Q:Qu},Q.find? (fun p=>p.1==i)=some (i,e)->sG i e Q=some Q
 | []=>@fun h=>(nomatch h)
 |p::Q=>@fun h=>by
  simp only[sG];dsimp only[List.find?_cons]at h;by_cases c:p.1=i
  ·rw[if_pos c];rw[fY.mpr c]at h;cases h;rfl
  ·rw[aw c];rw[pP c]at h;exact bz _ (zb h)
theorem Mq{Q:Qu}(h:gD l Q i e=some Q'):Q'.find? (fun p=>p.1==i)=some (i,e):=by
 delta gD at h
 generalize z:sG i e Q=zV
 induction zV using Oc with
 |some ys=>rw[z]at h;cases h;exact((sO z).1 i).trans (if_pos rfl)
 |none=>
  rw[z]at h;dsimp only at h;split at h
  ·cases h
  ·cases h
   rw[NP,tR.mpr fun p hp=>by
    haveI:p.1≠i:=fun w=>lV z (bU.mpr ⟨p,hp,w⟩)
    simpa using this]
   simp
theorem Jh(h:dm op)(hs:s.Ok l)(hn:pG s.V):(ag l op (ag l op s).2).2=(ag l op s).2:=by
 rcases h with⟨k,v,rfl⟩|⟨k,rfl⟩
 ·by_cases c:inR k/\inR v
  ·have e1 (s:YS):ag l (.put k v) s=pE .none s (iE l s.V s.Q k v):=if_pos c;simp only[e1,e1];rw[iE];generalize z:(bg s.V k).or (dQ s.V)=zV
   induction zV using Oc with
   |none=>show(pE .none s (Option.bind ((bg s.V k).or (dQ s.V)) _)).2=s;refine Rw z ?_;rfl
   |some i=>
    dsimp only[Option.bind];generalize y:gD l s.Q i (some (k,v))=zV
    induction zV using Oc with
    |none=>
     show(pE .none s (Option.bind ((bg s.V k).or (dQ s.V)) fun i=>gD l s.Q i (some (k,v)))).2=s;refine Rw z ?_;dsimp only[Option.bind];refine Rw y ?_;rfl
    |some Q'=>
     have i3:i<3:=by
      generalize w:bg s.V k=zV
      induction zV using Oc with
      |some j=>rw[w]at z;cases z;exact lU w
      |none=>exact qZ (w▸z)
     haveI hs':=m9 ((j8 hs.ql y)▸q5 hn z) i3 (v:=v) (by refine Rw (j8 hs.ql y) ?_;exact(if_pos rfl))
     show(pE .none {s with Q:=Q'} (Option.bind ((bg (vw s.tab Q') k).or (dQ (vw s.tab Q'))) fun i=>gD l Q' i (some (k,v)))).2={s with Q:=Q'};refine Rw hs' ?_;dsimp only[Option.or,Option.bind]
     delta gD
     exact Rw (zb (Mq y)) rfl
  ·have e1 (s:YS):ag l (.put k v) s=(.value,s):=aw c;simp only[e1,e1]
 ·have e1 (s:YS):ag l (.del k) s=pE (.bool (cQ l s.V s.Q k).1) s (cQ l s.V s.Q k).2:=rfl;simp only[e1,e1]
  delta cQ
  generalize z:bg s.V k=zV
  induction zV using Oc with
  |none=>exact Rw z rfl
  |some i=>
   dsimp only;generalize y:gD l s.Q i none=zV
   induction zV using Oc with
   |none=>show(pE _ s (match bg s.V k with|none=>(false,some s.Q)|some i=>(true,gD l s.Q i none)).2).2=s;refine Rw z ?_;dsimp only;refine Rw y ?_;rfl
   |some Q'=>
    obtain⟨i3,w,hw⟩:=dA z
    haveI hs':bg (vw s.tab Q') k=none:=by
     generalize x:bg (vw s.tab Q') k=zV
     induction zV using Oc with
     |none=>rfl
     |some j=>
      obtain⟨j3,u,hu⟩:=dA x;rw[(j8 hs.ql y)]at hu
      delta upd at hu
      by_cases cj:j=i
      ·exact Ns (if_pos cj) hu
      ·rw[aw cj]at hu;exact absurd (hn j i j3 i3 _ _ hu hw rfl) cj
    exact Rw hs' rfl
def has(V:Nat->En)(k v:Int):Prop:=∃i,i<3/\V i=some (k,v)
def dV(op:Op)(V:Nat->En):Nat->En:=match op with
 |.put k v=>(match(bg V k).or (dQ V)with|some i=>upd V i (some (k,v))|none=>V)
 |.del k=>(match bg V k with|some i=>upd V i none|none=>V)
 |_=>V
def ng(op:Op)(H:Int->Int->Prop):Int->Int->Prop:=fun k' v'=>match op with
 |.put k v=>(k'=k/\v'=v)\/(k'≠k/\H k' v')
 |.del k=>k'≠k/\H k' v'
 |_=>H k' v'
def gO(a:s7):Prop:=a≠ .full/\a≠ .value
theorem wF(h:dm op)(hs:s.Ok l)(hf:gO (ag l op s).1):(ag l op s).2.V=dV op s.V/\ ∀k v,op= .put k v->((bg s.V k).or (dQ s.V)).isSome=true:=by
 rcases h with⟨k,v,rfl⟩|⟨k,rfl⟩
 ·rcases iy (inR k/\inR v)with c|c
  ·rw[show ag l (.put k v) s=_ from if_pos c]at hf⊢
   delta iE at hf⊢
   delta dV
   dsimp only;generalize z:(bg s.V k).or (dQ s.V)=zV
   induction zV using Oc with
   |none=>exact absurd rfl (z▸hf).1
   |some i=>
    rw[z]at hf;dsimp only[Option.bind]at hf⊢;generalize y:gD l s.Q i (some (k,v))=zV
    induction zV using Oc with
    |none=>exact absurd rfl (y▸hf).1
    |some Q'=>exact⟨j8 hs.ql y,fun k' v' e=>by cases e;exact bz _ z⟩
  ·exact absurd rfl ((show ag l (.put k v) s=_ from aw c)▸hf).2
 ·refine⟨?_,fun ω ω e=>(nomatch e)⟩;rw[show ag l (.del k) s=pE (.bool (cQ l s.V s.Q k).1) s (cQ l s.V s.Q k).2 from rfl]at hf⊢
  delta cQ at hf⊢
  delta dV
  dsimp only;generalize z:bg s.V k=zV
  induction zV using Oc with
  |none=>rfl
  |some i=>
   replace hf:=z▸hf;dsimp only at hf⊢;generalize y:gD l s.Q i none=zV
   induction zV using Oc with
   |none=>exact absurd rfl (y▸hf).1
   |some Q'=>exact j8 hs.ql y
theorem C4(hi:i<3)(e)(k' v'):has (upd V i e) k' v'↔e=some (k',v')\/ ∃j,j<3/\j≠i/\V j=some (k',v'):=by
 delta has upd
 constructor
 ·rintro ⟨j,hj,h⟩
  by_cases c:j=i
  ·rw[if_pos c]at h;exact .inl h
  ·rw[aw c]at h;exact .inr ⟨j,hj,c,h⟩
 ·rintro (h|⟨j,hj,c,h⟩)
  ·exact⟨i,hi,Rw (if_pos rfl) h⟩
  ·exact⟨j,hj,Rw (aw c) h⟩
theorem SI(hn:pG V)(h:dm op)(hp:∀k v,op= .put k v->((bg V k).or (dQ V)).isSome=true)(k' v'):has (dV op V) k' v'↔ng op (has V) k' v':=by
 rcases h with⟨k,v,rfl⟩|⟨k,rfl⟩
 ·have hp:=hp k v rfl
  delta dV ng
  dsimp only;generalize z:(bg V k).or (dQ V)=zV
  induction zV using Oc with
  |none=>rw[z]at hp;exact nomatch hp
  |some i=>
   have i3:i<3:=by
    generalize w:bg V k=zV
    induction zV using Oc with
    |some j=>rw[w]at z;cases z;exact lU w
    |none=>exact qZ (w▸z)
   refine(C4 i3 ..).trans ?_;constructor
   ·rintro (h|⟨j,hj,c,h⟩)
    ·clear hp;cases h;exact .inl ⟨rfl,rfl⟩
    ·refine .inr ⟨fun e=>?_,j,hj,h⟩;clear hp;subst e;generalize w:bg V k'=zV
     induction zV using Oc with
     |some i'=>rw[w]at z;cases z;obtain⟨h3,u,hu⟩:=dA w;exact c (hn j _ hj h3 _ _ h hu rfl)
     |none=>exact jW w hj h rfl
   ·rintro (⟨rfl,rfl⟩|⟨c,j,hj,h⟩)
    ·exact .inl rfl
    ·refine .inr ⟨j,hj,fun e=>?_,h⟩;subst e;generalize w:bg V k=zV
     induction zV using Oc with
     |some i'=>rw[w]at z;cases z;obtain⟨h3,u,hu⟩:=dA w;rw[h]at hu;cases hu;exact c rfl
     |none=>
      rw[w]at z
      haveI:=BB (p:=fun i=>!(w3 (V i)).1) z
      rw[h]at this;exact nomatch this
 ·delta dV ng
  dsimp only;generalize z:bg V k=zV
  induction zV using Oc with
  |none=>
   dsimp only;exact⟨fun⟨j,hj,h⟩=>⟨jW z hj h,j,hj,h⟩,fun h=>h.2⟩
  |some i=>
   obtain⟨i3,u,hu⟩:=dA z;refine(C4 i3 ..).trans ?_;constructor
   ·rintro (h|⟨j,hj,c,h⟩)
    ·cases h
    ·exact⟨fun e=>c (hn j i hj i3 _ _ h hu e),j,hj,h⟩
   ·rintro ⟨c,j,hj,h⟩
    exact .inr ⟨j,hj,fun e=>by subst e;rw[h]at hu;cases hu;exact c rfl,h⟩
theorem q6(hn:pG V)(k):(∀v,has V k v->oz V k= .int v)/\((∀v,¬has V k v)->oz V k= .none):=by
 unfold oz;refine⟨fun v ⟨i,hi,h⟩=>?_,fun h=>?_⟩
 ·refine Rw (m9 hn hi h) ?_;dsimp only;refine Rw h ?_;rfl
 ·generalize z:bg V k=zV
  induction zV using Oc with
  |none=>rfl
  |some i=>obtain⟨i3,u,hu⟩:=dA z;exact absurd ⟨i,i3,hu⟩ (h u)
theorem get_eq(hn:pG V)(hn':pG V')(h:∀k v,has V k v↔has V' k v)(k):oz V k=oz V' k:=by
 by_cases c:∃v,has V k v
 ·letI v:=Ce c
  haveI hv:=(Cs c)
  exact Rw ((q6 hn k).1 v hv) (Rw ((q6 hn' k).1 v ((h k v).mp hv)) rfl)
 ·exact Rw ((q6 hn k).2 fun v hv=>c ⟨v,hv⟩) (Rw ((q6 hn' k).2 fun v hv=>c ⟨v,(h k v).mpr hv⟩) rfl)
theorem zc(V:Nat->En)(x):x∈ents V↔has V x.1 x.2:=by
 delta ents has
 rw[List.mem_filterMap];constructor
 ·rintro ⟨e,he,h⟩
  simp only[cL,eF,jr]at he;rcases he with rfl|rfl|rfl
  ·exact⟨0,by decide,h⟩
  ·exact⟨1,by decide,h⟩
  ·exact⟨2,by decide,h⟩
 ·rintro ⟨i,hi,h⟩
  revert h;exact Ga hi (fun h=>⟨V 0,.head _,h⟩) (fun h=>⟨V 1,.tail _ (.head _),h⟩) fun h=>⟨V 2,.tail _ (.tail _ (.head _)),h⟩
theorem Ji(hn:pG V)(hn':pG V')(h:∀k v,has V k v↔has V' k v):cK V=cK V':=by
 rw[pH,pH]
 exact I3 _ _ (sF _) (sF _) fun x=>by
  rw[pB,pB,lj _ (wB hn),lj _ (wB hn'),zc,zc];exact(h ..)
theorem fP(op)(h:∀k v,H k v↔H' k v)(k v):ng op H k v↔ng op H' k v:=by
 induction op<;>first|exact h _ _|exact and_congr ud (h _ _)|exact or_congr ud (and_congr ud (h _ _))
noncomputable def keyOf:Op->Int
 |.put k _=>k
 |.del k=>k
 |_=>0
theorem Jj(ha:dm a)(hq:dm q)(hk:keyOf a≠keyOf q)(H:Int->Int->Prop)(k v):ng q (ng a H) k v↔ng a (ng q H) k v:=by
 rcases ha with⟨k1,v1,rfl⟩|⟨k1,rfl⟩<;>rcases hq with⟨k2,v2,rfl⟩|⟨k2,rfl⟩<;>simp only[ng,keyOf]at hk⊢ <;>by_cases c1:k=k1<;>by_cases c2:k=k2<;>simp[c1,c2]<;>(subst_vars;first|exact absurd rfl hk|simp_all)
theorem Mr(ha:dm a)(hb:dm b)(H:Int->Int->Prop)(k v):ng a (ng b (ng a H)) k v↔ng a (ng b H) k v:=by
 rcases ha with⟨k1,v1,rfl⟩|⟨k1,rfl⟩<;>rcases hb with⟨k2,v2,rfl⟩|⟨k2,rfl⟩<;>simp only[ng]<;>by_cases c1:k=k1<;>by_cases c2:k=k2<;>simp[c1,c2]
abbrev jI(b:Op)(k:Int):List Op:=[b,.bB,.get k,.bG]
section
variable{l:Nat}{s:YS}(hs:s.Ok l)(hq:s.Q= []){a:Op}(ha:dm a)(k:Int)
theorem gn(op)(r)(s):ay l (op::r) s=((ag l op s).1.d::(ay l r (ag l op s).2).1,(ay l r (ag l op s).2).2):=rfl
include hq ha
theorem wd0:ay l (a:: .wx::jI b k) s=((ag l a s).1.d:: .none::(ay l (jI b k) s).1,(ay l (jI b k) s).2):=by
 exact Rw (gn ..) (Rw (gn ..) (Rw (Jf l ha hq ..) rfl))
theorem wd1:ay l (a:: .mB::jI b k) s=((ag l a s).1.d:: .int 0::(ay l (jI b k) s).1,(ay l (jI b k) s).2.up 1):=by
 rw[gn,gn,Jg l ha hq,wC];rfl
omit hq ha in
theorem wd2:ay l (a:: .bB:: .mB::jI b k) s=((ag l a s).1.d:: .none:: .int 0::(ay l (jI b k) (ag l .bB (ag l a s).2).2).1,(ay l (a:: .bB::jI b k) s).2.up 1):=by
 exact Rw (gn ..) (Rw (gn ..) (Rw (gn ..) (Rw (SH l rfl ..) (Rw (wC ..) rfl))))
omit hq ha in
include hs in
theorem wd3:ay l (a:: .bB:: .bB:: .wx::jI b k) s=((ag l a s).1.d:: .none:: .none:: .none::(ay l (jI b k) (ag l .bB (ag l a s).2).2).1,(ay l (a:: .bB::jI b k) s).2.up 2):=by
 simp only[gn,gn,gn,gn,Mp l (az (az hs a) .bB) rfl,wC];rfl
include hs in
omit hq in
theorem wd4(hn:pG s.V):ay l (a::a::jI b k) s=((ag l a s).1.d::(ag l a (ag l a s).2).1.d::(ay l (jI b k) (ag l a s).2).1,(ay l (a::jI b k) s).2):=by
 rw[gn,gn,Jh ha hs hn];rfl
theorem wd5:ay l (a:: .sL:: .wx:: .sL::jI b k) s=((ag l a s).1.d:: .none:: .none:: .none::(ay l (jI b k) (ag l .sL s).2).1,(ay l (.sL::jI b k) s).2.up 4):=by
 simp only[gn,gn,gn,gn,aar l ha hq,wC];rfl
end
theorem lW(hl:1<=l)(i)(e:En):gD l [] i e=some [(i,e)]:=by
 exact(aw (by simp;exact pQ hl))
theorem Ms(hl:1<=l)(hs:s.Ok l)(hn:pG s.V)(hq:s.Q= [])(c:inR k/\inR v)(v1):ag l (.put k v) (ag l (.put k v1) s).2=ag l (.put k v) s:=by
 by_cases c1:inR k/\inR v1
 ·have e1 (s:YS):ag l (.put k v) s=pE .none s (iE l s.V s.Q k v):=if_pos c
  haveI e2:ag l (.put k v1) s=pE .none s (iE l s.V s.Q k v1):=if_pos c1
  refine Rw e2 (Rw (e1 s) ?_);unfold iE;generalize z:(bg s.V k).or (dQ s.V)=zV
  induction zV using Oc with
  |none=>show ag l (.put k v) s=_;rw[e1];unfold iE;rw[z]
  |some i=>
   dsimp only[Option.bind];rw[hq,lW hl,lW hl]
   haveI i3:i<3:=by
    generalize w:bg s.V k=zV
    induction zV using Oc with
    |some j=>rw[w]at z;cases z;exact lU w
    |none=>exact qZ (w▸z)
   rw[e1];show pE .none {s with Q:=[(i,some (k,v1))]} (Option.bind ((bg (vw s.tab [(i,some (k,v1))]) k).or (dQ (vw s.tab [(i,some (k,v1))]))) fun i'=>gD l [(i,some (k,v1))] i' (some (k,v)))=_;refine Rw (m9 ((j8 hs.ql (Rw hq (lW hl i _)))▸q5 hn z) i3 (v:=v1) (by rw[(j8 hs.ql (Rw hq (lW hl i _)))];unfold upd;rw[if_pos rfl])) ?_;dsimp only[Option.or,Option.bind];dsimp only[gD,sG];exact Rw (if_pos rfl) rfl
 ·exact Rw (show ag l (.put k v1) s=_ from aw c1) rfl
theorem wd6(hl:1<=l)(hs:s.Ok l)(hn:pG s.V)(hq:s.Q= [])(c:inR k/\inR v)(v1):ay l (.put k v1::jI (.put k v) k) s=((ag l (.put k v1) s).1.d::(ay l (jI (.put k v) k) s).1,(ay l (jI (.put k v) k) s).2):=by
 show((ag l (.put k v1) s).1.d::((ag l (.put k v) (ag l (.put k v1) s).2).1.d::(ay l [.bB,.get k,.bG] (ag l (.put k v) (ag l (.put k v1) s).2).2).1),(ay l [.bB,.get k,.bG] (ag l (.put k v) (ag l (.put k v1) s).2).2).2)=_;refine Rw (Ms hl hs hn hq c v1) ?_;rfl
theorem aY(h:dm op)(hs:s.Ok l)(hn:pG s.V)(hf:gO (ag l op s).1):pG (ag l op s).2.V/\(ag l op s).2.V=dV op s.V/\ ∀k v,has (ag l op s).2.V k v↔ng op (has s.V) k v:=by
 refine⟨?_,(wF h hs hf).1,fun k v=>Rw (wF h hs hf).1 (SI hn h (wF h hs hf).2 k v)⟩;refine Rw ((wF h hs hf).1) ?_;clear hs hf;rcases h with⟨k,v,rfl⟩|⟨k,rfl⟩
 ·unfold dV;dsimp only;generalize z:(bg s.V k).or (dQ s.V)=zV
  induction zV using Oc with
  |none=>exact hn
  |some i=>exact q5 hn z
 ·unfold dV;dsimp only;generalize z:bg s.V k=zV
  induction zV using Oc with
  |none=>exact hn
  |some i=>exact C3 hn i
theorem wG(h:s.Ok l)(h':s'.Ok l)(hn:pG s.V)(hn':pG s'.V)(he:∀k v,has s.V k v↔has s'.V k v)(k):
  (ay l [.bB,.get k,.bG] s).1=(ay l [.bB,.get k,.bG] s').1:=by
 haveI e1:(ag l .bB s).2.V=s.V:=sP h
 haveI e2:(ag l .bB s').2.V=s'.V:=sP h'
 show [PyData.none,oz (ag l .bB s).2.V k,.list (bG (cK (ag l .bB s).2.V))]= [PyData.none,oz (ag l .bB s').2.V k,.list (bG (cK (ag l .bB s').2.V))];rw[e1,e2,get_eq hn hn' he k,Ji hn hn' he]
section
variable{l:Nat}{s:YS}(hs:s.Ok l)(hn:pG s.V){a b:Op}(ha:dm a)(hb:dm b)(k:Int)
include hs hn ha hb
theorem wd7(hk:keyOf a≠keyOf b)(f1:gO (ag l a s).1)(f2:gO (ag l b (ag l a s).2).1)(f3:gO (ag l b s).1)(f4:gO (ag l a (ag l b s).2).1):
  (ay l [.bB,.get k,.bG] (ag l b (ag l a s).2).2).1=(ay l [.bB,.get k,.bG] (ag l a (ag l b s).2).2).1:=by
 refine Bc fun au=>?_;have e1:=(aY ha hs hn f1).2.2
 haveI zX:=(aY hb (az hs a) ((aY ha hs hn f1).1) f2)
 haveI n2:=zX.1
 haveI e2:=zX.2.2
 have e3:=(aY hb hs hn f3).2.2
 haveI Vf:=(aY ha (az hs b) ((aY hb hs hn f3).1) f4)
 haveI n4:=Vf.1
 haveI e4:=Vf.2.2
 exact au (wG (az (az hs a) b) (az (az hs b) a) n2 n4 (fun k v=>by rw[e2,e4,fP b e1,fP a e3];exact Jj ha hb hk _ k v) k)
theorem wd8(f1:gO (ag l a s).1)(f2:gO (ag l b (ag l a s).2).1)(f3:gO (ag l a (ag l b (ag l a s).2).2).1)(f4:gO (ag l b s).1)(f5:gO (ag l a (ag l b s).2).1):
  (ay l [.bB,.get k,.bG] (ag l a (ag l b (ag l a s).2).2).2).1=(ay l [.bB,.get k,.bG] (ag l a (ag l b s).2).2).1:=by
 have e1:=(aY ha hs hn f1).2.2
 haveI zX:=(aY hb (az hs a) ((aY ha hs hn f1).1) f2)
 haveI n2:=zX.1
 haveI e2:=zX.2.2
 haveI JZ:=(aY ha (az (az hs a) b) n2 f3)
 haveI n3:=JZ.1
 haveI e3:=JZ.2.2
 have e4:=(aY hb hs hn f4).2.2
 haveI Vj:=(aY ha (az hs b) ((aY hb hs hn f4).1) f5)
 haveI n5:=Vj.1
 haveI e5:=Vj.2.2
 exact wG (az (az (az hs a) b) a) (az (az hs b) a) n3 n5 (fun k v=>by
  rw[e3,e5,fP a e4,fP a e2]
  exact(fP a (fun k v=>fP b e1 k v) k v).trans (Mr ha hb _ k v)) k
theorem aas(f1:gO (ag l a s).1)(f2:gO (ag l b (ag l a s).2).1)(f3:gO (ag l b (ag l .bB (ag l a s).2).2).1):
  (ag l b (ag l .bB (ag l a s).2).2).2.V=(ag l b (ag l a s).2).2.V/\(ay l [.bB,.get k,.bG] (ag l b (ag l a s).2).2).1=(ay l [.bB,.get k,.bG] (ag l b (ag l .bB (ag l a s).2).2).2).1:=by
 refine Bc fun au=>?_;have n1:=(aY ha hs hn f1).1
 haveI n2:=(aY hb (az hs a) n1 f2).1
 haveI d2:=(aY hb (az hs a) n1 f2).2.1
 apply au;have ec:(ag l .bB (ag l a s).2).2.V=(ag l a s).2.V:=sP (az hs a)
 haveI d3:=(aY hb (az (az hs a) .bB) (Rw ec n1) f3).2.1
 have e:(ag l b (ag l .bB (ag l a s).2).2).2.V=(ag l b (ag l a s).2).2.V:=Rw d3 (Rw d2 (Rw ec rfl));exact⟨e,wG (az (az hs a) b) (az (az (az hs a) .bB) b) n2 ((aY hb (az (az hs a) .bB) (Rw ec n1) f3).1) (fun k v=>by refine Rw e ?_;rfl) k⟩
theorem wd9(he:∀(H:Int->Int->Prop) k v,ng b (ng a H) k v↔ng b H k v)(f1:gO (ag l a s).1)(f2:gO (ag l b (ag l a s).2).1)(f3:gO (ag l b s).1):
  (ay l [.bB,.get k,.bG] (ag l b (ag l a s).2).2).1=(ay l [.bB,.get k,.bG] (ag l b s).2).1:=by
 refine Bc fun au=>?_;have e1:=(aY ha hs hn f1).2.2
 haveI zX:=(aY hb (az hs a) ((aY ha hs hn f1).1) f2)
 haveI n2:=zX.1
 haveI e2:=zX.2.2
 haveI e3:=(aY hb hs hn f3).2.2
 exact au (wG (az (az hs a) b) (az hs b) n2 ((aY hb hs hn f3).1) (fun k v=>by rw[e2,e3,fP b e1];exact he _ k v) k)
end
theorem SJ(k v)(H:Int->Int->Prop)(k' v'):ng (.put k v) (ng (.del k) H) k' v'↔ng (.put k v) H k' v':=by
 simp only[ng];by_cases c:k'=k<;>simp[c]
theorem SM(k v)(H:Int->Int->Prop)(k' v'):ng (.del k) (ng (.put k v) H) k' v'↔ng (.del k) H k' v':=by
 simp only[ng];by_cases c:k'=k<;>simp[c]
theorem Ex(n):ae v8 (n+5) 29 [.dat (.int 3),.dat (.int 1)] []= .ok (.dat (lr [none,none,none,none])) (lQ (aJ [zs 16] [none,none,none] (-1) (jG 0 4)) 1 [] false):=by kernel_rfl
theorem Ey(n):ae v8 (n+5) 29 [.dat (.int 3),.dat (.int 2)] []= .ok (.dat (lr [none,none,none,none,none])) (lQ (aJ [zs 16,zs 16] [none,none,none] (-1) (jG 0 4)) 2 [] false):=by kernel_rfl
def SN(s:YS):D:=.list ((aJ s.log s.tab (-1) s.wr).bl.map dl)
theorem Ez(h:l9 l s.log s.tab [])(n):ae v8 (n+5) 119 [.dat (SN s),.dat (.int 3),.dat (.int (l:Int))] []= .ok (.dat (.list (bG (cK (vw s.tab []))))) (lQ (aJ s.log s.tab (-1) (jG 0 1)) l [] false):=by
 haveI e3:=wu h n 0 false
 haveI e4:=qY h n (-1) (jG 0 1) false
 exact bI [] [] [1000,1004,1008,1018] (aC (sE (n+3) (aJ s.log s.tab (-1) s.wr).bl (-1) (h.dn (-1) s.wr).2 (h.dn (-1) s.wr).1 []) (aC (sC (n+3) 3 l (cI (aJ s.log s.tab (-1) 0))) (aC e3 (aC e4 aN)))) (by kernel_rfl)
theorem oA(h:s.Ok l)(n)(k v)(hf:gO (ag l (.put k v) s).1):ae v8 (n+5) 1014 [.ref 1,.dat (.int k),.dat (.int v)] (s.ob l)= .ok (.dat .none) ((ag l (.put k v) s).2.ob l):=by
 by_cases c:inR k/\inR v
 ·rw[show ag l (.put k v) s=_ from if_pos c]at hf⊢;apply(I8 h n (-1) s.wr false k v c.1 c.2).trans;show I7 _ _ _ _ _ (iE l s.V s.Q k v)=_;generalize z:iE l s.V s.Q k v=zV
  induction zV using Oc with
  |none=>exact absurd rfl (z▸hf).1
  |some Q=>rfl
 ·exact absurd rfl ((show ag l (.put k v) s=_ from aw c)▸hf).2
theorem oB(h:s.Ok l)(n)(k)(hf:gO (ag l (.del k) s).1):ae v8 (n+5) 1015 [.ref 1,.dat (.int k)] (s.ob l)= .ok (.dat (.bool (cQ l s.V s.Q k).1)) ((ag l (.del k) s).2.ob l):=by
 rw[show ag l (.del k) s=pE (.bool (cQ l s.V s.Q k).1) s (cQ l s.V s.Q k).2 from rfl]at hf⊢;apply(Ja h n (-1) s.wr false k).trans;show I7 _ _ _ _ _ (cQ l s.V s.Q k).2=_;generalize z:(cQ l s.V s.Q k).2=zV
 induction zV using Oc with
 |none=>rw[z]at hf;exact absurd rfl hf.1
 |some Q=>rfl
theorem Mt(h:s.Ok l)(hq:s.Q= [])(hw:s.wr=0)(n)(ha:dm a)(hb:dm b)(f1:gO (ag l a s).1)(f2:gO (ag l b (ag l .bB (ag l a s).2).2).1):
  ∃os,ae v8 (n+6) 118 [.dat (SN s),.dat (.list [.list [bO a],.list [bO b]]),.dat (.int 3),.dat (.int (l:Int)),.dat (.int (-1))] []= .ok (.dat (.tuple [SN (ag l .bB (ag l b (ag l .bB (ag l a s).2).2).2).2,.int 2])) os:=by
 obtain⟨log,tab,Q,wr⟩:=s;subst hq hw;have e1:=sE (n+4) (aJ log tab (-1) 0).bl (-1) (h.dn (-1) 0).2 (h.dn (-1) 0).1 []
 haveI e2:=sC (n+4) 3 l (cI (aJ log tab (-1) 0))
 haveI e3:=wu h (n+1) 0 false
 haveI o1:YS.Ok l (YS.up ⟨log,tab,[],0⟩ 1):=h
 have o2:=az o1 a;have o3:=az o2 .bB;have g1:gO (ag l a (YS.up ⟨log,tab,[],0⟩ 1)).1:=Rw (jX l a ⟨log,tab,[],0⟩ 1) f1;have u2:(ag l .bB (ag l a (YS.up ⟨log,tab,[],0⟩ 1)).2).2=(ag l .bB (ag l a ⟨log,tab,[],0⟩).2).2.up 1:=Rw (jX l a ⟨log,tab,[],0⟩ 1) (Rw (jX ..) rfl);have g2:gO (ag l b (ag l .bB (ag l a (YS.up ⟨log,tab,[],0⟩ 1)).2).2).1:=Rw u2 (Rw (jX ..) f2)
 haveI c1:=oy o2 (n+1) (ag l a (YS.up ⟨log,tab,[],0⟩ 1)).2.wr false
 haveI c2:=oy (az o3 b) (n+1) (ag l b (ag l .bB (ag l a (YS.up ⟨log,tab,[],0⟩ 1)).2).2).2.wr false
 have ei:=y6 (n+4) _ ((az (az o3 b) .bB).dn (-1) (ag l .bB (ag l b (ag l .bB (ag l a (YS.up ⟨log,tab,[],0⟩ 1)).2).2).2).2.wr) [aZ 3 l (.own []) false]
 have hi:SN (ag l .bB (ag l b (ag l .bB (ag l a ⟨log,tab,[],0⟩).2).2).2).2=SN (ag l .bB (ag l b (ag l .bB (ag l a (YS.up ⟨log,tab,[],0⟩ 1)).2).2).2).2:=by
  exact Rw u2 (Rw (jX l b ..) (Rw (jX l .bB ..) rfl))
 refine Rw hi ⟨(ag l .bB (ag l b (ag l .bB (ag l a (YS.up ⟨log,tab,[],0⟩ 1)).2).2).2).2.ob l,?_⟩;rcases ha with⟨k,v,rfl⟩|⟨k,rfl⟩<;>rcases hb with⟨k2,v2,rfl⟩|⟨k2,rfl⟩
 ·exact bI [] [] [1000,1004,1008,1014,1015,1017,1003] (aC e1 (aC e2 (aC e3 (aC (oA o1 n k v g1) (aC c1 (aC (oA o3 n k2 v2 g2) (aC c2 (aC ei aN)))))))) (by kernel_rfl)
 ·exact bI [] [] [1000,1004,1008,1014,1015,1017,1003] (aC e1 (aC e2 (aC e3 (aC (oA o1 n k v g1) (aC c1 (aC (oB o3 n k2 g2) (aC c2 (aC ei aN)))))))) (by kernel_rfl)
 ·exact bI [] [] [1000,1004,1008,1014,1015,1017,1003] (aC e1 (aC e2 (aC e3 (aC (oB o1 n k g1) (aC c1 (aC (oA o3 n k2 v2 g2) (aC c2 (aC ei aN)))))))) (by kernel_rfl)
 ·exact bI [] [] [1000,1004,1008,1014,1015,1017,1003] (aC e1 (aC e2 (aC e3 (aC (oB o1 n k g1) (aC c1 (aC (oB o3 n k2 g2) (aC c2 (aC ei aN)))))))) (by kernel_rfl)
structure HS where
 h:List Int
 log:List (List Int)
 tab:List En
def HS.gS(s:HS)(b w:Int):iC:=⟨s.h::(s.log++s.tab.map eb),b,w⟩
inductive Wr where
 |hd(x:List Int)
 |lg(j:Nat)(x:List Int)
 |hm(i:Nat)(e:En)
noncomputable def Wr.ctorIdx(x:Wr):Nat:=Wr.casesOn x (fun ω=>0) (fun ω ω=>1) (fun ω ω=>2)
def Wr.w(l:Nat):Wr->Nat×List Int
 |.hd x=>(0,x)
 |.lg j x=>(1+j,x)
 |.hm i e=>(1+l+i,eb e)
def Wr.ok(l:Nat):Wr->Prop
 |.hd _=>True
 |.lg j _=>j<l
 |.hm i _=>i<3
noncomputable def HS.put(s:HS):Wr->HS
 |.hd x=>{s with h:=x}
 |.lg j x=>{s with log:=s.log.set j x}
 |.hm i e=>{s with tab:=s.tab.set i e}
noncomputable def dw:List Wr->HS->Nat->HS×Bool×Nat
 | [],s,_=>(s,true,0)
 |_::_,s,0=>(s,false,0)
 |w::r,s,b+1=>((dw r (s.put w) b).1,(dw r (s.put w) b).2.1,(dw r (s.put w) b).2.2+1)
theorem C5{s:HS}(hl:s.log.length=l)(ht:s.tab.length=3)(hw:w.ok l)(b v):(s.gS b v).put (w.w l).1 (w.w l).2=(s.put w).gS (if b>0 then b-1 else b) (v+1):=by
 obtain⟨h,log,tab⟩:=s
 induction w with
 |hd x=>rfl
 |lg j x=>
  show(⟨(h::(log++tab.map eb)).set (1+j) x,_,_⟩:iC)=⟨h::(log.set j x++tab.map eb),_,_⟩;rw[ro 1 j,NJ,List.set_append_left _ _ (hl▸hw)];rfl
 |hm i e=>
  show(⟨(h::(log++tab.map eb)).set (1+l+i) (eb e),_,_⟩:iC)=⟨h::(log++(tab.set i e).map eb),_,_⟩;refine Rw (show 1+l+i=(l+i)+1 by lia) ?_;rw[NJ,List.set_append_right _ _ (by lia),hl,E9,BL];rfl
theorem lu{s:HS}(hl:s.log.length=l)(ht:s.tab.length=3)(w):(s.put w).log.length=l/\(s.put w).tab.length=3:=by
 induction w<;>simp[HS.put,hl,ht]
theorem C6:∀(ws:List Wr) (hw:∀w∈ws,w.ok l) (s:HS),s.log.length=l->s.tab.length=3->∀(b:Nat) (v:Int),cX (ws.map (Wr.w l)) (s.gS (b:Int) v)=((dw ws s b).1.gS ((b:Int)-((dw ws s b).2.2:Int)) (v+((dw ws s b).2.2:Int)),(dw ws s b).2.1):=by
 intro zV
 induction zV with
 |nil=>
  exact @fun ω s ω ω b v=>Rw (show((b:Int)-((0:Nat):Int))=b by exact rfl) (Rw (show(v+((0:Nat):Int))=v by lia) rfl)
 |cons w r zI=>
  exact @fun hw s hl ht b v=>by
   refine Rw c7 ?_;rw[fM]
   induction b using Nat.casesAuxOn with
   |zero=>refine Rw (if_pos (show(s.gS ((0:Nat):Int) v).cT=0 from rfl)) ?_;exact Rw (show(v+((0:Nat):Int))=v by lia) rfl
   |succ b=>
    refine Rw (aw (show¬(s.gS ((b+1:Nat):Int) v).cT=0 from(show¬((b+1:Nat):Int)=0 by lia)) ..) (Rw (C5 hl ht (hw w (.head _)) ..) (Rw (if_pos (by lia) ..) (Rw (show((b+1:Nat):Int)-1=(b:Int)by lia) ?_)));rw[zI (fun x hx=>hw x (.tail _ hx)) (s.put w) (lu hl ht w).1 (lu hl ht w).2 b (v+1)];show(HS.gS _ _ _,_)=((dw r (s.put w) b).1.gS (((b+1:Nat):Int)-(((dw r (s.put w) b).2.2+1:Nat):Int)) (v+(((dw r (s.put w) b).2.2+1:Nat):Int)),_);simp only[show((b+1:Nat):Int)-(((dw r (s.put w) b).2.2+1:Nat):Int)=(b:Int)-((dw r (s.put w) b).2.2:Int)by lia,show v+(((dw r (s.put w) b).2.2+1:Nat):Int)=v+1+((dw r (s.put w) b).2.2:Int)by lia];rfl
theorem ze:∀(ws:List Wr) (hw:∀w∈ws,w.ok l) (s:HS),s.log.length=l->s.tab.length=3->∀(v:Int),cX (ws.map (Wr.w l)) (s.gS (-1) v)=((ws.foldl HS.put s).gS (-1) (v+(ws.length:Int)),true):=by
 intro zV
 induction zV with
 |nil=>
  exact @fun ω s ω ω v=>Rw (show(v+((0:Nat):Int))=v by lia) rfl
 |cons w r zI=>
  exact @fun hw s hl ht v=>by
   rw[c7,fM,aw (show¬(s.gS (-1) v).cT=0 from(show¬(-1:Int)=0 by decide)),C5 hl ht (hw w (.head _)),aw (by decide),zI (fun x hx=>hw x (.tail _ hx)) (s.put w) (lu hl ht w).1 (lu hl ht w).2 (v+1)];exact Rw (show v+((r.length+1:Nat):Int)=v+1+(r.length:Int)by lia) rfl
def tN(Q:Qu):List Wr:=Q.map (fun p=>.hm p.1 p.2)++ [.hd (zs 16)]
def eg(Q:Qu):List Wr:=(List.range Q.length).map (fun j=>.lg j (eb (Q.getD j (0,none)).2))++ [.hd (du (Q.map (·.1)))]++tN Q
theorem Mu(l)(Q)(h:Q.length<=2):uW (qb Q) l=(eg Q).map (Wr.w l):=by
 rcases Q with _|⟨⟨i,e⟩,_|⟨⟨j,f⟩,_|⟨_,_⟩⟩⟩
 ·rfl
 ·rfl
 ·rfl
 ·simp at h
def WS(d:iC)(l:Nat)(s:YS):List bt:=lQ d l s.Q false
theorem uX(h:s.Ok l)(n)(cT)(hd:dm op):∃k x y,bO op= .tuple [.str k,x,y]/\ae v8 (n+6) 125 [.ref 1,.dat (.str k),.dat x,.dat y] (WS (aJ s.log s.tab cT s.wr) l s)=(ag l op s).1.c (WS (aJ s.log s.tab cT s.wr) l (ag l op s).2):=by
 rcases hd with⟨k,v,rfl⟩|⟨k,rfl⟩
 ·refine⟨_,_,_,rfl,?_⟩;by_cases c:inR k/\inR v
  ·haveI e:=I8 h n cT s.wr false k v c.1 c.2
   refine Rw (show ag l (.put k v) s=pE .none s (iE l s.V s.Q k v)from if_pos c) ?_;change _=I7 _ _ _ _ _ (iE l s.V s.Q k v)at e;generalize z:iE l s.V s.Q k v=zV
   induction zV using Oc with
   |none=>exact bI [] [] [1014] (aC (z▸e) aN) (by kernel_rfl)
   |some Q'=>rw[z]at e;exact bI [] [] [1014] (aC e aN) (by kernel_rfl)
  ·have e:=CQ (n+4) (WS (aJ s.log s.tab cT s.wr) l s) k v c;exact Rw (show ag l (.put k v) s=_ from aw c) (bI [] [] [1014] (aC e aN) (by kernel_rfl))
 ·refine⟨_,_,_,rfl,?_⟩
  haveI e:=Ja h n cT s.wr false k
  refine Rw (show ag l (.del k) s=pE (.bool (cQ l s.V s.Q k).1) s (cQ l s.V s.Q k).2 from rfl) ?_;change _=I7 _ _ _ _ (.bool (cQ l s.V s.Q k).1) (cQ l s.V s.Q k).2 at e;generalize z:(cQ l s.V s.Q k).2=zV
  induction zV using Oc with
  |none=>rw[z]at e;exact bI [] [] [1015] (aC e aN) (by kernel_rfl)
  |some Q'=>simp only[z]at e;exact bI [] [] [1015] (aC e aN) (by kernel_rfl)
def j5(s:YS):HS:=⟨zs 16,s.log,s.tab⟩
theorem wH{s:YS}(h:s.Ok l):∀w∈eg s.Q,w.ok l:=by
 intro w hw
 delta eg tN at hw
 simp only[cG,bU,jn,cL,eF,jr]at hw;refine Bc fun au=>?_;rcases hw with(⟨j,hj,rfl⟩|rfl)|(⟨p,hp,rfl⟩|rfl)
 ·apply au;exact ve hj h.ql
 ·apply au;trivial
 ·apply au;exact(h.qe p hp).2
 ·apply au;trivial
theorem oD{s:YS}(h:s.Ok l):∀w∈(eg s.Q).map (Wr.w l),w.2.length<=100:=by
 intro w hw;obtain⟨u,hu,rfl⟩:=bU.mp hw
 delta eg tN at hu
 simp only[cG,bU,jn,cL,eF,jr]at hu;clear hw;rcases hu with(⟨j,hj,rfl⟩|rfl)|(⟨p,hp,rfl⟩|rfl)
 ·refine Rw (cJ ..) ?_;decide
 ·exact gk _ (Rw (cn ..) (aI h.ql h.l2))
 ·refine Rw (cJ ..) ?_;decide
 ·exact(by decide:16<=100)
theorem SO{s:YS}(h:s.Ok l):(qb s.Q).length<=l/\(qb s.Q).length<=2/\(∀j,(bj (qb s.Q) j).length<=100)/\ ∀t∈(qb s.Q).map Prod.fst,t<3:=by
 refine⟨Rw (cn _) h.ql,Rw (cn _) (aI h.ql h.l2),fun j=>?_,fun t ht=>?_⟩
 ·unfold bj;refine Rw (fi) ?_;generalize e:(qb s.Q)[j]?=zV
  induction zV using Oc with
  |none=>exact ft _
  |some p=>
   obtain⟨q,_,rfl⟩:=bU.mp (zK e);refine Rw (cJ ..) ?_;decide
 ·obtain⟨p,hp,rfl⟩:=bU.mp ht;obtain⟨q,hq,rfl⟩:=bU.mp hp;exact(h.qe q hq).2
theorem C7{s:YS}(h:s.Ok l)(b w):(aJ s.log s.tab b w).bl.length=4+l:=by
 haveI h1:=h.ll;have h2:=h.lt
 simp only[aJ,List.length_cons,cZ,cn];exact La h1 h2
theorem Mv(h:s.Ok l)(hw:s.wr=0)(n p:Nat):ae v8 (n+4) 1017 [.ref 1] (WS (aJ s.log s.tab (p:Int) s.wr) l s)=
  if(dw (eg s.Q) (j5 s) p).2.1 then .ok (.dat .none) [cI ((dw (eg s.Q) (j5 s) p).1.gS ((p:Int)-((dw (eg s.Q) (j5 s) p).2.2:Int)) ((dw (eg s.Q) (j5 s) p).2.2:Int)),aZ 3 l (.own []) false]
  else .exc 11 [cI ((dw (eg s.Q) (j5 s) p).1.gS ((p:Int)-((dw (eg s.Q) (j5 s) p).2.2:Int)) ((dw (eg s.Q) (j5 s) p).2.2:Int)),aZ 3 l (.own (gC (qb s.Q))) true]:=by
 haveI JZ:=(SO h)
 haveI q1:=JZ.1
 haveI q2:=JZ.2.1
 haveI q3:=JZ.2.2.1
 haveI q4:=JZ.2.2.2
 haveI q:=lS n 3 l (qb s.Q) q1 q2 q3 false (aJ s.log s.tab (p:Int) s.wr) (h.dn _ _) ⟨by rw[C7 h];exact l4 (Dn rfl:1<=4) l,fun t ht=>by have:=q4 t ht;rw[C7 h];exact Ld (fB _) this⟩
 rw[Mu l s.Q (Rl (show(qb s.Q).length=s.Q.length from cn _) q2),show aJ s.log s.tab (p:Int) s.wr=(j5 s).gS (p:Int) s.wr from rfl,C6 (eg s.Q) (wH h) (j5 s) h.ll h.lt p s.wr,hw]at q;rw[show((0:Int)+((dw (eg s.Q) (j5 s) p).2.2:Int))=((dw (eg s.Q) (j5 s) p).2.2:Int)by exact BR ..]at q;exact Rw hw q
theorem oE(l)(h:dm op)(s):(ag l op s).2.log=s.log/\(ag l op s).2.tab=s.tab/\(ag l op s).2.wr=s.wr:=by
 haveI e:=(Cs (wD l h s))
 exact Rw e ⟨rfl,rfl,rfl⟩
def kj(l:Nat)(a b:Op)(s:YS):YS:=(ag l b (ag l a s).2).2
def wI(l:Nat)(a b:Op)(s:YS)(p:Nat):HS×Bool×Nat:=dw (eg (kj l a b s).Q) (j5 s) p
theorem Mw{s:YS}(h:s.Ok l)(hq:s.Q= [])(hw:s.wr=0)(n p:Nat)(ha:dm a)(hb:dm b):
  ∃os,ae v8 (n+7) 126 [.dat (SN s),.dat (.int (l:Int)),.dat (.int (p:Int)),.dat (.list [bO a,bO b,bO .bB])] []=
   .ok (.dat (tryD [(ag l a s).1.d,(ag l b (ag l a s).2).1.d,if(wI l a b s p).2.1 then .none else .str "PowerLoss"] ((wI l a b s p).1.gS ((p:Int)-((wI l a b s p).2.2:Int)) ((wI l a b s p).2.2:Int)) (if(wI l a b s p).2.1 then []else gC (qb (kj l a b s).Q)) (!(wI l a b s p).2.1))) os:=by
 refine Bc fun au=>?_
 haveI o1:=az h a
 have o2:=az o1 b;obtain⟨d1,d2,d3⟩:=oE l ha s;obtain⟨d4,z7⟩:=oE l hb (ag l a s).2;obtain⟨k1,x1,y1,z8⟩:=uX h n (p:Int) ha
 haveI q1:=z8.1
 haveI e1:=z8.2
 obtain⟨k2,x2,y2,z9⟩:=uX o1 n (p:Int) hb
 haveI q2:=z9.1
 haveI e2:=z9.2
 haveI e3:=Mv o2 (z7.2.trans (d3.trans hw)) (n+1) p
 rw[d1,d2,d3]at e2;rw[show j5 (ag l b (ag l a s).2).2=j5 s by unfold j5;simp only[d4,z7.1,d1,d2],d4,z7.1,z7.2,d1,d2,d3]at e3;change _=if(wI l a b s p).2.1=true then _ else _ at e3
 haveI hok:=by
  haveI:=CR ((eg (kj l a b s).Q).map (Wr.w l)) (fun w hw=>?_) ((j5 s).gS (p:Int) 0) (h.dn _ _)
  ·exact(C6 (eg (kj l a b s).Q) (wH o2) (j5 s) h.ll h.lt p 0)▸this
  ·exact oD o2 w hw
 refine au ?_;refine Rw q1 (Rw q2 ?_)
 haveI hz:(aJ s.log s.tab (p:Int) s.wr)=⟨(aJ s.log s.tab (-1) s.wr).bl,(p:Int),0⟩:=bz _ hw
 unfold WS lQ at e1 e2 e3;rw[hq,hz]at e1;rw[hz]at e2 e3;generalize hc:(wI l a b s p).2.1=zV
 induction zV using Tc with
 |true=>
  rw[hc]at e3;refine⟨_,jj (n+4) l _ (h.dn 0 0) (p:Int) hok (show 3<=100 by decide) (.cons _ e1 (.cons _ e2 (.cons (k:="commit") (x:=.none) (y:=.none) (.dat .none) ?_ (.nil _))))⟩;exact bI [] [] [1017] (aC e3 aN) (by kernel_rfl)
 |false=>
  rw[hc]at e3;refine⟨_,jj (n+4) l _ (h.dn 0 0) (p:Int) hok (show 3<=100 by decide) (.cons _ e1 (.cons _ e2 (.cons (k:="commit") (x:=.none) (y:=.none) .power ?_ (.nil _))))⟩;exact bI [] [] [1017] (aC e3 aN) (by kernel_rfl)
theorem sQ{x:HS}(hl:x.log.length=l)(ht:x.tab.length=3)(b w):(x.gS b w).bl.length=4+l:=by
 simp only[HS.gS,List.length_cons,cZ,cn];exact La hl ht
theorem Jk{x:HS}(hx:x.h=zs 16)(hl:x.log.length=l)(ht:x.tab.length=3)(w)(hok:bW (x.gS (-1) w))(n)(sg):
  ae v8 (n+4) 1008 [.ref 1] [cI (x.gS (-1) w),aZ 3 l sg false]= .ok (.dat (.int 0)) [cI (x.gS (-1) (w+1)),aZ 3 l (.own []) false]:=by
 have q:=Ba n l (x.gS (-1) w) hok sg false [] (ft _) (ft _) (fun ω z=>nomatch z) (Rw (sQ hl ht ..) (fB _)) hx (fun ω z=>nomatch z)
 haveI e:cX (lp l [] fun j=>(x.gS (-1) w).bl.getD (1+j) []) (x.gS (-1) w)=(x.gS (-1) (w+1),true):=by
  refine(ze (l:=l) [.hd (zs 16)] (fun ω h=>Rw (dp.mp h) trivial) x hl ht w).trans ?_;obtain⟨h,z5⟩:=x;exact Rl hx rfl
 rw[e]at q;exact q
theorem Jl{s:YS}(h:s.Ok l)(hx:x.h=du (s.Q.map (·.1)))(hl:x.log.length=l)(ht:x.tab.length=3)(w)(hok:bW (x.gS (-1) w))(hb:∀j,j<s.Q.length->x.log.getD j []=eb (s.Q.getD j (0,none)).2)(n)(sg):
  ae v8 (n+4) 1008 [.ref 1] [cI (x.gS (-1) w),aZ 3 l sg false]= .ok (.dat (.int (s.Q.length:Int))) [cI (((tN s.Q).foldl HS.put x).gS (-1) (w+((s.Q.length:Int)+1))),aZ 3 l (.own []) false]:=by
 have zE:=h.ql
 have hg:∀j,j<s.Q.length->(x.gS (-1) w).bl.getD (1+j) []=eb (s.Q.getD j (0,none)).2:=fun j hj=>by
  refine Rl (hb j hj) (Rw (ro 1 j) ?_);exact Rw Fm (Rw fi (Rw (E5 (ve hj (aI zE (dN hl.symm)))) (Rw fi rfl)))
 haveI hm:(s.Q.map (·.1)).length=s.Q.length:=cn _
 haveI q:=Ba n l (x.gS (-1) w) hok sg false (s.Q.map fun(p:Nat×En)=>p.1) (Rw hm zE) (Rw hm (aI zE h.l2)) (fun t ht=>by obtain⟨p,hp,rfl⟩:=bU.mp ht;exact(h.qe p hp).2) (Rw (sQ hl ht ..) (fB _)) hx (fun j hj=>by
  rw[hm]at hj;refine⟨w3 (s.Q.getD j (0,none)).2,?_⟩
  exact Rw (hg j hj) (pD (n+1) _ (h.qe _ (getD_mem hj)).1))
 haveI e:lp l (s.Q.map (·.1)) (fun j=>(x.gS (-1) w).bl.getD (1+j) [])=(tN s.Q).map (Wr.w l):=by
  haveI h2:=aI zE h.l2
  generalize s.Q=Q at hg h2;rcases Q with _|⟨⟨i,e⟩,_|⟨⟨j,f⟩,_|⟨_,_⟩⟩⟩
  ·rfl
  ·haveI g0:=hg 0 (tY _)
   show [(1+l+i,(x.gS (-1) w).bl.getD (1+0) []),(0,zs 16)]=_;refine Rw g0 ?_;rfl
  ·show [(1+l+i,(x.gS (-1) w).bl.getD (1+0) []),(1+l+j,(x.gS (-1) w).bl.getD (1+1) []),(0,zs 16)]=_;simp only[(hg 0 (tY _)),(hg 1 (N3 (tY _)))];rfl
  ·simp at h2
 rw[e,ze (tN s.Q) (fun w hw=>wH h w (cG.mpr (.inr hw))) x hl ht w]at q;refine Rw (show(s.Q.length:Int)+1=((tN s.Q).length:Int)by simp[tN]) ?_;rw[hm]at q;exact q
theorem aat(n)(yW:bW ⟨bl,0,0⟩){y:HS}(hy:bW (y.gS (-1) v))(hy2:bW (y.gS (-1) (v+1)))(hx:y.h=zs 16)(hl:y.log.length=l)(ht:y.tab.length=3)(e:ae v8 (n+5) 1008 [.ref 1] [cI ⟨bl,-1,0⟩,aZ 3 l (.own []) false]= .ok (.dat (.int m)) [cI (y.gS (-1) v),aZ 3 l (.own []) false]):
  ∃os,ae v8 (n+7) 126 [.dat (.list (bl.map dl)),.dat (.int (l:Int)),.dat (.int (-1)),.dat (.list [bO .mB,bO .mB])] []= .ok (.dat (tryD [.int m,.int 0] (y.gS (-1) (v+1)) [] false)) os:=
 ⟨_,jj (n+4) l bl yW (-1) hy2 (show 2<=100 by exact Dn rfl) (.cons (k:="recover") (x:=.int 0) (y:=.int 0) (os1:=[cI (y.gS (-1) v),aZ 3 l (.own []) false]) (.dat (.int m)) (bI [] [] [1008] (aC e aN) (by kernel_rfl)) (.cons (k:="recover") (x:=.int 0) (y:=.int 0) (.dat (.int 0)) (bI [] [] [1008] (aC (Jk hx hl ht v hy (n+1) (.own [])) aN) (by kernel_rfl)) (.nil _)))⟩
structure jY(l:Nat)(x:HS):Prop where
 hh:x.h.length<=100
 lb:∀b∈x.log,b.length<=100
 ll:x.log.length=l
 lt:x.tab.length=3
theorem jY.ok(hl:l<=2)(h:jY l x)(b w):bW (x.gS b w):=by
 refine⟨by rw[sQ h.ll h.lt];exact aI (iY hl _) (Dn rfl),fun y hy=>?_⟩;rw[HS.gS,cL,cG,bU]at hy;rcases hy with rfl|hy|⟨e,_,rfl⟩
 ·exact h.hh
 ·exact h.lb y hy
 ·rw[cJ];decide
theorem jY.put(h:jY l x)(hw:(w.w l).2.length<=100):jY l (x.put w):=by
 obtain⟨k1,k2⟩:=lu h.ll h.lt w
 induction w with
 |hd y=>exact⟨hw,h.lb,k1,k2⟩
 |lg j y=>exact⟨h.hh,fun b hb=>by
   rcases zG hb with hb|hb
   ·exact h.lb b hb
   ·refine Rw hb ?_;exact hw,k1,k2⟩
 |hm i e=>exact⟨h.hh,h.lb,k1,k2⟩
theorem jY.run:∀(ws:List Wr),(∀w∈ws,(w.w l).2.length<=100)->∀{x:HS},jY l x->∀b,jY l (dw ws x b).1
 | [],_,_,h,_=>h
 |_::_,_,_,h,0=>h
 |w::r,hw,_,h,b+1=>jY.run r (fun z hz=>hw z (.tail _ hz)) (h.put (hw w (.head _))) b
theorem jY.all:∀(ws:List Wr),(∀w∈ws,(w.w l).2.length<=100)->∀{x:HS},jY l x->jY l (ws.foldl HS.put x):=by
 intro zV
 induction zV with
 |nil=>
  exact @fun ω ω h=>h
 |cons w r zI=>
  exact @fun hw ω h=>zI (fun z hz=>hw z (.tail _ hz)) (h.put (hw w (.head _)))
def Mx(log:List (List Int))(Q:Qu)(p:Nat):List (List Int):=(Q.map fun q=>eb q.2).take p++log.drop p
inductive Jm(k l:Nat)(s:YS)(p:Nat)(x:HS):Prop
 |mk(y:HS)(h1:jY l y)(h2:y.h=zs 16)(h3:s.Q.length<p->y.log=cLog s.log s.Q/\y.tab=fO s.tab s.Q)(h4:p<=s.Q.length->y.log=Mx s.log s.Q p/\y.tab=s.tab)(m:Nat)(h5:m=(if s.Q.length<p/\p<2*s.Q.length+2 then s.Q.length else 0))
  (h6:∀w sg,ae v8 (k+4) 1008 [.ref 1] [cI (x.gS (-1) w),aZ 3 l sg false]= .ok (.dat (.int (m:Int))) [cI (y.gS (-1) (w+((m:Int)+1))),aZ 3 l (.own []) false]):Jm k l s p x
theorem uY(h:i<3):i=0\/i=1\/i=2:=by lia
theorem aau(t0 t1 t2 e)(h:i<3):[t0,t1,t2].set i e=fO [t0,t1,t2] [(i,e)]/\([t0,t1,t2].set i e).set i e=fO [t0,t1,t2] [(i,e)]:=by
 refine O3 (uY h) ?_ ?_ ?_<;>exact⟨rfl,rfl⟩
def S2(t0 t1 t2 e f:En)(i j:Nat):Prop:=(([t0,t1,t2].set i e).set j f,(([t0,t1,t2].set i e).set i e).set j f,((([t0,t1,t2].set i e).set j f).set i e).set j f)=(fO [t0,t1,t2] [(i,e),(j,f)],fO [t0,t1,t2] [(i,e),(j,f)],fO [t0,t1,t2] [(i,e),(j,f)])
theorem aav(t0 t1 t2 e f:En){i j:Nat}(h:i<3)(h':j<3)(n:i≠j):S2 t0 t1 t2 e f i j:=by
 rcases uY h with rfl|rfl|rfl<;>rcases uY h' with rfl|rfl|rfl<;>first|exact absurd rfl n|exact rfl
theorem tri{α:Type}{a b c d:α}(h:(a,b,c)=(d,d,d)):a=d/\b=d/\c=d:=by injection h with h1 h2;injection h2 with h2 h3;exact⟨h1,h2,h3⟩
def RA(k l:Nat)(s:YS)(p:Nat):Prop:=Jm k l s p (dw (eg s.Q) (j5 s) p).1/\(dw (eg s.Q) (j5 s) p).2.1=decide (2*s.Q.length+2<=p)/\(dw (eg s.Q) (j5 s) p).2.2=min p (2*s.Q.length+2)
section
variable{l:Nat}{s:YS}(h:s.Ok l)(k:Nat){n:Nat}(hn:s.Q.length=n)
include h
theorem Bg{p:Nat}:jY l (dw (eg s.Q) (j5 s) p).1:=jY.run (eg s.Q) (fun w hw=>oD h _ (bU.mpr ⟨w,hw,rfl⟩)) (⟨(by decide:16<=100),h.lb,h.ll,h.lt⟩:jY l (j5 s)) p
include hn
theorem uZ{p:Nat}(hp:p<=n)(r1:(dw (eg s.Q) (j5 s) p).2=(false,p))(hx:(dw (eg s.Q) (j5 s) p).1=⟨zs 16,Mx s.log s.Q p,s.tab⟩):RA k l s p:=by
 subst hn
 haveI ho:=Bg h (p:=p)
 refine⟨?_,Rw r1 ((dx fun z=>?_).symm),Rw r1 ((pM ?_).symm)⟩
 ·rw[hx]at ho⊢;exact⟨_,ho,rfl,fun z=>absurd hp (mi.mpr z),fun ω=>⟨rfl,rfl⟩,0,(aw fun z=>absurd hp (mi.mpr z.1)).symm,fun w sg=>Jk rfl ho.ll ho.lt w (ho.ok h.l2 _ _) k sg⟩
 ·exact absurd (Lg hp) (mh.mpr z)
 ·exact pR (Lg hp)
theorem Jn{p:Nat}(hp:2*n+2<=p)(r1:(dw (eg s.Q) (j5 s) p).2=(true,2*n+2))(hx:(dw (eg s.Q) (j5 s) p).1=⟨zs 16,cLog s.log s.Q,fO s.tab s.Q⟩):RA k l s p:=by
 subst hn
 haveI ho:=Bg h (p:=p)
 refine⟨?_,Rw r1 (bP hp).symm,Rw r1 (By hp).symm⟩;rw[hx]at ho⊢;exact⟨_,ho,rfl,fun ω=>⟨rfl,rfl⟩,fun z=>absurd (Lg z) (mh.mpr hp),0,(aw fun z=>absurd hp (mi.mpr z.2)).symm,fun w sg=>Jk rfl ho.ll ho.lt w (ho.ok h.l2 _ _) k sg⟩
theorem EA{p:Nat}{log:List (List Int)}{tab:List En}(hp:n<p)(hq:p<2*n+2)(r1:(dw (eg s.Q) (j5 s) p).2=(false,p))(hx:(dw (eg s.Q) (j5 s) p).1=⟨du (s.Q.map (·.1)),log,tab⟩)(hb:∀j,j<n->log.getD j []=eb (s.Q.getD j (0,none)).2)(h1:(tN s.Q).foldl HS.put ⟨du (s.Q.map (·.1)),log,tab⟩=⟨zs 16,cLog s.log s.Q,fO s.tab s.Q⟩):RA k l s p:=by
 subst hn
 haveI ho:=Bg h (p:=p)
 refine⟨?_,Rw r1 (dx (mi.mpr hq)).symm,Rw r1 (pM (pR hq)).symm⟩;rw[hx]at ho⊢
 haveI q:=jY.all (tN s.Q) (fun w hw=>oD h _ (bU.mpr ⟨w,cG.mpr (.inr hw),rfl⟩)) ho
 haveI z:=fun w sg=>Jl h rfl ho.ll ho.lt w (ho.ok h.l2 _ _) hb k sg
 rw[h1]at q z;exact⟨_,q,rfl,fun ω=>⟨rfl,rfl⟩,fun z=>absurd hp (mh.mpr z),s.Q.length,(if_pos ⟨hp,hq⟩).symm,z⟩
end
theorem N4{P:Nat->Prop}{p:Nat}(a:P 0)(b:P 1)(c:P 2)(d:P 3)(e:∀q,P (q+4)):P p:=by
 rcases p with _|_|_|_|q<;>first|assumption|exact e q
theorem hb1{b:List Int}{G:List (List Int)}{B:Nat->List Int}(h:b=B 0){j:Nat}(hj:j<1):(b::G).getD j []=B j:=by
 obtain rfl:j=0:=Nr hj;exact h
theorem iM{a b:List Int}{G:List (List Int)}{B:Nat->List Int}(h:a=B 0)(g:b=B 1){j:Nat}(hj:j<2):(a::b::G).getD j []=B j:=by
 rcases j with _|_|j
 ·exact h
 ·exact g
 ·lia
theorem ra1{l k p:Nat}{g0:List Int}{G:List (List Int)}{t0 t1 t2 e:En}{i:Nat}{wr:Int}(h:(⟨g0::G,[t0,t1,t2],[(i,e)],wr⟩:YS).Ok l)(hi:i<3):RA k l ⟨g0::G,[t0,t1,t2],[(i,e)],wr⟩ p:=
 haveI hc:=aau t0 t1 t2 e hi
 N4 (P:=RA k l _) (uZ h k (n:=1) rfl (Dn rfl) rfl rfl) (uZ h k (n:=1) rfl (Dn rfl) rfl rfl) (EA h k (n:=1) (log:=eb e::G) (tab:=[t0,t1,t2]) rfl (Dn rfl) (Dn rfl) rfl rfl (fun ω=>hb1 (B:=fun j=>eb (([(i,e)]:Qu).getD j (0,none)).2) rfl) (bz (HS.mk (zs 16) (eb e::G)) hc.1)) (EA h k (n:=1) (log:=eb e::G) (tab:=[t0,t1,t2].set i e) rfl (Dn rfl) (Dn rfl) rfl rfl (fun ω=>hb1 (B:=fun j=>eb (([(i,e)]:Qu).getD j (0,none)).2) rfl) (bz (HS.mk (zs 16) (eb e::G)) hc.2)) fun q=>Jn h k (n:=1) rfl (jm ..) rfl (bz (HS.mk (zs 16) (eb e::G)) hc.1)
theorem ra2{l k p:Nat}{g0 g1:List Int}{G:List (List Int)}{t0 t1 t2 e f:En}{i j:Nat}{wr:Int}(h:(⟨g0::g1::G,[t0,t1,t2],[(i,e),(j,f)],wr⟩:YS).Ok l)(hi:i<3)(hj:j<3)(ij:i≠j):RA k l ⟨g0::g1::G,[t0,t1,t2],[(i,e),(j,f)],wr⟩ p:=
 haveI hc:=tri (aav t0 t1 t2 e f hi hj ij)
 N4 (P:=RA k l _) (uZ h k (n:=2) rfl (Dn rfl) rfl rfl) (uZ h k (n:=2) rfl (Dn rfl) rfl rfl) (uZ h k (n:=2) rfl (Dn rfl) rfl rfl) (EA h k (n:=2) (log:=eb e::eb f::G) (tab:=[t0,t1,t2]) rfl (Dn rfl) (Dn rfl) rfl rfl (fun ω=>iM (B:=fun m=>eb (([(i,e),(j,f)]:Qu).getD m (0,none)).2) rfl rfl) (bz (HS.mk (zs 16) (eb e::eb f::G)) hc.1))
  fun q=>by
   rcases q with _|_|q
   ·exact EA h k (n:=2) (log:=eb e::eb f::G) (tab:=[t0,t1,t2].set i e) rfl (Dn rfl) (Dn rfl) rfl rfl (fun ω=>iM (B:=fun m=>eb (([(i,e),(j,f)]:Qu).getD m (0,none)).2) rfl rfl) (bz (HS.mk (zs 16) (eb e::eb f::G)) hc.2.1)
   ·exact EA h k (n:=2) (log:=eb e::eb f::G) (tab:=([t0,t1,t2].set i e).set j f) rfl (Dn rfl) (Dn rfl) rfl rfl (fun ω=>iM (B:=fun m=>eb (([(i,e),(j,f)]:Qu).getD m (0,none)).2) rfl rfl) (bz (HS.mk (zs 16) (eb e::eb f::G)) hc.2.2)
   ·exact Jn h k (n:=2) rfl (jm ..) rfl (bz (HS.mk (zs 16) (eb e::eb f::G)) hc.1)
theorem My{l:Nat}{s:YS}(h:s.Ok l)(k:Nat)(p:Nat):RA k l s p:=by
 obtain⟨t0,t1,t2,ht⟩:=mZ h.lt;obtain⟨log,tab,Q,wr⟩:=s;obtain rfl:tab=_:=ht;rcases Q with _|⟨⟨i,e⟩,_|⟨⟨j,f⟩,_|⟨_,_⟩⟩⟩
 ·rcases p with _|_|p
  ·exact uZ h k (n:=0) rfl (Dn rfl) rfl rfl
  ·exact EA h k (n:=0) (log:=log) (tab:=[t0,t1,t2]) rfl (Dn rfl) (Dn rfl) rfl rfl (fun ω z=>absurd z (pL _)) rfl
  ·exact Jn h k (n:=0) rfl (jm ..) rfl rfl
 ·rcases log with _|⟨g0,G⟩
  ·exact absurd (aI h.ql (dN h.ll.symm)) (pL _)
  ·exact ra1 h (h.qe _ (.head _)).2
 ·rcases log with _|⟨g0,_|⟨g1,G⟩⟩
  ·exact absurd (aI h.ql (dN h.ll.symm)) (pL _)
  ·exact absurd (aI h.ql (dN h.ll.symm)) (Nat.not_succ_le_self 1)
  ·exact ra2 h (h.qe _ (.head _)).2 (h.qe _ (.tail _ (.head _))).2 ((jJ.mp h.pw).1 (j,f) (.head _))
 ·exact absurd (aI h.ql h.l2) (mi.mpr (jm 3 _))
theorem C8(t:All v8 r):∀(b:List Int),(∀x∈b,0<=x/\x<=255)->All v8 (Wz b++r):=by
 intro zV
 induction zV with
 |nil=>
  exact @fun ω=>t
 |cons x b zI=>
  exact @fun h=>.cons (fL (dx (by have:=(h x (.head _)).1;exact dX.mpr this))) (.cons (og (dx (by have:=(h x (.head _)).2;exact dX.mpr this))) (zI fun y hy=>h y (.tail _ hy)))
noncomputable def ik(b:List Int):List Int:=b++ [Int.fmod b.sum 256]
structure B8 where
 a:Int
 b:Int
 c:Int
 d:Int
 e:Int
 f:Int
 g:Int
 h:Int
noncomputable def B8.l(x:B8):List Int:=[x.a,x.b,x.c,x.d,x.e,x.f,x.g,x.h]
noncomputable def qK(k v:Int):B8:=⟨Int.fmod (Int.fdiv k 16777216) 256,Int.fmod (Int.fdiv k 65536) 256,Int.fmod (Int.fdiv k 256) 256,Int.fmod k 256,Int.fmod (Int.fdiv v 16777216) 256,Int.fmod (Int.fdiv v 65536) 256,Int.fmod (Int.fdiv v 256) 256,Int.fmod v 256⟩
def B8.ok(x:B8):Prop:=∀y∈x.l,0<=y/\y<=255
theorem fA{p:Int->Prop}(h:p a)(t:∀y∈l,p y):∀y∈a::l,p y:=Nv.mpr ⟨h,t⟩
theorem fN{p:Int->Prop}:∀y∈([]:List Int),p y:=fun ω h=>absurd h eF
theorem wJ(k v):(qK k v).ok:=fA (fm _) (fA (fm _) (fA (fm _) (fA (fm _) (fA (fm _) (fA (fm _) (fA (fm _) (fA (fm _) fN)))))))
noncomputable def wU(f:Int)(x:B8)(p q:Int):List Int:=[f,x.a,x.b,x.c,x.d,x.e,x.f,x.g,x.h,p,0,0,0,0,q]
noncomputable def X8(f:Int)(x:B8)(p q s:Int):List Int:=[f,x.a,x.b,x.c,x.d,x.e,x.f,x.g,x.h,p,0,0,0,0,q,s]
theorem SP(hx:x.ok)(hf:0<=f/\f<=255)(hp:0<=p/\p<=255)(hq:0<=q/\q<=255)(hs:0<=s/\s<=255):∀y∈X8 f x p q s,0<=y/\y<=255:=
 have z:=by decide
 fA (l:=x.l++ [p,0,0,0,0,q,s]) hf (List.forall_mem_append.mpr ⟨hx,fA hp (fA z (fA z (fA z (fA z (fA hq (fA hs fN))))))⟩)
theorem wK(hx:x.ok)(hf:0<=f/\f<=255)(hp:0<=p/\p<=255)(hq:0<=q/\q<=255)(hs:0<=s/\s<=255)(hr:decide (s=Int.fmod (wU f x p q).sum 256)=r):All v8 (Wz (X8 f x p q s)++ [.rel .Eq (.int s) (.int (Int.fmod (wU f x p q).sum 256)) r]):=
 C8 (aR (ji hr) aN) _ (SP hx hf hp hq hs)
theorem Jo(n)(x)(hx:x.ok):ae v8 (n+2) 24 [.dat (dl (ik (wU 2 x 0 0)))] []= .exc 12 []:=
 bI [20,22] [] [] (wK (f:=2) (p:=0) (q:=0) (s:=Int.fmod (wU 2 x 0 0).sum 256) hx (by decide) (by decide) (by decide) (fm _) (bP rfl)) (by kernel_rfl)
theorem Jp(n)(x)(hx:x.ok):ae v8 (n+2) 24 [.dat (dl (ik (wU 1 x 1 0)))] []= .exc 12 []:=
 bI [20,22] [] [] (wK (f:=1) (p:=1) (q:=0) (s:=Int.fmod (wU 1 x 1 0).sum 256) hx (by decide) (by decide) (by decide) (fm _) (bP rfl)) (by kernel_rfl)
theorem EB(n)(x)(hx:x.ok):ae v8 (n+2) 24 [.dat (dl (ik (wU 1 x 0 1)))] []= .exc 12 []:=
 bI [20,22] [] [] (wK (f:=1) (p:=0) (q:=1) (s:=Int.fmod (wU 1 x 0 1).sum 256) hx (by decide) (by decide) (by decide) (fm _) (bP rfl)) (by kernel_rfl)
theorem Jq(n)(x)(hx:x.ok)(s)(hs:0<=s/\s<=255)(hne:s≠Int.fmod (wU 1 x 0 0).sum 256):ae v8 (n+2) 24 [.dat (dl (X8 1 x 0 0 s))] []= .exc 12 []:=
 bI [20,22] [] [] (wK (f:=1) (p:=0) (q:=0) (s:=s) hx (by decide) (by decide) (by decide) hs (dx hne)) (by kernel_rfl)
def bn(k v:Int):Nat->List Int
 |0=>cS k v
 |1=>zs 16
 |2=>ik [1,-1,(qK k v).b,(qK k v).c,(qK k v).d,(qK k v).e,(qK k v).f,(qK k v).g,(qK k v).h,0,0,0,0,0,0]
 |3=>ik [1,256,(qK k v).b,(qK k v).c,(qK k v).d,(qK k v).e,(qK k v).f,(qK k v).g,(qK k v).h,0,0,0,0,0,0]
 |4=>ik (wU 2 (qK k v) 0 0)
 |5=>ik (wU 1 (qK k v) 1 0)
 |6=>ik (wU 1 (qK k v) 0 1)
 |7=>[0,1,0,0,0,0,0,0,0,0,0,0,0,0,0,1]
 |8=>[0,0,0,0,0,0,0,0,1,0,0,0,0,0,0,1]
 |9=>cS k v++ [0]
 |10=>wU 1 (qK k v) 0 0
 |_=>X8 1 (qK k v) 0 0 (Int.fmod (Int.fmod ([1]++fb k++fb v).sum 256+1) 256)
theorem EC(k v):ik (wU 1 (qK k v) 0 0)=cS k v:=by
 simp only[ik,wU,qK,cS,CO,fb];exact rfl
theorem C9(n)(k v){c:Nat}(hc:c<12):ae v8 (n+2) 123 [.dat (dl (cS k v)),.dat (.int (c:Int))] []= .ok (.dat (dl (bn k v c))) []:=by
 refine J9 hc ?_ ?_ ?_ ?_ ?_ ?_ ?_ ?_ ?_ ?_ ?_ ?_
 ·haveI q:ae v8 (n+2) 123 [.dat (dl (cS k v)),.dat (.int ((0:Nat):Int))] []= .ok (.dat (dl (ik (wU 1 (qK k v) 0 0)))) []:=by kernel_rfl
  rw[EC]at q;exact q
 all_goals kernel_rfl
theorem Mz(n)(k v)(h2:2<=c)(hc:c<12):ae v8 (n+2) 24 [.dat (dl (bn k v c))] []= .exc 12 []:=by
 revert h2;refine J9 hc (fun h=>absurd h (pL _)) (fun h=>absurd h (mD _)) (fun ω=>?_) (fun ω=>?_) (fun ω=>Jo n _ (wJ k v)) (fun ω=>Jp n _ (wJ k v)) (fun ω=>EB n _ (wJ k v)) (fun ω=>?_) (fun ω=>?_) (fun ω=>?_) (fun ω=>?_) fun ω=>?_
 iterate 6 kernel_rfl
 apply Jq n _ (wJ k v) _ (fm _)
 haveI:(wU 1 (qK k v) 0 0).sum=([1]++fb k++fb v).sum:=by simp only[wU,qK,fb];exact rfl
 refine Rw this ?_;generalize([1]++fb k++fb v).sum=S;rw[zF _ (by decide),zF _ (by decide),]
 lia
theorem Jr(k v)(hc:c<12):(bn k v c).length<=100:=by
 refine J9 hc ?_ ?_ ?_ ?_ ?_ ?_ ?_ ?_ ?_ ?_ ?_ ?_
 ·exact(by decide:16<=100)
 ·exact(by decide:16<=100)
 ·exact(by decide:16<=100)
 ·exact(by decide:16<=100)
 ·exact(by decide:16<=100)
 ·exact(by decide:16<=100)
 ·exact(by decide:16<=100)
 ·exact(by decide:16<=100)
 ·exact(by decide:16<=100)
 ·exact(by decide:17<=100)
 ·exact(by decide:15<=100)
 ·exact(by decide:16<=100)
def pI(i:Nat)(b:List Int):D:=.tuple [.str "stage",.int (i:Int),dl b]
noncomputable def s9(i:Nat):D:=.tuple [.str "read",.int (i:Int),.int 0]
theorem lX(n i)(b)(hb:b.length<=100)(o)(l)(xs ys)(hx:xs.length<=2)(h:gD l xs i b=some ys):ae v8 (n+2) 125 [.ref 1,.dat (.str "stage"),.dat (.int (i:Int)),.dat (dl b)] [o,aZ 3 l (.own (gC xs)) false]=(s7.dat .none).c [o,aZ 3 l (.own (gC ys)) false]:=by
 haveI e:=za n i b hb o 3 l false xs hx
 simp only[h]at e;exact bI [] [] [1012] (aC e aN) (by kernel_rfl)
theorem wL(n i:Nat)(o)(l)(sg)(w)(e:ae v8 (n+1) 1009 [.ref 1,.dat (.int (i:Int))] [o,aZ 3 l sg false]=om w [o,aZ 3 l sg false]):ae v8 (n+2) 125 [.ref 1,.dat (.str "read"),.dat (.int (i:Int)),.dat (.int 0)] [o,aZ 3 l sg false]=(match w with|some r=>s7.dat (cP r)|none=>s7.iW).c [o,aZ 3 l sg false]:=by
 induction w with
 |some r=>exact bI [] [] [1009] (aC e aN) (by kernel_rfl)
 |none=>exact bI [] [] [1009] (aC e aN) (by kernel_rfl)
theorem u0(h:s.Ok l)(n)(hi:i<3):Tr (n+5) [s9 i,bO .bB,s9 i,bO .bG] (s.ob l) [cP (w3 (s.V i)),.none,cP (w3 (s.V i)),.list (bG (cK s.V))] ((ag l .bB s).2.ob l):=by
 have o1:=az h .bB
 haveI ev:=sP h
 haveI r2:=wL (n+4) i _ l _ _ (lP o1 (n+2) (-1) (ag l .bB s).2.wr (.own (gC (qb []))) false (.inl rfl) i hi)
 haveI p:=qY o1 (n+1) (-1) (ag l .bB s).2.wr false
 haveI e1:vw (ag l .bB s).2.tab (ag l .bB s).2.Q=s.V:=ev
 exact .cons (s7.dat (cP (w3 (s.V i)))) (wL (n+4) i _ l _ _ (lP h (n+2) (-1) s.wr (.own (gC (qb s.Q))) false (.inl rfl) i hi)) (.cons (k:="commit") (x:=.none) (y:=.none) (os1:=(ag l .bB s).2.ob l) (.dat .none) (bI [] [] [1017] (aC (oy h (n+1) s.wr false) aN) (by kernel_rfl)) (.cons (s7.dat (cP (w3 (s.V i)))) ((show(fun i=>some (w3 (vw (ag l .bB s).2.tab (ag l .bB s).2.Q i))) i=some (w3 (s.V i))by rw[e1])▸r2) (.cons (k:="pairs") (x:=.none) (y:=.none) (os1:=(ag l .bB s).2.ob l) (.dat (.list (bG (cK s.V)))) (bI [] [] [1018] (aC p aN) (by kernel_rfl)) (.nil _))))
theorem sR{s:YS}(h:s.Ok 1)(hq:s.Q= [])(n)(hi:i<3)(e)(he:mA e):YS.Ok 1 {s with Q:=[(i,e)]}/\Tr (n+5) [pI i (eb e),s9 i,bO .bB,s9 i,bO .bG] (s.ob 1) [.none,cP (w3 e),.none,cP (w3 e),.list (bG (cK (upd (vw s.tab []) i e)))] ((ag 1 .bB {s with Q:=[(i,e)]}).2.ob 1):=by
 obtain⟨log,tab,Q,wr⟩:=s;subst hq
 haveI hB:=lW (l:=1) (fB _) i e
 have o1:YS.Ok 1 ⟨log,tab,[(i,e)],wr⟩:=sM h hi he hB
 haveI hv:(⟨log,tab,[(i,e)],wr⟩:YS).V=upd (vw tab []) i e:=j8 (ft _) hB
 haveI t:=u0 o1 n hi
 rw[hv,show upd (vw tab []) i e i=e from if_pos rfl]at t;exact⟨o1,.cons (k:="stage") (os1:=YS.ob 1 ⟨log,tab,[(i,e)],wr⟩) (.dat .none) (lX (n+4) i (eb e) (by rw[cJ];decide) _ 1 [] [(i,eb e)] (Dn rfl) (by have:=qX 1 i e [];rw[hB]at this;exact this)) t⟩
theorem sS{s:YS}(h:s.Ok 2)(hq:s.Q= [])(n)(hi:i<3)(hj:j<3)(ij:j≠i)(e f)(he:mA e)(hf:mA f):YS.Ok 2 {s with Q:=[(j,f),(i,e)]}/\Tr (n+5) [pI j (eb f),pI i (eb e),s9 i,bO .bB,s9 i,bO .bG] (s.ob 2) [.none,.none,cP (w3 e),.none,cP (w3 e),.list (bG (cK (upd (upd (vw s.tab []) j f) i e)))] ((ag 2 .bB {s with Q:=[(j,f),(i,e)]}).2.ob 2):=by
 obtain⟨log,tab,Q,wr⟩:=s;subst hq
 haveI hA:=lW (l:=2) (by decide) j f
 have hB:gD 2 [(j,f)] i e=some [(j,f),(i,e)]:=by simp only[gD,sG];exact Rw (aw ij) rfl
 have o2:YS.Ok 2 ⟨log,tab,[(j,f),(i,e)],wr⟩:=sM (sM h hj hf hA) hi he hB
 haveI hv:(⟨log,tab,[(j,f),(i,e)],wr⟩:YS).V=upd (upd (vw tab []) j f) i e:=(j8 (ft _) hA)▸j8 (tab:=tab) (show 1<=2 by decide) hB
 haveI t:=u0 o2 n hi
 rw[hv,show upd (upd (vw tab []) j f) i e i=e from if_pos rfl]at t
 exact⟨o2,.cons (k:="stage") (os1:=YS.ob 2 ⟨log,tab,[(j,f)],wr⟩) (.dat .none) (lX (n+4) j (eb f) (by rw[cJ];decide) _ 2 [] [(j,eb f)] (Dn rfl) (by have:=qX 2 j f [];rw[hA]at this;exact this))
  (.cons (k:="stage") (os1:=YS.ob 2 ⟨log,tab,[(j,f),(i,e)],wr⟩) (.dat .none) (lX (n+4) i (eb e) (by rw[cJ];decide) _ 2 [(j,eb f)] [(j,eb f),(i,eb e)] (gU _) (by have:=qX 2 i e [(j,f)];rw[hB]at this;exact this)) t)⟩
theorem SQ(n i:Nat)(o)(l)(sg)(e:ae v8 (n+1) 1009 [.ref 1,.dat (.int (i:Int))] [o,aZ 3 l sg false]= .exc 12 [o,aZ 3 l sg false]):ae v8 (n+2) 125 [.ref 1,.dat (.str "read"),.dat (.int (i:Int)),.dat (.int 0)] [o,aZ 3 l sg false]=s7.format.c [o,aZ 3 l sg false]:=
 bI [] [] [1009] (aC e aN) (by kernel_rfl)
def Js(T:List En)(i:Nat):Nat->Option W3:=fun j=>if j=i then none else some (w3 (T.getD j none))
def nh(lg:List (List Int))(T:List En)(i:Nat)(b:List Int)(w:Int):iC:=⟨zs 16::(lg++(T.map eb).set i b),-1,w⟩
theorem ED(T)(hi:i<3):fe (Js T i) (List.range 3) []=none:=by
 refine O3 (uY hi) ?_ ?_ ?_<;>rfl
section
variable{l:Nat}(l2:l<=2){lg:List (List Int)}(wV:lg.length=l)(J8:∀x∈lg,x.length<=100){T:List En}(hT:T.length=3)(hE:∀e∈T,mA e){i:Nat}(hi:i<3){b:List Int}(hb:b.length<=100)(w:Int)
include l2 wV hT hb J8
theorem SR:bW (nh lg T i b w):=by
 refine⟨?_,fun x hx=>?_⟩
 ·simp only[nh,List.length_cons,cZ,km,cn];lia
 ·simp only[nh,cL,cG]at hx;rcases hx with rfl|hx|hx
  ·decide
  ·exact J8 x hx
  ·rcases zG hx with hx|hx
   ·obtain⟨e,_,rfl⟩:=bU.mp hx;rw[cJ];decide
   ·rw[hx];exact hb
omit l2 hb J8 in
include hi in
theorem SS(hj:j<3):(nh lg T i b w).bl.getD (1+l+j) []=if j=i then b else eb (T.getD j none):=by
 show(zs 16::(lg++(T.map eb).set i b)).getD (1+l+j) []=_;rw[show 1+l+j=(l+j)+1 by lia,Fm,<-wV,fi,Bm (fy _ _),E9,xg];by_cases c:j=i
 ·exact Rw (if_pos c.symm) (Rw (if_pos (by simp;exact hT▸hi)) (Rw (if_pos c) rfl))
 ·refine Rw (aw fun z=>c z.symm) (Rw (aw c) (Rw jK ?_));refine Rw (fi) (Rw (nq (hT▸hj)) ?_);rfl
include hE hi in
theorem u3(n)(hd:∀m,ae v8 (m+2) 24 [.dat (dl b)] []= .exc 12 []):Reads (n+3) 3 l (cI (nh lg T i b w)) (.own []) false (Js T i):=by
 intro j hj;refine IT n j (Js T i j) [] (fun ω z=>nomatch z) _ (SR l2 wV J8 hT hb w) 3 l (.own []) false (.inl rfl) (by simp only[nh,List.length_cons,cZ,km,cn];exact xf (zO hj (1+l)) (Lb wV hT).symm) ?_;refine Rw (SS wV hT hi w hj) ?_
 delta Js
 by_cases c:j=i
 ·exact Rw (if_pos c) (Rw (if_pos c) (hd n))
 ·exact Rw (aw c) (Rw (aw c) (pD n _ (A8 hE j)))
include hE hi in
theorem zg(n)(hd:∀m,ae v8 (m+2) 24 [.dat (dl b)] []= .exc 12 [])(e1:ae v8 (n+5) 1009 [.ref 1,.dat (.int (i:Int))] [cI d,aZ 3 l (.own (gC xs)) false]= .exc 12 [cI d,aZ 3 l (.own (gC xs)) false])(e2:ae v8 (n+5) 1017 [.ref 1] [cI d,aZ 3 l (.own (gC xs)) false]= .ok (.dat .none) [cI (nh lg T i b w),aZ 3 l (.own []) false]):
  Tr (n+5) [s9 i,bO .bB,s9 i,bO .bG] [cI d,aZ 3 l (.own (gC xs)) false] [.str "FormatError",.none,.str "CorruptError",.str "CorruptError"] [cI (nh lg T i b w),aZ 3 l (.own []) false]:=by
 have hr:=u3 l2 wV J8 hT hE hi hb w (n+2) hd;have r2:=hr i hi;rw[show Js T i i=none from if_pos rfl]at r2;have p:=y3 (n+3) 3 l _ _ false _ (u3 l2 wV J8 hT hE hi hb w (n+1) hd) (by decide);rw[ED T hi]at p;exact .cons .format (SQ (n+4) i _ l _ e1) (.cons (k:="commit") (x:=.none) (y:=.none) (os1:=[cI (nh lg T i b w),aZ 3 l (.own []) false]) (.dat .none) (bI [] [] [1017] (aC e2 aN) (by kernel_rfl)) (.cons (os1:=[cI (nh lg T i b w),aZ 3 l (.own []) false]) .iW (wL (n+4) i _ l _ none r2) (.cons (k:="pairs") (x:=.none) (y:=.none) (os1:=[cI (nh lg T i b w),aZ 3 l (.own []) false]) .iW (bI [] [] [1018] (aC p aN) (by kernel_rfl)) (.nil _))))
end
theorem Jt(hl:1<=l)(i)(b:α):gD l [] i b=some [(i,b)]:=by
 exact(aw (by simp;exact pQ hl))
theorem EE(h:l9 1 log tab [])(n)(hi:i<3)(hb:b.length<=100)(hd:∀m,ae v8 (m+2) 24 [.dat (dl b)] []= .exc 12 []):
  Tr (n+5) [pI i b,s9 i,bO .bB,s9 i,bO .bG] (lQ (aJ log tab (-1) 0) 1 [] false) [.none,.str "FormatError",.none,.str "CorruptError",.str "CorruptError"] [cI (nh [b] tab i b (jG 0 4)),aZ 3 1 (.own []) false]:=by
 have e1:ae v8 (n+5) 1009 [.ref 1,.dat (.int (i:Int))] [cI (aJ log tab (-1) 0),aZ 3 1 (.own (gC [(i,b)])) false]= .exc 12 [cI (aJ log tab (-1) 0),aZ 3 1 (.own (gC [(i,b)])) false]:=
  bI [131] [] [24] (aR (rj (a:=i) (i:=i) (bP rfl)) (aC (hd (n+2)) aN)) (by kernel_rfl)
 have hr:cX (uW [(i,b)] 1) (aJ log tab (-1) 0)=(nh [b] tab i b (jG 0 4),true):=by
  obtain⟨t0,t1,t2,rfl⟩:=mZ h.lt
  haveI hl:=h.ll
  rcases log with _|⟨g0,_|⟨_,_⟩⟩
  ·simp at hl
  ·refine O3 (uY hi) ?_ ?_ ?_<;>kernel_rfl
  ·simp at hl
 have hN:(aJ log tab (-1) 0).bl.length=5:=by have h1:=h.ll;have h2:=h.lt;simp only[aJ,List.length_cons,cZ,cn];exact La h1 h2
 haveI e2:=lS (n+1) 3 1 [(i,b)] (fB _) (gU _) (fun j=>by rcases j with _|j<;>first|exact hb|exact ft _) false (aJ log tab (-1) 0) (h.dn _ _) ⟨by exact Bq.mp (hN▸gU _),fun t ht=>by refine Rw (dp.mp ht) ?_;show 1+1+i<_;exact xf (zO hi 2) hN.symm⟩
 rw[hr]at e2;exact .cons (k:="stage") (os1:=[cI (aJ log tab (-1) 0),aZ 3 1 (.own (gC [(i,b)])) false]) (.dat .none) (lX (n+4) i b hb _ 1 [] [(i,b)] (Dn rfl) (Jt (fB _) i b)) (zg (l:=1) (lg:=[b]) (T:=tab) (i:=i) (b:=b) (Dn rfl) rfl (fun x hx=>Rw (dp.mp hx) hb) h.lt h.te hi hb (jG 0 4) n hd (xs:=[(i,b)]) (d:=aJ log tab (-1) 0) e1 e2)
theorem EF(h:l9 2 log tab [])(n)(hi:i<3)(hj:j<3)(ij:j≠i)(f)(hf:mA f)(hb:b.length<=100)(hd:∀m,ae v8 (m+2) 24 [.dat (dl b)] []= .exc 12 []):
  Tr (n+5) [pI j (eb f),pI i b,s9 i,bO .bB,s9 i,bO .bG] (lQ (aJ log tab (-1) 0) 2 [] false) [.none,.none,.str "FormatError",.none,.str "CorruptError",.str "CorruptError"] [cI (nh [eb f,b] (tab.set j f) i b (jG 0 6)),aZ 3 2 (.own []) false]:=by
 have e1:ae v8 (n+5) 1009 [.ref 1,.dat (.int (i:Int))] [cI (aJ log tab (-1) 0),aZ 3 2 (.own (gC [(j,eb f),(i,b)])) false]= .exc 12 [cI (aJ log tab (-1) 0),aZ 3 2 (.own (gC [(j,eb f),(i,b)])) false]:=
  bI [131] [] [24] (aR (rj (a:=j) (i:=i) (dx ij)) (aR (rj (a:=i) (i:=i) (bP rfl)) (aC (hd (n+2)) aN))) (by kernel_rfl)
 haveI hr:cX (uW [(j,eb f),(i,b)] 2) (aJ log tab (-1) 0)=(nh [eb f,b] (tab.set j f) i b (jG 0 6),true):=by
  obtain⟨t0,t1,t2,rfl⟩:=mZ h.lt
  haveI hl:=h.ll
  rcases log with _|⟨g0,_|⟨g1,_|⟨_,_⟩⟩⟩
  ·simp at hl
  ·simp at hl
  ·refine O3 (uY hi) ?_ ?_ ?_<;>refine O3 (uY hj) ?_ ?_ ?_<;>first|exact absurd rfl ij|kernel_rfl
  ·simp at hl
 have hN:(aJ log tab (-1) 0).bl.length=6:=by have h1:=h.ll;have h2:=h.lt;simp only[aJ,List.length_cons,cZ,cn];exact La h1 h2
 have XK:(eb f).length<=100:=by rw[cJ];decide
 haveI e2:=lS (n+1) 3 2 [(j,eb f),(i,b)] (fB _) (wY _) (fun m=>by rcases m with _|_|m<;>first|exact XK|exact hb|exact ft _) false (aJ log tab (-1) 0) (h.dn _ _) ⟨by exact Bq.mp (hN▸gU _),fun t ht=>by
  rcases cL.mp ht with z|z
  ·rw[z];show 1+2+j<_;exact xf (zO hj 3) hN.symm
  ·rw[dp.mp z];show 1+2+i<_;exact xf (zO hi 3) hN.symm⟩
 rw[hr]at e2;refine .cons (k:="stage") (os1:=[cI (aJ log tab (-1) 0),aZ 3 2 (.own (gC [(j,eb f)])) false]) (.dat .none) (lX (n+4) j (eb f) XK _ 2 [] [(j,eb f)] (Dn rfl) (Jt (Dn rfl) j (eb f))) (.cons (k:="stage") (os1:=[cI (aJ log tab (-1) 0),aZ 3 2 (.own (gC [(j,eb f),(i,b)])) false]) (.dat .none) (lX (n+4) i b hb _ 2 [(j,eb f)] _ (by simp) (by simp only[gD,sG];refine Rw (aw ij) ?_;rfl)) (zg (l:=2) (lg:=[eb f,b]) (T:=tab.set j f) (i:=i) (b:=b) (Dn rfl) rfl (fun x hx=>?_) (Rw km h.lt) (fun e he=>?_) hi hb (jG 0 6) n hd (xs:=[(j,eb f),(i,b)]) (d:=aJ log tab (-1) 0) e1 e2))
 ·rcases cL.mp hx with rfl|hx
  ·exact XK
  ·refine Rw (dp.mp hx) ?_;exact hb
 ·rcases zG he with he|he
  ·exact h.te e he
  ·refine Rw he ?_;exact hf
theorem MA(n i:Nat):ae v8 (n+1) 120 [.dat (dl [1,(i:Int)])] []= .ok (.dat (dl (du [i]))) []:=by kernel_rfl
theorem MB(n i j:Nat):ae v8 (n+1) 120 [.dat (dl [2,(j:Int),(i:Int)])] []= .ok (.dat (dl (du [j,i]))) []:=by kernel_rfl
section
variable(n l:Nat)(d:iC)(hd:bW d)(sg:LV)
include hd
theorem Ju(hl:1<=l)(hi:i<3)(hN:4+l<=d.bl.length)(h0:d.bl.getD 0 []=du [i])(hw:ae v8 (n+3) 24 [.dat (dl (d.bl.getD 1 []))] []= .exc 12 []):
  ae v8 (n+4) 1008 [.ref 1] [cI d,aZ 3 l sg false]= .exc 13 [cI d,aZ 3 l sg false]:=by
 haveI e0:=cW (n+2) d 0 (Lx hN rfl) hd [aZ 3 l sg false]
 rw[h0]at e0
 haveI g:bp .Gt (.int (1:Nat)) (.int (l:Int))=some false:=og (dx (dX.mpr (kn.mpr hl)))
 exact bI [113,116] [] [1001,117,24] (aC e0 (aC (wt (n+1) [i] (gU _) (fun t ht=>Rw (dp.mp ht) hi) []) (aR g (aR (Uk d hd hi) (aC (cW (n+2) d 1 (Lx hN rfl) hd [aZ 3 l sg false]) (aC hw aN)))))) (by kernel_rfl)
theorem Jv(hl:2<=l)(hi:i<3)(hj:j<3)(hN:4+l<=d.bl.length)(h0:d.bl.getD 0 []=du [j,i])(hv:ae v8 (n+3) 24 [.dat (dl (d.bl.getD 1 []))] []=yY (some r))(hw:ae v8 (n+3) 24 [.dat (dl (d.bl.getD 2 []))] []= .exc 12 []):
  ae v8 (n+4) 1008 [.ref 1] [cI d,aZ 3 l sg false]= .exc 13 [cI d,aZ 3 l sg false]:=by
 haveI e0:=cW (n+2) d 0 (Lx hN rfl) hd [aZ 3 l sg false]
 rw[h0]at e0
 haveI e1:=wt (n+1) [j,i] (fB _) (fun t ht=>by
  rcases cL.mp ht with z|z
  ·exact Rw z hj
  ·refine Rw (dp.mp z) ?_;exact hi) []
 haveI g:bp .Gt (.int (2:Nat)) (.int (l:Int))=some false:=og (dx (dX.mpr (kn.mpr hl)))
 exact bI [113,116] [] [1001,117,24] (aC e0 (aC e1 (aR g (aR (Uk d hd hj) (aC (cW (n+2) d 1 (Lx hN rfl) hd [aZ 3 l sg false]) (aC hv (aR (Uk d hd hi) (aC (cW (n+2) d 2 (Lx hN rfl) hd [aZ 3 l sg false]) (aC hw aN))))))))) (by kernel_rfl)
end
theorem q7(n l)(yW:bW ⟨bl,0,0⟩){a:s7}(hd:bW d)(e:ae v8 (n+5) 1008 [.ref 1] [cI ⟨bl,-1,0⟩,aZ 3 l (.own []) false]=a.c [cI d,aZ 3 l (.own []) false]):
  ae v8 (n+7) 126 [.dat (.list (bl.map dl)),.dat (.int (l:Int)),.dat (.int (-1)),.dat (.list [bO .mB])] []= .ok (.dat (tryD [a.d] d [] false)) [cI d,aZ 3 l (.dat (.list [])) false]:=
 jj (n+4) l bl yW (-1) hd (show 1<=100 by decide) (.cons (k:="recover") (x:=.int 0) (y:=.int 0) a (by induction a<;>exact bI [] [] [1008] (aC e aN) (by kernel_rfl)) (.nil _))
noncomputable def hA(i:Nat):List Int:=[1,(i:Int),1,0,0,0,0,0,0,0,0,0,0,0,0,Int.fmod ([1,(i:Int),1].sum) 256]
noncomputable def hB8(i:Nat):List Int:=[1,(i:Int),0,0,0,0,0,0,0,0,0,0,0,0,1,Int.fmod ([1,(i:Int),0,0,0,0,0,0,0,0,0,0,0,0,1].sum) 256]
noncomputable def hC(i:Nat):List Int:=[1,(i:Int),0,0,0,0,0,0,0,0,0,0,0,0,0,9]
noncomputable def QZ:List Int:=[2,0,0,0,0,0,0,0,0,0,0,0,0,0,0,2]
noncomputable def HB:List Int:=[3,0,0,0,0,0,0,0,0,0,0,0,0,0,0,3]
noncomputable def X9:List Int:=[1,3,0,0,0,0,0,0,0,0,0,0,0,0,0,4]
noncomputable def Yb:List Int:=[2,0,3,0,0,0,0,0,0,0,0,0,0,0,0,5]
theorem MC(n i:Nat):ae v8 (n+1) 120 [.dat (dl [1,(i:Int),1])] []= .ok (.dat (dl (hA i))) []:=by kernel_rfl
theorem MD(n i:Nat):ae v8 (n+1) 120 [.dat (dl [1,(i:Int),0,0,0,0,0,0,0,0,0,0,0,0,1])] []= .ok (.dat (dl (hB8 i))) []:=by kernel_rfl
theorem SU(n)(hi:i<3):ae v8 (n+2) 117 [.dat (dl (hA i))] []= .exc 12 []:=by refine O3 (uY hi) ?_ ?_ ?_<;>kernel_rfl
theorem SV(n)(hi:i<3):ae v8 (n+2) 117 [.dat (dl (hB8 i))] []= .exc 12 []:=by refine O3 (uY hi) ?_ ?_ ?_<;>kernel_rfl
theorem SW(n)(hi:i<3):ae v8 (n+2) 117 [.dat (dl (hC i))] []= .exc 12 []:=by refine O3 (uY hi) ?_ ?_ ?_<;>kernel_rfl
def zi(l:Nat)(h:List Int):Prop:=∀(n:Nat) (d:iC),bW d->4+l<=d.bl.length->d.bl.getD 0 []=h->(∀m,∃r,ae v8 (m+2) 24 [.dat (dl (d.bl.getD 1 []))] []=yY (some r))->∀sg,ae v8 (n+4) 1008 [.ref 1] [cI d,aZ 3 l sg false]= .exc 13 [cI d,aZ 3 l sg false]
theorem wM(e:∀n,ae v8 (n+2) 117 [.dat (dl h)] []= .exc 12 []):zi l h:=by
 intro n d hd hN h0 _ sg
 haveI e0:=cW (n+2) d 0 (Lx hN rfl) hd [aZ 3 l sg false]
 exact bI [] [] [1001,117] (aC (h0▸e0) (aC (e (n+1)) aN)) (by kernel_rfl)
theorem SX:zi 1 QZ:=by
 intro n d hd hN h0 _ sg
 haveI e0:=cW (n+2) d 0 (fj (jm ..) hN) hd [aZ 3 1 sg false]
 rw[h0]at e0;exact bI [] [] [1001] (aC e0 aN) (by kernel_rfl)
theorem SY:zi 2 HB:=by
 intro n d hd hN h0 _ sg
 haveI e0:=cW (n+2) d 0 (fj (jm ..) hN) hd [aZ 3 2 sg false]
 rw[h0]at e0;exact bI [] [] [1001] (aC e0 aN) (by kernel_rfl)
theorem SZ:zi 1 X9:=by
 intro n d hd hN h0 _ sg
 haveI e0:=cW (n+2) d 0 (fj (jm ..) hN) hd [aZ 3 1 sg false]
 rw[h0]at e0;exact bI [] [] [1001] (aC e0 aN) (by kernel_rfl)
theorem S0:zi 2 Yb:=by
 intro n d hd hN h0 hw sg
 haveI e0:=cW (n+2) d 0 (fj (jm ..) hN) hd [aZ 3 2 sg false]
 rw[h0]at e0
 haveI w0:=(Cs (hw (n+1)))
 exact bI [] [] [1001,24] (aC e0 (aC (cW (n+2) d 1 (fj (jm ..) hN) hd [aZ 3 2 sg false]) (aC w0 aN))) (by kernel_rfl)
noncomputable def tO(g:Nat->Int):List Int:=[g 0,g 1,g 2,g 3,g 4,g 5,g 6,g 7,g 8,g 9,g 10,g 11,g 12,g 13]
def hN(c:Int)(g:Nat->Int):List Int:=c::tO g++ [Int.fmod (c::tO g).sum 256]
theorem Jw(n)(c)(g:Nat->Int):ae v8 (n+1) 120 [.dat (dl (c::tO g))] []= .ok (.dat (dl (hN c g))) []:=by kernel_rfl
theorem Jx(hc:0<=c/\c<=255)(hg:∀i,0<=g i/\g i<=255):All v8 (Wz (hN c g)++ [.rel .Eq (.int (Int.fmod (c::tO g).sum 256)) (.int (Int.fmod (c::tO g).sum 256)) true]):=by
 refine C8 (aR (ji (bP rfl)) aN) _ fun x hx=>?_;unfold hN tO at hx;simp only[FI,t6,cL,eF,jr]at hx;rcases hx with rfl|rfl|rfl|rfl|rfl|rfl|rfl|rfl|rfl|rfl|rfl|rfl|rfl|rfl|rfl|rfl<;>first|exact hc|exact hg _|exact fm _
theorem MF(n)(hg:∀i,0<=g i/\g i<=255):ae v8 (n+2) 117 [.dat (dl (hN 14 g))] []= .ok (.dat (dl (tO g))) []:=
 bI [20,22] [] [] (Jx (c:=14) (by decide) hg) (by kernel_rfl)
theorem MI(n)(hg:∀i,0<=g i/\g i<=255):ae v8 (n+2) 117 [.dat (dl (hN 15 g))] []= .exc 12 []:=
 bI [20,22] [] [] (Jx (c:=15) (by decide) hg) (by kernel_rfl)
def Yc(b:List Int):D:=.tuple [.str "head",dl b,.int 0]
theorem aaw(n l)(hl:l=1\/l=2)(hh:h.length<=100)(bad:zi l h)(wV:lg.length=l)(J8:∀b∈lg,b.length<=100)(hw:∀m,∃r,ae v8 (m+2) 24 [.dat (dl (lg.getD 0 []))] []=yY (some r))(b0 b1 b2)(hb:b0.length<=100/\b1.length<=100/\b2.length<=100)(hg:∀i,0<=g i/\g i<=255):
  Tr (n+5) [bO .mB,bO .sL,bO .mB,bO .bG,Yc (hN 14 g),Yc (hN 15 g)] [cI ⟨h::(lg++ [b0,b1,b2]),-1,0⟩,aZ 3 l (.own []) false] [.str "CorruptError",.none,.int 0,.list [],dl (tO g),.str "FormatError"] (YS.ob l ⟨lg,[none,none,none],[],jG 0 5⟩):=by
 have ho:bW ⟨h::(lg++ [b0,b1,b2]),-1,0⟩:=by
  refine⟨by simp;exact aI (dN wV) (O2 hl (Dn rfl) (Dn rfl)),fun x hx=>?_⟩;simp only[cL,cG,eF,jr]at hx;rcases hx with rfl|hx|rfl|rfl|rfl
  ·exact hh
  ·exact J8 x hx
  ·exact hb.1
  ·exact hb.2.1
  ·exact hb.2.2
 have hs:l9 l lg [none,none,none] []:=⟨(O2 hl (Dn rfl) (Dn rfl)),wV,J8,rfl,fun e he=>by
   rcases cL.mp he with rfl|he
   ·exact fun ω z=>(nomatch z)
   rcases cL.mp he with rfl|he
   ·exact fun ω z=>(nomatch z)
   refine Rw (dp.mp he) ?_;exact fun ω z=>(nomatch z),fun ω z=>(nomatch z),.nil,ft _⟩
 have e1:=bad (n+1) ⟨h::(lg++ [b0,b1,b2]),-1,0⟩ ho (by simp;exact dN (Rw wV (ro 4 l))) rfl (fun m=>by
  obtain⟨r,hr⟩:=hw m;refine⟨r,?_⟩
  refine Rw (show(h::(lg++ [b0,b1,b2])).getD 1 []=lg.getD 0 []by
   rcases lg with _|⟨x,lg⟩
   ·simp at wV;lia
   ·rfl) ?_
  exact hr) (.own [])
 have hr:cX (CS 3 l) ⟨h::(lg++ [b0,b1,b2]),-1,0⟩=(aJ lg [none,none,none] (-1) (jG 0 4),true):=by
  clear J8 hb hw hh;rcases hl with rfl|rfl
  ·rcases lg with _|⟨x,_|⟨_,_⟩⟩
   ·simp at wV
   ·kernel_rfl
   ·simp at wV
  ·rcases lg with _|⟨x,_|⟨y,_|⟨_,_⟩⟩⟩
   ·simp at wV
   ·simp at wV
   ·kernel_rfl
   ·simp at wV
 haveI e2:=CT (n+2) 3 l (.own []) false ⟨h::(lg++ [b0,b1,b2]),-1,0⟩ (by simp;exact Rw wV (dN (ro 1 l))) ho.1 (Dn rfl)
 rw[hr]at e2
 exact .cons (k:="recover") (x:=.int 0) (y:=.int 0) (os1:=[cI ⟨h::(lg++ [b0,b1,b2]),-1,0⟩,aZ 3 l (.own []) false]) .iW (bI [] [] [1008] (aC e1 aN) (by kernel_rfl))
  (.cons (k:="wipe") (x:=.none) (y:=.none) (os1:=lQ (aJ lg [none,none,none] (-1) (jG 0 4)) l [] false) (.dat .none) (bI [] [] [1006] (aC e2 aN) (by kernel_rfl))
  (.cons (k:="recover") (x:=.int 0) (y:=.int 0) (os1:=lQ (aJ lg [none,none,none] (-1) (jG 0 5)) l [] false) (.dat (.int 0)) (bI [] [] [1008] (aC (wu hs (n+1) (jG 0 4) false) aN) (by kernel_rfl))
  (.cons (k:="pairs") (x:=.none) (y:=.none) (os1:=lQ (aJ lg [none,none,none] (-1) (jG 0 5)) l [] false) (.dat (.list [])) (bI [] [] [1018] (aC (qY hs (n+1) (-1) (jG 0 5) false) aN) (by kernel_rfl))
  (.cons (k:="head") (os1:=lQ (aJ lg [none,none,none] (-1) (jG 0 5)) l [] false) (.dat (dl (tO g))) (bI [] [] [117] (aC (MF (n+3) hg) aN) (by kernel_rfl))
  (.cons (k:="head") (os1:=lQ (aJ lg [none,none,none] (-1) (jG 0 5)) l [] false) .format (bI [] [] [117] (aC (MI (n+3) hg) aN) (by kernel_rfl)) (.nil _))))))
theorem oF(x)(m:Nat)(hm:0<m):Int.fmod x m=(((Int.fmod x m).toNat:Nat):Int)/\(Int.fmod x m).toNat<m:=by
 have h0:0<=Int.fmod x m:=Rw (zF _ (zQ _)) (Og _ (FW (kc.mpr hm)));have h1:Int.fmod x m<m:=Rw (zF _ (zQ _)) (NT _ (kc.mpr hm));exact⟨(Int.toNat_of_nonneg h0).symm,(OA h0).mpr h1⟩
theorem fV(x)(m:Nat)(hm:0<m):∃j:Nat,Int.fmod x m=(j:Int)/\j<m:=⟨_,oF x m hm⟩
theorem wN(xs)(x)(hx:xs.length=m)(hm:0<m)(hl:m<=1000):∃d,d∈xs/\bZ (.tuple xs) (.int (Int.fmod x (m:Nat)))=some d:=by
 obtain⟨j,e,h⟩:=fV x m hm;exact Rw e ⟨xs[j],tW (hx▸h),lM _ _ _ (nq (by lia)) (hx▸hl)⟩
noncomputable def PS:List Int:=[0,7,16909060,4294967295,256,65535,-1,4294967296]
noncomputable def vs8:List Int:=[0,1,255,65536,305419896,4294967295,4294967296,-1]
def Bh(x:Int):Int:=PS.getD (Int.fmod x 8).toNat 0
theorem zj(x):bZ dy (.int (Int.fmod x 8))=some (.int (Bh x)):=by
 obtain⟨e,h⟩:=oF x 8 (Dn rfl)
 haveI e:Int.fmod x 8=(((Int.fmod x 8).toNat:Nat):Int):=e
 delta Bh
 rw[e,Int.toNat_natCast];generalize(Int.fmod x 8).toNat=n at h;refine El8 h ?_ ?_ ?_ ?_ ?_ ?_ ?_ ?_<;>rfl
theorem wO(m)(n i v raw):∃op,dm op/\keyOf op=Bh i/\ae v8 (m+1) 122 [.dat (.int n),.dat (.int i),.dat (.int v),.dat (.int raw)] []= .ok (.dat (bO op)) []:=by
 by_cases c:Int.fmod n 3=0
 ·exact⟨.del (Bh i),.inr ⟨_,rfl⟩,rfl,bI [247] [248023039] [] (aR (ji (bP c)) (aV (zj i) aN)) (by kernel_rfl)⟩
 ·refine Bc fun au=>?_;obtain⟨d,z4⟩:=wN ((vs8++ [raw]).map PyData.int) v (m:=9) rfl (Dn rfl) (Dn rfl);obtain⟨y,_,rfl⟩:=bU.mp z4.1;apply au;exact⟨.put (Bh i) y,.inl ⟨_,_,rfl⟩,rfl,bI [247] [249019035,249037066] [] (aR (ji (dx c)) (aV (zj i) (aV z4.2 aN))) (by kernel_rfl)⟩
def pJ(i:Nat):MS:=cE aH.body i
def WT:ME:=Ek (pJ 2)
def dI(x1 n:Int):En:=if n<0 then none else some (PS.getD n.toNat 0,Int.fmod (x1+n) 4294967296)
theorem aax(n)(x1)(S)(u)(hS:bZ S (.int 1)=some (.int x1))(bs:List Int)(hb:∀b∈bs,b= -1\/b=0\/b=1\/b=2\/b=3):cv (ev v8 (ae v8 n) (wj WT)) [] (wk WT) (bS v8 (ae v8 n) []) (bs.map .int) ⟨[],[(91,.dat S),(144,u)],[],[]⟩=some ((bs.map (dI x1)).map bE):=by
 simp only[qy];refine(jE _ _ _ _ (fun b:Int=>PyData.int b) (fun b=>[bE (dI x1 b)]) bs fun b hx=>?_).trans (bz some (wm _ _));rcases hb b hx with rfl|rfl|rfl|rfl|rfl
 ·kernel_rfl
 ·exact J6 [] [327048057] [] (aV hS aN) (by kernel_rfl)
 ·exact J6 [] [327048057] [] (aV hS aN) (by kernel_rfl)
 ·exact J6 [] [327048057] [] (aV hS aN) (by kernel_rfl)
 ·exact J6 [] [327048057] [] (aV hS aN) (by kernel_rfl)
def Sx(cY:List Int):D:=.list (cY.map .int)
def S5(a b q:Op)(pk pv av:Int):D:=.dict [(.str "a",bO a),(.str "b",bO b),(.str "q",bO q),(.str "p",bO (.put pk pv)),(.str "o",bO (.put pk av)),(.str "x",bO (.del pk)),(.str "C",bO .bB),(.str "R",bO .wx),(.str "V",bO .mB),(.str "W",bO .sL)]
noncomputable def E8(l:Nat):List En:=[some (3,4),some (5,6)].take l
structure bT where
 S:D
 l:Nat
 tab:List En
 a:Op
 b:Op
 q:Op
 pk:Int
 pv:Int
 av:Int
 lf:Str
 rt:Str
 ex:Int
def bT.aW(p:bT):List (Nat×LV):=[(91,.dat p.S),(144,.dat (.int (p.l:Int))),(143,.dat (.list (p.tab.map bE))),(151,.dat (.tuple [.int p.pk,.int p.pv])),(152,.dat (S5 p.a p.b p.q p.pk p.pv p.av))]
def bT.loc(p:bT)(t:LV):List (Nat×LV):=[(78,.dat (.list ((E8 p.l).map bE))),(148,.dat (lr (E8 p.l++p.tab))),(149,.dat (bO p.a)),(42,.dat (bO p.b)),(150,.dat (bO p.q)),(98,.dat (.str p.lf)),(153,.dat (.str p.rt)),(154,.dat (.int p.ex)),(155,t)]
def MJ(pk:Int):List D:=[bO (.get pk),bO .bG]
theorem aay(n)(r)(N)(l:Nat)(bs:List Int)(a b q)(pk av)(lf rt)(ex)(hN:wd (Sx (x0::x1::x2::x3::x4::x5::x6::x7::x8::x9::EG::Jy::EY::Jz::x14::x15::x16::x17::x18::r))=some (.int N))(hN2:19<=N)(h0:fE .add (.int 1) (.int (Int.fmod x0 2))=some (.int (l:Int)))(h2:bZ dD (.int (Int.fmod x2 8))=some (.tuple (bs.map .int)))(hb:∀b∈bs,b= -1\/b=0\/b=1\/b=2\/b=3)(yW:bs.length=3)(hl:l<=2)(hs:fZ (.list [bE (some (3,4)),bE (some (5,6))]) none (some (.int (l:Int)))=some (.list ((E8 l).map bE)))(hi:ae v8 (n+1) 121 [.dat (.list ((E8 l++bs.map (dI x1)).map bE))] []= .ok (.dat (lr (E8 l++bs.map (dI x1)))) [])(ha:ae v8 (n+1) 122 [.dat (.int x3),.dat (.int x4),.dat (.int x5),.dat (.int x6)] []= .ok (.dat (bO a)) [])(hbb:ae v8 (n+1) 122 [.dat (.int x7),.dat (.int x8),.dat (.int x9),.dat (.int EG)] []= .ok (.dat (bO b)) [])(hq:ae v8 (n+1) 122 [.dat (.int x7),.dat (.int (x4+1+Int.fmod x8 7)),.dat (.int x9),.dat (.int EG)] []= .ok (.dat (bO q)) [])(hk:bZ dy (.int (Int.fmod Jy 4))=some (.int pk))(hav:bZ (bO a) (.int 2)=some (.int av))(hw:bZ dE (.int (Int.fmod Jz 12))=some (.tuple [.str lf,.str rt,.int ex])):
  execs v8 (ae v8 (n+1)) (aH.body.take 12) ⟨[],[(91,.dat (Sx (x0::x1::x2::x3::x4::x5::x6::x7::x8::x9::EG::Jy::EY::Jz::x14::x15::x16::x17::x18::r)))],[],[]⟩= .ok .next ⟨bT.loc ⟨Sx (x0::x1::x2::x3::x4::x5::x6::x7::x8::x9::EG::Jy::EY::Jz::x14::x15::x16::x17::x18::r),l,bs.map (dI x1),a,b,q,pk,Int.fmod EY 4294967296,av,lf,rt,ex⟩ (.own (MJ pk)),bT.aW ⟨Sx (x0::x1::x2::x3::x4::x5::x6::x7::x8::x9::EG::Jy::EY::Jz::x14::x15::x16::x17::x18::r),l,bs.map (dI x1),a,b,q,pk,Int.fmod EY 4294967296,av,lf,rt,ex⟩,[],[]⟩:=by
 have hm:((bs.map (dI x1)).map bE).length=3:=by simp[yW]
 haveI EH:fE .add (.list ((E8 l).map bE)) (.list ((bs.map (dI x1)).map bE))=some (.list ((E8 l++bs.map (dI x1)).map bE)):=by
  show(if _ then _ else _)=_;rw[if_pos (by rw[hm];simp only[cn,E8,FF,List.length_cons,List.length_nil,lim];exact aI (l4 (aI (FK ..) hl) 3) (Dn rfl)),kb]
 exact d7 [324] [324007018,326011028,327086111,327012112,328010033,329022033,333012037,334091095,335025052] [121,122] (aV hN (aR (fL (a:=N) (b:=19) (dx (dX.mpr hN2))) (aV h0 (aV h2 (aP (aax (n+1) x1 (Sx (x0::x1::x2::x3::x4::x5::x6::x7::x8::x9::EG::Jy::EY::Jz::x14::x15::x16::x17::x18::r)) (.dat (.int (l:Int))) rfl bs hb) (by refine Rw hm ?_;exact Dn rfl) (aV hs (aV EH (aC hi (aC ha (aC hbb (aC hq (aV hk (aV hav (aV hw aN)))))))))))))) (by kernel_rfl)
noncomputable def S6(i:Nat):ME->ME
 |.call _ as _ _=>as.getD i (.jt 0 ⟨0,0,0,0⟩)
 |e=>e
def WU:ME:=Ml (S6 3 (Ek (pJ 12)))
def WV:ME:=Ml (S6 3 (Ek (pJ 13)))
def WW:ME:=Ml (S6 3 (Ek (pJ 14)))
def gp(k:Int):List Op:=[.get k,.bG]
def chars(s:Str):List D:=s.cps.toList.map fun c=>.str ⟨#[c]⟩
def sT(n:Nat)(p:bT)(e:ME)(w:Str)(ops:List Op):Prop:=cv (ev v8 (ae v8 n) (wj e)) [] (wk e) (bS v8 (ae v8 n) []) (chars w) ⟨[],p.aW,[],[]⟩=some (ops.map bO)
theorem WX(n)(p)(hR:opsR.length<=50)(hL:opsL.length<=50)(c1:sT (n+1) p WU p.rt opsR)(c2:sT (n+1) p WV p.rt opsR)(c3:sT (n+1) p WW p.lf opsL){W G:D}(hW:ae v8 (n+1) 124 [.dat (.int (p.l:Int)),.dat (.list (p.tab.map bE)),.dat (.list ((E8 p.l).map bE)),.dat (.list ((opsR++gp p.pk).map bO))] []= .ok (.dat W) o1)(hG:ae v8 (n+1) 126 [.dat (lr (E8 p.l++p.tab)),.dat (.int (p.l:Int)),.dat (.int (-1)),.dat (.list ((opsR++gp p.pk).map bO))] []= .ok (.dat G) o2)(hO:ae v8 (n+1) 126 [.dat (lr (E8 p.l++p.tab)),.dat (.int (p.l:Int)),.dat (.int (-1)),.dat (.list ((opsL++gp p.pk).map bO))] []= .ok (.dat O) o3):
  execs v8 (ae v8 (n+1)) ((aH.body.drop 12).take 3) ⟨p.loc (.own (MJ p.pk)),p.aW,[],[]⟩= .ok .next ⟨p.loc (.dat (.list (MJ p.pk)))++ [(99,.dat W),(147,.dat G),(157,.dat O)],p.aW,[],[]⟩:=by
 have add (ops:List Op) (h:ops.length<=50):fE .add (.list (ops.map bO)) (.list (MJ p.pk))=some (.list ((ops++gp p.pk).map bO)):=by
  show(if _ then _ else _)=_;refine Rw (if_pos (by simp only[cn,MJ,List.length_cons,List.length_nil,lim];exact fj (tZ h) (Dn rfl))) ?_;refine Rw kb ?_;rfl
 have ml (ops:List Op) (h:ops.length<=50):(ops.map bO).length<=lim:=by simp only[cn,lim];exact aI h (Dn rfl)
 exact d7 [] [337038063,337038070,338035060,338035067,339037061,339037068] [124,126] (aP c1 (ml _ hR) (aV (add _ hR) (aC hW (aP c2 (ml _ hR) (aV (add _ hR) (aC hG (aP c3 (ml _ hL) (aV (add _ hL) (aC hO aN))))))))) (by kernel_rfl)
set_option genCtorIdx true in
inductive Lt where
 |a|b|q|p|o|x|C|R|V|W
noncomputable def Lt.s:Lt->Str
 |.a=>"a" |.b=>"b" |.q=>"q" |.p=>"p" |.o=>"o" |.x=>"x" |.C=>"C" |.R=>"R" |.V=>"V" |.W=>"W"
noncomputable def Lt.op(p:bT):Lt->Op
 |.a=>p.a|.b=>p.b|.q=>p.q|.p=>.put p.pk p.pv|.o=>.put p.pk p.av|.x=>.del p.pk|.C=>.bB|.R=>.wx|.V=>.mB|.W=>.sL
theorem JA(he:e=WU\/e=WV\/e=WW)(ls:List Lt)(hw:chars w=ls.map fun c=>.str c.s):sT n p e w (ls.map (Lt.op p)):=by
 unfold sT;simp only[hw,qy];refine(jE _ _ _ _ (fun c:Lt=>PyData.str c.s) (fun c=>[bO (c.op p)]) ls fun c ω=>?_).trans (bz some (wm _ _));refine O3 he ?_ ?_ ?_<;>induction c<;>kernel_rfl
noncomputable def zk:List Int:=[0,1,1,2,0,4,0,-1,-1,-1,-1,-2]
noncomputable def JB:List Str:=["aRbC","aVbC","aCVbC","aCCRbC","aabC","aWRWbC","opC","aqC","abaC","xpC","pxC","abC"]
noncomputable def JC:List Str:=["bC","bC","aCbC","aCbC","abC","WbC","pC","qaC","baC","pC","xC","aCbC"]
theorem lY:Pl 20 (.str "FullError"):=⟨by kernel_rfl,u9 (by kernel_rfl)⟩
theorem jH:Pl 20 (.str "ValueError"):=⟨by kernel_rfl,u9 (by kernel_rfl)⟩
theorem dR:Pl 20 .none:=⟨by kernel_rfl,u9 (by kernel_rfl)⟩
theorem Bi(l)(op)(s):Pl 20 ((ag l op s).1.d):=by
 induction op with
 |put k v=>
  by_cases c:inR k/\inR v
  ·rw[show ag l (.put k v) s=_ from if_pos c];generalize iE l s.V s.Q k v=zV;induction zV using Oc<;>first|exact dR|exact lY|exact jH
  ·rw[show ag l (.put k v) s=_ from aw c];first|exact lY|exact jH
 |del k=>
  show Pl 20 (pE _ s (cQ l s.V s.Q k).2).1.d;generalize(cQ l s.V s.Q k).2=zV;induction zV using Oc<;>first|exact CU _ _|exact lY|exact jH
 |get k=>
  show Pl 20 (oz s.V k);unfold oz;generalize bg s.V k=zV;induction zV using Oc<;>first|exact dR|exact dk _ _
 |bB=>exact dR
 |wx=>exact dR
 |mB=>exact dk _ _
 |sL=>exact dR
 |bG=>exact(A3 0 _).mono (Dn rfl)
theorem JD(l):∀(ops:List Op) (s:YS),∀d∈(ay l ops s).1,Pl 20 d:=by
 intro zV
 induction zV with
 |nil=>
  exact @fun ω ω h=>(nomatch h)
 |cons op r zI=>
  exact @fun s d h=>by
   refine Bc fun au=>?_;rcases cL.mp h with rfl|h
   ·apply au;exact Bi l op s
   ·apply au;exact zI _ d h
def st2(p:bT)(W G O:D)(tl:List (Nat×LV)):St:=⟨p.loc (.dat (.list (MJ p.pk)))++ [(99,.dat W),(147,.dat G),(157,.dat O)]++tl,p.aW,[],[]⟩
noncomputable def tz(a b:LV):List (Nat×LV):=[(142,a),(77,b)]
theorem WY(n)(p)(W G O):∀(xs:List D) (a b:LV),∃a' b',aO (fv (pJ 16)) (execs v8 (ae v8 n) (gz (pJ 16))) (xs.map fun x=>.tuple [x,x]) (st2 p W G O (tz a b))= .ok .next (st2 p W G O (tz a' b')):=by
 intro xs
 induction xs with
 |nil=>intro a b;exact⟨a,b,rfl⟩
 |cons x r ih=>
  intro a b;obtain⟨a',b',q⟩:=ih (.dat x) (.dat x);refine⟨a',b',bQ (st1:=st2 p W G O (tz (.dat x) (.dat x))) rfl ?_ q⟩
  induction x using PyData.casesOn with
  |bool b=>induction b<;>exact d7 [] [] [] aN (by kernel_rfl)
  |_=>exact d7 [] [] [] aN (by kernel_rfl)
theorem S7(n)(p)(W G O)(x)(r):∃a' b',aO (fv (pJ 16)) (execs v8 (ae v8 n) (gz (pJ 16))) ((x::r).map fun x=>.tuple [x,x]) (st2 p W G O [])= .ok .next (st2 p W G O (tz a' b')):=by
 obtain⟨a',b',q⟩:=WY n p W G O r (.dat x) (.dat x);refine⟨a',b',bQ (st1:=st2 p W G O (tz (.dat x) (.dat x))) rfl ?_ q⟩
 induction x using PyData.casesOn with
 |bool b=>induction b<;>exact d7 [] [] [] aN (by kernel_rfl)
 |_=>exact d7 [] [] [] aN (by kernel_rfl)
def Rt:Lt->D->Prop
 |.C,d=>d= .none
 |.R,d=>d= .none
 |.V,d=>d= .int 0
 |.W,d=>d= .none
 |_,_=>True
noncomputable def tw(a b c:LV):List (Nat×LV):=[(142,a),(77,b),(158,c)]
def Yd(c:Lt×D):D:=.tuple [.str c.1.s,c.2]
theorem WZ(n)(p)(W G O):∀(xs:List (Lt×D)) (hx:∀c∈xs,Rt c.1 c.2) (a b c:LV),∃a' c',aO (fv (pJ 17)) (execs v8 (ae v8 n) (gz (pJ 17))) (xs.map Yd) (st2 p W G O (tw a b c))= .ok .next (st2 p W G O (tw a' b c')):=by
 intro xs
 induction xs with
 |nil=>intro _ a b c;exact⟨a,c,rfl⟩
 |cons x r ih=>
  intro hx a b c;obtain⟨a',c',q⟩:=ih (fun y hy=>hx y (.tail _ hy)) (.dat x.2) b (.dat (.str x.1.s))
  haveI h:=hx x (.head _)
  obtain⟨u,d⟩:=x;refine⟨a',c',bQ (st1:=st2 p W G O (tw (.dat d) b (.dat (.str u.s)))) rfl ?_ q⟩;clear hx
  induction u with
  |C=>obtain rfl:d= .none:=h;exact d7 [] [] [] aN (by kernel_rfl)
  |R=>obtain rfl:d= .none:=h;exact d7 [] [] [] aN (by kernel_rfl)
  |V=>obtain rfl:d= .int 0:=h;exact d7 [] [] [] aN (by kernel_rfl)
  |W=>obtain rfl:d= .none:=h;exact d7 [] [] [] aN (by kernel_rfl)
  |_=>exact d7 [] [] [] aN (by kernel_rfl)
theorem S8(n)(p)(W G O)(x)(r)(hx:∀c∈x::r,Rt c.1 c.2)(a b):∃a' c',aO (fv (pJ 17)) (execs v8 (ae v8 n) (gz (pJ 17))) ((x::r).map Yd) (st2 p W G O (tz a b))= .ok .next (st2 p W G O (tw a' b c')):=by
 obtain⟨a',c',q⟩:=WZ n p W G O r (fun y hy=>hx y (.tail _ hy)) (.dat x.2) b (.dat (.str x.1.s))
 haveI h:=hx x (.head _)
 obtain⟨u,d⟩:=x;refine⟨a',c',bQ (st1:=st2 p W G O (tw (.dat d) b (.dat (.str u.s)))) rfl ?_ q⟩;clear hx
 induction u with
 |C=>obtain rfl:d= .none:=h;exact d7 [] [] [] aN (by kernel_rfl)
 |R=>obtain rfl:d= .none:=h;exact d7 [] [] [] aN (by kernel_rfl)
 |V=>obtain rfl:d= .int 0:=h;exact d7 [] [] [] aN (by kernel_rfl)
 |W=>obtain rfl:d= .none:=h;exact d7 [] [] [] aN (by kernel_rfl)
 |_=>exact d7 [] [] [] aN (by kernel_rfl)
theorem JE(as):kr as as=as.map fun x=>.tuple [x,x]:=by
 unfold kr
 induction as with
 |nil=>rfl
 |cons x r ih=>simp only[List.zipWith_cons_cons,ih];rfl
theorem Dc:∀(ls:List Lt) (ao:List D),kr (ls.map fun c=>.str c.s) ao=(ls.zip ao).map Yd
 | [],ao=>rfl
 |c::ls,[]=>rfl
 |c::ls,d::ao=>by
  exact bz _ (Dc ls ao)
theorem S9(p)(l)(tl):∀(ls:List Lt) (s:YS),∀c∈ls.zip (ay l (ls.map (Lt.op p)++tl) s).1,Rt c.1 c.2:=by
 intro zV
 induction zV with
 |nil=>
  exact @fun ω ω h=>(nomatch h)
 |cons u ls zI=>
  exact @fun s c h=>by
   refine Bc fun au=>?_;rcases cL.mp h with rfl|h
   ·apply au;cases(u)<;>first|trivial|rfl
   ·apply au;exact zI _ c h
theorem jZ(d:iC):Pl 20 (.list (d.bl.map dl)):=(A0 0 _).mono (Dn rfl)
theorem W2(n)(p)(oG:chars p.lf=(u::ls).map fun c=>.str c.s)(hp:∀z∈x::as,Pl 20 z)(ho:∀c∈(u::ls).zip (y::ao),Rt c.1 c.2):
  ∃a b c,execs v8 (ae v8 n) ((aH.body.drop 15).take 3) (st2 p (.tuple [.list (x::as),.list (d.bl.map dl),.int d.wr]) (tryD (x::as) d [] false) (tryD (y::ao) d' [] false) [])= .ok .next (st2 p (.tuple [.list (x::as),.list (d.bl.map dl),.int d.wr]) (tryD (x::as) d [] false) (tryD (y::ao) d' [] false) (tw a b c)):=by
 refine Bc fun au=>?_;obtain⟨a1,b1,q1⟩:=S7 n p (.tuple [.list (x::as),.list (d.bl.map dl),.int d.wr]) (tryD (x::as) d [] false) (tryD (y::ao) d' [] false) x as;obtain⟨a2,c2,q2⟩:=S8 n p (.tuple [.list (x::as),.list (d.bl.map dl),.int d.wr]) (tryD (x::as) d [] false) (tryD (y::ao) d' [] false) (u,y) (ls.zip ao) ho a1 b1;apply au;rw[<-JE]at q1;rw[show((u,y)::ls.zip ao).map Yd=kr (chars p.lf) (y::ao)by rw[oG,Dc];rfl]at q2
 haveI n1:bp .NotEq (.tuple [.list (x::as),.list (d.bl.map dl),.int d.wr]) (.tuple [.list (x::as),.list (d.bl.map dl),.int d.wr])=some false:=iD rfl ((mY 21 _ fun z hz=>by
  rcases cL.mp hz with rfl|hz
  ·exact gN 20 _ hp
  rcases cL.mp hz with rfl|hz
  ·exact(jZ d).mono (Dn rfl)
  rw[dp.mp hz];exact dk _ _).mono (Dn rfl))
 haveI n2:bp .NotEq (.tuple [.list [],.bool false]) (.tuple [.list [],.bool false])=some false:=by kernel_rfl
 exact⟨a2,b1,c2,d7 [340,342,345] [] [] (aR n1 (aR n2 (aR n2 (aL q1 (aL q2 aN))))) (by kernel_rfl)⟩
theorem q8(pre t)(m:Nat)(hm:0<m)(ht:t.length=m)(hl:pre.length+m<=1000):fZ (.list (pre++t)) (some (.int (-(m:Int)))) none=some (.list t):=by
 haveI hn:(pre++t).length=pre.length+m:=Rw cZ (Rw ht rfl)
 exact Rw ((I1 (pre++t) (-(m:Int)) pre.length (by simp only[small,dg,iZ];exact⟨Int.neg_lt_neg (Br (kn.mpr (aI (jm ..) hl)) (by decide)),Br (Int.neg_nonpos_of_nonneg (zQ m)) (by decide)⟩) (by delta eJ;rw[if_pos (Int.neg_neg_of_pos (kc.mpr hm)),hn];exact bz Int.toNat ((BR ..).trans (Nh (pre.length:Int) m))) (Rw hn (aI hl (Dn rfl)))).2) (Rw Oe rfl)
theorem u4(h:∀z∈xs,Pl 20 z):Pl 60 (.list xs):=(gN 20 _ h).mono (Dn rfl)
section
variable(n:Nat)(p:bT)(a b c:LV)
theorem Ta{W:D}(hx:0<=p.ex)(ht:t.length=4)(h1:pre.length<=100)(h2:pre'.length<=100)(hp:∀z∈t,Pl 20 z)(hb:d'.bl=d.bl)(hw:d'.wr=d.wr+p.ex):
  execs v8 (ae v8 n) ((aH.body.drop 18).take 1) (st2 p W (tryD (pre++t) d [] false) (tryD (pre'++t) d' [] false) (tw a b c))= .ok .next (st2 p W (tryD (pre++t) d [] false) (tryD (pre'++t) d' [] false) (tw a b c)):=by
 exact d7 [348] [348023036,348040051] [] (aR (tM (a:=p.ex) (b:=0) (bP hx)) (aV (q8 pre' t 4 (Dn rfl) ht (aI (l4 h2 _) (Dn rfl))) (aV (q8 pre t 4 (Dn rfl) ht (aI (l4 h1 _) (Dn rfl))) (aR (iD rfl (u4 hp)) (aR (iD (a:=.list (d'.bl.map dl)) (b:=.list (d.bl.map dl)) (Rw hb rfl) ((jZ d').mono (Dn rfl))) (aR (iD (a:=.int d'.wr) (b:=.int (d.wr+p.ex)) (bz _ hw) (dk _ _)) aN)))))) (by kernel_rfl)
theorem Tb{W G:D}(hx:¬0<=p.ex):execs v8 (ae v8 n) ((aH.body.drop 18).take 1) (st2 p W G O (tw a b c))= .ok .next (st2 p W G O (tw a b c)):=
 d7 [348] [] [] (aR (tM (a:=p.ex) (b:=0) (dx hx)) aN) (by kernel_rfl)
end
theorem wQ(hw:Pl 20 (.str w))(hp:∀z∈sp,Pl 20 z):bp .NotIn (.str w) (.list sp)=some (!(sp.any fun y=>PyData.eqv y (.str w))):=by
 haveI h1:cN (.list sp)=true:=by
  haveI:=u4 hp
  simp only[cN,this.1,BH,iZ];exact aI this.2 (Dn rfl)
 haveI h2:cN (.str w)=true:=by simp only[cN,hw.1,BH,iZ];exact aI hw.2 (Dn rfl)
 show(if(cN (.list sp)&&cN (.str w))=true then _ else _:Option Bool).map _=_;refine Rw h1 ?_;refine Rw h2 ?_;rfl
theorem so(hw:Pl 20 (.str w)){sp:List D}(h:(sp.any fun y=>PyData.eqv y (.str w))=false):∀y∈sp,y≠ .str w:=fun y hy e=>by
 haveI:=Fw.mp h y hy
 exact((SeqAt.eqv_refl _ hw.1)▸e▸this) rfl
def gB(p:bT)(W:D)(ga ao:List D)(d d':iC)(a b c:LV):St:=st2 p W (tryD ga d [] false) (tryD ao d' [] false) (tw a b c++ [(159,.dat (.list (ga++ao)))])
def lx(sp:List D):Prop:=(sp.any fun y=>PyData.eqv y (.str "FullError"))=false/\(sp.any fun y=>PyData.eqv y (.str "ValueError"))=false
section
variable(n:Nat)(p:bT){ga ao:List D}(hg:ga.length<=100)(ho:ao.length<=100)(hp:∀z∈ga++ao,Pl 20 z)(a b c:LV)
include hg ho hp
theorem Bj:fE .add (.list ga) (.list ao)=some (.list (ga++ao)):=by
 exact(if_pos (aI (show ga.length+ao.length<=200 by exact aI (xl hg ho) (Dn rfl)) (Dn rfl)))
theorem Td{W:D}(hn:¬lx (ga++ao)):execs v8 (ae v8 n) ((aH.body.drop 19).take 2) (st2 p W (tryD ga d [] false) (tryD ao d' [] false) (tw a b c))= .ok .next (gB p W ga ao d d' a b c):=by
 haveI q1:=wQ lY hp
 haveI q2:=wQ jH hp
 generalize h1:((ga++ao).any fun y=>PyData.eqv y (.str "FullError"))=zV
 induction zV using Tc with
 |true=>exact d7 [351] [350013030] [] (aV (Bj hg ho hp) (aR (h1▸q1) aN)) (by kernel_rfl)
 |false=>
  generalize h2:((ga++ao).any fun y=>PyData.eqv y (.str "ValueError"))=zV
  induction zV using Tc with
  |true=>rw[h1]at q1;exact d7 [351] [350013030] [] (aV (Bj hg ho hp) (aR q1 (aR (h2▸q2) aN))) (by kernel_rfl)
  |false=>exact absurd ⟨h1,h2⟩ hn
end
section
variable(n:Nat)(p:bT){pre pre' t:List D}(ht:t.length=2)(h1:pre.length<=90)(h2:pre'.length<=90)(hp:∀z∈(pre++t)++(pre'++t),Pl 20 z)(hn:lx ((pre++t)++(pre'++t)))(a b c:LV)
include ht h1 h2 hp hn
theorem sU(q:All v8 r):All v8 (.val (fE .add (.list (pre++t)) (.list (pre'++t))) (.list ((pre++t)++(pre'++t))):: .rel .NotIn (.str "FullError") (.list ((pre++t)++(pre'++t))) true:: .rel .NotIn (.str "ValueError") (.list ((pre++t)++(pre'++t))) true:: .val (fZ (.list (pre'++t)) (some (.int (-2))) none) (.list t):: .val (fZ (.list (pre++t)) (some (.int (-2))) none) (.list t):: .rel .NotEq (.list t) (.list t) false::r):=by
 haveI q1:=wQ lY hp
 haveI q2:=wQ jH hp
 rw[hn.1]at q1;rw[hn.2]at q2;exact aV (Bj (by simp;lia) (by simp;lia) hp) (aR q1 (aR q2 (aV (q8 pre' t 2 (Dn rfl) ht (fj (tZ h2) (Dn rfl))) (aV (q8 pre t 2 (Dn rfl) ht (fj (tZ h1) (Dn rfl))) (aR (iD rfl (u4 fun z hz=>hp z (cG.mpr (.inl (cG.mpr (.inr hz)))))) q)))))
theorem MK{W:D}(hx:p.ex≠ -2)(hr:bp .Eq (.str p.rt) (.str "aCbC")=some false):execs v8 (ae v8 n) ((aH.body.drop 19).take 2) (st2 p W (tryD (pre++t) d [] false) (tryD (pre'++t) d' [] false) (tw a b c))= .ok .next (gB p W (pre++t) (pre'++t) d d' a b c):=
 d7 [351,352,354,356] [350013030,352011024,352028039] [] (sU ht h1 h2 hp hn (aR (ji (a:=p.ex) (b:=-2) (dx hx)) (aR hr aN))) (by kernel_rfl)
theorem ML{W:D}(hx:p.ex≠ -2)(hr:bp .Eq (.str p.rt) (.str "aCbC")=some true){os:List bt}(hc:ae v8 (n+1) 118 [.dat (lr (E8 p.l++p.tab)),.dat (.list [.list [bO p.a],.list [bO p.b]]),.dat (.int 3),.dat (.int (p.l:Int)),.dat (.int (-1))] []= .ok (.dat (.tuple [.list (d.bl.map dl),.int 2])) os):
  execs v8 (ae v8 (n+1)) ((aH.body.drop 19).take 2) (st2 p W (tryD (pre++t) d [] false) (tryD (pre'++t) d' [] false) (tw a b c))= .ok .next (gB p W (pre++t) (pre'++t) d d' a b c):=by
 haveI ne:bp .NotEq (.tuple [.list (d.bl.map dl),.int 2]) (.tuple [.list (d.bl.map dl),.int 2])=some false:=iD rfl ((mY 20 _ fun z hz=>by
  rcases cL.mp hz with rfl|hz
  ·exact jZ d
  rw[dp.mp hz];exact dk _ _).mono (Dn rfl))
 exact d7 [351,352,354,356] [350013030,352011024,352028039] [118] (sU ht h1 h2 hp hn (aR (ji (a:=p.ex) (b:=-2) (dx hx)) (aR hr (aC hc (aR ne aN))))) (by kernel_rfl)
theorem MM{W:D}(hx:p.ex= -2)(hr:bp .Eq (.str p.rt) (.str "aCbC")=some true)(hH:Pl 20 (.list H))(hs1:fZ (.list (d'.bl.map dl)) (some (.int (1+(p.l:Int)))) none=some (.list H))(D6:fZ (.list (d.bl.map dl)) (some (.int (1+(p.l:Int)))) none=some (.list H)){os:List bt}(hc:ae v8 (n+1) 118 [.dat (lr (E8 p.l++p.tab)),.dat (.list [.list [bO p.a],.list [bO p.b]]),.dat (.int 3),.dat (.int (p.l:Int)),.dat (.int (-1))] []= .ok (.dat (.tuple [.list (d.bl.map dl),.int 2])) os):
  execs v8 (ae v8 (n+1)) ((aH.body.drop 19).take 2) (st2 p W (tryD (pre++t) d [] false) (tryD (pre'++t) d' [] false) (tw a b c))= .ok .next (gB p W (pre++t) (pre'++t) d d' a b c):=by
 haveI ne:bp .NotEq (.tuple [.list (d.bl.map dl),.int 2]) (.tuple [.list (d.bl.map dl),.int 2])=some false:=iD rfl ((mY 20 _ fun z hz=>by
  rcases cL.mp hz with rfl|hz
  ·exact jZ d
  rw[dp.mp hz];exact dk _ _).mono (Dn rfl))
 exact d7 [351,352,354,356] [350013030,352011024,352028039,354027046,354050067] [118] (sU ht h1 h2 hp hn (aR (ji (a:=p.ex) (b:=-2) (bP hx)) (aV hs1 (aV D6 (aR (iD rfl (hH.mono (Dn rfl))) (aR hr (aC hc (aR ne aN)))))))) (by kernel_rfl)
end
theorem JF(pre)(x)(h:pre.length<=1000):bZ (.list (pre++ [x])) (.int (-1))=some x:=by
 show Gd (pre++ [x]) (-1)=some x
 delta Gd
 haveI hl:(pre++ [x]).length=pre.length+1:=by simp
 rw[aw (by decide),if_pos ⟨by rw[hl];exact Int.neg_le_neg (kn.mpr (gU _)),by decide⟩,hl,show((-1:Int)+((pre.length+1:Nat):Int)).toNat=pre.length by exact bz Int.toNat ((BR ..).trans (Nh (pre.length:Int) 1)),Bm (fB _),Nat.sub_self];rfl
theorem JG(es):Pl 60 (lr es):=(A0 0 _).mono (Dn rfl)
noncomputable def Dd(l:Nat):List En:=List.replicate (3+l) none
theorem Te(n l:Nat)(hl:l=1\/l=2):∃os,ae v8 (n+5) 29 [.dat (.int 3),.dat (.int (l:Int))] []= .ok (.dat (lr (Dd l))) os:=by
 refine O2 hl ?_ ?_
 ·exact⟨_,Ex n⟩
 ·exact⟨_,Ey n⟩
theorem EI(l:Nat)(hl:l=1\/l=2):fE .mul (.list [.none]) (.int (3+(l:Int)))=some (.list ((Dd l).map bE)):=by
 refine O2 hl ?_ ?_<;>kernel_rfl
theorem W4(n)(p)(hl:p.l=1\/p.l=2)(hpre:pre.length<=100)(a b c){os:List bt}(hr:ae v8 (n+5) 119 [.dat (.list (d.bl.map dl)),.dat (.int 3),.dat (.int (p.l:Int))] []= .ok (.dat (.list (bG x))) os):
  execs v8 (ae v8 (n+5)) ((aH.body.drop 21).take 2) (gB p (.tuple [.list (pre++ [.list (bG x)]),im,wr]) (pre++ [.list (bG x)]) ao d d' a b c)= .ok .next (gB p (.tuple [.list (pre++ [.list (bG x)]),im,wr]) (pre++ [.list (bG x)]) ao d d' a b c):=by
 obtain⟨o,hf⟩:=Te n p.l hl;exact d7 [358,360] [358042061,360034045] [29,121,119] (aC hf (aV (EI p.l hl) (aC (gm (n+3) (Dd p.l) (fun e he=>Rw (List.eq_of_mem_replicate he) (fun ω z=>(nomatch z))) (by refine Rw Fd ?_;exact O2 hl (Dn rfl) (Dn rfl))) (aR (iD rfl (JG (Dd p.l))) (aC hr (aV (JF pre (.list (bG x)) (aI hpre (Dn rfl))) (aR (iD rfl ((A3 0 x).mono (Dn rfl))) aN))))))) (by kernel_rfl)
def zY(p:bT)(W G O:D)(a b c:LV)(sp:List D)(tl:List (Nat×LV)):St:=st2 p W G O (tw a b c++ [(159,.dat (.list sp))]++tl)
noncomputable def tc(m pw:Nat)(C:D)(last:D)(sV:Bool)(named:Nat)(after:D):List (Nat×LV):=[(71,.dat (.int (pw:Int))),(41,.dat (.int (m:Int))),(160,.dat C),(161,.dat last),(97,.dat (.bool sV)),(162,.dat (.int (named:Int))),(163,.dat after)]
theorem JH(m:Nat)(w)(h:w=2*(m:Int)+2):fE .sub (.int (Int.fdiv w 2)) (.int 1)=some (.int (m:Int)):=
 Rw h (bz (fun z=>some (PyData.int z)) ((bz (fun z:Nat=>(z:Int)-1) (Nat.mul_div_cancel_left (m+1) (Dn rfl:0<2))).trans (Int.add_sub_cancel (m:Int) 1)))
theorem Tf(x y)(h:(if y<x then y else x)=z):minD (.int x) (.int y)=some (.int z):=bz (fun i=>some (PyData.int i)) h
theorem zm:Pl 20 (.str "PowerLoss"):=⟨by kernel_rfl,u9 (by kernel_rfl)⟩
theorem PT(d:iC){i j k:Int}:Pl 60 (.tuple [.list [.int i,.int j],.list (d.bl.map dl),.int k]):=(mY 20 _ (Al ((gN 0 _ (Al (dk _ _) (Al (dk _ _) An))).mono (Dn rfl)) (Al (jZ d) (Al (dk _ _) An)))).mono (Dn rfl)
noncomputable def lst(ok:Bool):D:=if ok then .none else .str "PowerLoss"
noncomputable def nmd(ok:Bool)(m:Nat):Nat:=if ok then 0 else m
theorem JI{a b:Nat}(h:a<=b):a<2*b+2:=vg (Fy (aI h (Nm b (Dn rfl))))
theorem W5{x:Int}{pw m:Nat}(h:x=((min pw (2*m+2):Nat):Int)):minD (.int (pw:Int)) (.int (2*(m:Int)+2))=some (.int x):=by
 refine Tf _ _ (Rw h ?_);by_cases z:2*m+2<pw
 ·exact(if_pos (kc.mpr z)).trans (Rw (By (pR z)) rfl)
 ·exact(aw fun q=>z (kc.mp q)).trans (Rw (pM (kl z)) rfl)
section
variable(n:Nat)(p:bT)(a b c:LV)(sp:List D){m pw:Nat}(hm:m<=2){A B:D}(hA:Pl 20 A)(hB:Pl 20 B){im:List (List Int)}{w:Int}(hw:w=2*(m:Int)+2){o1 o2 o3:List bt}{x14:Int}(JJ:bZ p.S (.int 14)=some (.int x14))(h8:Int.fmod x14 8=(pw:Int))(hW:ae v8 (n+1) 124 [.dat (.int (p.l:Int)),.dat (.list (p.tab.map bE)),.dat (.list ((E8 p.l).map bE)),.dat (.list [bO p.a,bO p.b,bO .bB])] []= .ok (.dat (.tuple [.list [A,B,.none],.list (im.map dl),.int w])) o1){dc:iC}{xs:List D}{ok:Bool}(hC:ae v8 (n+1) 126 [.dat (lr (E8 p.l++p.tab)),.dat (.int (p.l:Int)),.dat (.int (pw:Int)),.dat (.list [bO p.a,bO p.b,bO .bB])] []= .ok (.dat (tryD [A,B,lst ok] dc xs (!ok))) o2)(hcw:dc.wr=((min pw (2*m+2):Nat):Int)){named:Nat}{df:iC}(hfw:df.wr=(named:Int)+2)(hV:ae v8 (n+1) 126 [.dat (.list (dc.bl.map dl)),.dat (.int (p.l:Int)),.dat (.int (-1)),.dat (.list [bO .mB,bO .mB])] []= .ok (.dat (tryD [.int (named:Int),.int 0] df [] false)) o3)
include hm hA hB hw JJ h8 hW hC hcw hfw hV
theorem MN{W0 G O:D}(PU:m<pw)(r2:ok=decide (2*m+2<=pw))(Pm:named=nmd ok m)(hd:df.bl=im):
  execs v8 (ae v8 (n+1)) ((aH.body.drop 23).take 8) (zY p W0 G O a b c sp [])= .ok .next (zY p (.tuple [.list [A,B,.none],.list (im.map dl),.int w]) G O a b c sp (tc m pw (tryD [A,B,lst ok] dc xs (!ok)) (lst ok) (!ok) named (.list (im.map dl)))):=by
 haveI W6:fE .mod (.int x14) (.int 8)=some (.int (pw:Int)):=bz (fun z=>some (PyData.int z)) h8
 haveI hmul:=Bd 2 (gR m (aI hm (Dn rfl)))
 haveI MO:=W5 hcw
 subst hd
 haveI e4:bp .NotEq (.tuple [.list [.int (named:Int),.int 0],.list (df.bl.map dl),.int df.wr]) (.tuple [.list [.int (named:Int),.int 0],.list (df.bl.map dl),.int ((named:Int)+2)])=some false:=iD (Rw hfw rfl) (PT df)
 haveI g1:bp .Lt (.int (m:Int)) (.int (pw:Int))=some true:=fL (bP (kc.mpr PU))
 haveI g2:bp .Gt (.int (pw:Int)) (.int (m:Int))=some true:=og (bP (kc.mpr PU))
 haveI e5:bp .NotEq (.int dc.wr) (.int dc.wr)=some false:=iD rfl (dk _ _)
 subst Pm
 induction ok using Tc with
 |false=>
  haveI g3:bp .Lt (.int (pw:Int)) (.int (2*(m:Int)+2))=some true:=fL (bP (kc.mpr (N5 (of_decide_eq_false r2.symm))))
  haveI e6:bp .NotEq (.bool true) (.bool true)=some false:=by kernel_rfl
  exact d7 [365,366,367,368,370] [363016032,363034044,363034048,365048053,366029034,368051072,368062067] [124,126] (aC hW (aV (JH _ w hw) (aV JJ (aV W6 (aC hC (aV hmul (aR g3 (aR g1 (aV hmul (aR g3 (aR g2 (aR (iD rfl (u4 (Al hA (Al hB (Al zm An))))) (aV hmul (aV MO (aR e5 (aR e6 (aC hV (aR e4 aN)))))))))))))))))) (by kernel_rfl)
 |true=>
  haveI g3:bp .Lt (.int (pw:Int)) (.int (2*(m:Int)+2))=some false:=fL (dx (dX.mpr (kn.mpr (bR r2.symm))))
  haveI e6:bp .NotEq (.bool false) (.bool false)=some false:=by kernel_rfl
  exact d7 [365,366,367,368,370] [363016032,363034044,363034048,365048053,366029034,368051072,368062067] [124,126] (aC hW (aV (JH _ w hw) (aV JJ (aV W6 (aC hC (aV hmul (aR g3 (aR g1 (aV hmul (aR g3 (aR g2 (aR (iD rfl (u4 (Al hA (Al hB (Al dR An))))) (aV hmul (aV MO (aR e5 (aR e6 (aC hV (aR e4 aN)))))))))))))))))) (by kernel_rfl)
theorem MP{W0 G O:D}(hle:pw<=m)(hok:ok=false)(Pm:named=0){X1 X2 X12 X3:List D}(hs1:fZ (lr (E8 p.l++p.tab)) none (some (.int 1))=some (.list X1))(D6:fZ (.list (im.map dl)) (some (.int 1)) (some (.int (1+(pw:Int))))=some (.list X2))(ha1:fE .add (.list X1) (.list X2)=some (.list X12))(hs3:fZ (lr (E8 p.l++p.tab)) (some (.int (1+(pw:Int)))) none=some (.list X3))(X4:fE .add (.list X12) (.list X3)=some (.list (df.bl.map dl))):
  execs v8 (ae v8 (n+1)) ((aH.body.drop 23).take 8) (zY p W0 G O a b c sp [])= .ok .next (zY p (.tuple [.list [A,B,.none],.list (im.map dl),.int w]) G O a b c sp (tc m pw (tryD [A,B,.str "PowerLoss"] dc xs true) (.str "PowerLoss") true 0 (.list (df.bl.map dl)))):=by
 haveI hmul:=Bd 2 (gR m (aI hm (Dn rfl)))
 haveI e3:=iD rfl (u4 (Al hA (Al hB (Al zm An))))
 haveI MO:=W5 hcw
 subst Pm hok
 haveI e4:bp .NotEq (.tuple [.list [.int ((0:Nat):Int),.int 0],.list (df.bl.map dl),.int df.wr]) (.tuple [.list [.int ((0:Nat):Int),.int 0],.list (df.bl.map dl),.int (((0:Nat):Int)+2)])=some false:=iD (Rw hfw rfl) (PT df)
 haveI Aa:=dX.mpr (kn.mpr hle)
 haveI g1:bp .Lt (.int (m:Int)) (.int (pw:Int))=some false:=fL (dx Aa)
 haveI g2:bp .Gt (.int (pw:Int)) (.int (m:Int))=some false:=og (dx Aa)
 haveI e5:bp .NotEq (.int dc.wr) (.int dc.wr)=some false:=iD rfl (dk _ _)
 haveI g3:bp .Lt (.int (pw:Int)) (.int (2*(m:Int)+2))=some true:=fL (bP (kc.mpr (JI hle)))
 haveI e6:bp .NotEq (.bool true) (.bool true)=some false:=by kernel_rfl
 exact d7 [365,366,367,368,370] [363016032,363034044,363034048,365048053,366029034,367038046,367049069,367038069,367072088,367038088,368051072,368062067] [124,126] (aC hW (aV (JH _ w hw) (aV JJ (aV (bz (fun z=>some (PyData.int z)) h8) (aC hC (aV hmul (aR g3 (aR g1 (aR g2 (aV hs1 (aV D6 (aV ha1 (aV hs3 (aV X4 (aR e3 (aV hmul (aV MO (aR e5 (aR e6 (aC hV (aR e4 aN))))))))))))))))))))) (by kernel_rfl)
end
theorem cg:∀{a b:List MS} {st st1:St} {R:Res dJ},execs P cf a st= .ok .next st1->execs P cf b st1=R->execs P cf (a++b) st=R
 | [],b,st,st1,R,h1,h2=>by
  have:st=st1:=by injection h1
  exact Rw this h2
 |m::a,b,st,st1,R,h1,h2=>by
  have e (ms:List MS) (s:St):execs P cf (m::ms) s=(exec P cf m s).bind fun f s=>match f with|.next=>execs P cf ms s|f=>.ok f s:=rfl
  rw[e]at h1;show execs P cf (m::(a++b)) st=R;rw[e];generalize q:exec P cf m st=zV
  induction zV using Res.casesOn with
  |ok f s=>
   rw[q]at h1
   induction f with
   |next=>exact cg (a:=a) h1 h2
   |cont=>cases h1
   |ret r=>cases h1
  |exc x s=>rw[q]at h1;exact nomatch h1
  |bad=>rw[q]at h1;exact nomatch h1
theorem zo(n:Nat)(p:bT)(hd:Du p.l ⟨(E8 p.l).map eb,p.tab,[],0⟩ (E8 p.l))(ops:List Op)(ho:Je p.l ops ⟨(E8 p.l).map eb,p.tab,[],0⟩)(hl:ops.length<=50)(hq:(ay p.l ops ⟨(E8 p.l).map eb,p.tab,[],0⟩).2.Q= []):
  let s:=(ay p.l ops ⟨(E8 p.l).map eb,p.tab,[],0⟩).2
  (∃os,ae v8 (n+3) 124 [.dat (.int (p.l:Int)),.dat (.list (p.tab.map bE)),.dat (.list ((E8 p.l).map bE)),.dat (.list (ops.map bO))] []= .ok (.dat (.tuple [.list (ay p.l ops ⟨(E8 p.l).map eb,p.tab,[],0⟩).1,.list ((aJ s.log s.tab (-1) s.wr).bl.map dl),.int s.wr])) os):=by
 obtain⟨E',z4⟩:=SG n p.l p.tab (E8 p.l) hd ops ho hl;refine⟨[],z4.2.trans ?_⟩
 haveI hv:v3 (ay p.l ops ⟨(E8 p.l).map eb,p.tab,[],0⟩).2.V=(ay p.l ops ⟨(E8 p.l).map eb,p.tab,[],0⟩).2.tab:=by
  obtain⟨t0,t1,t2,ht⟩:=mZ z4.1.ok.lt
  delta v3 YS.V
  refine Rw hq ?_;refine Rw ht ?_;rfl
 refine Rw hv ?_;simp only[lr,aJ];refine Rw z4.1.lg (Rw kb ?_);rfl
structure De(ex:Int)(G O:List D×YS):Prop where
 t4:0<=ex->∃pre pre' t,G.1=pre++t/\O.1=pre'++t/\t.length=4/\pre.length<=8/\pre'.length<=8/\O.2.log=G.2.log/\O.2.tab=G.2.tab/\O.2.wr=G.2.wr+ex
 t2:lx (G.1++O.1)->∃pre pre' t,G.1=pre++t/\O.1=pre'++t/\t.length=2/\pre.length<=10/\pre'.length<=10
 hm:lx (G.1++O.1)->ex= -2->O.2.tab=G.2.tab
theorem j0(hx:0<=ex)(h1:pre.length<=8)(h2:pre'.length<=8){G:List D×YS}(hG:G.1=pre++(ay l (jI b k) s).1)(hO:O.1=pre'++(ay l (jI b k) s).1)(hs:O.2=G.2.up ex):De ex G O:=by
 refine⟨fun ω=>⟨pre,pre',_,hG,hO,rfl,h1,h2,Rw hs rfl,Rw hs rfl,bz _ hs⟩,fun ω=>?_,fun ω z=>absurd (z▸hx) (by decide)⟩;refine⟨pre++(ay l (jI b k) s).1.take 2,pre'++(ay l (jI b k) s).1.take 2,(ay l (jI b k) s).1.drop 2,?_,?_,rfl,?_,?_⟩
 ·exact Rw (j9 ..) (Rl ((Di 2 _).symm) hG)
 ·exact Rw (j9 ..) (Rl ((Di 2 _).symm) hO)
 ·refine Rw cZ ?_;exact l4 h1 _
 ·refine Rw cZ ?_;exact l4 h2 _
theorem q9(hx:ex<0)(h1:pre.length<=8)(h2:pre'.length<=8){G:List D×YS}(hG:G.1=pre++(ay l [.bB,.get k,.bG] s).1)(hO:O.1=pre'++(ay l [.bB,.get k,.bG] s').1)(he:lx (G.1++O.1)->(ay l [.bB,.get k,.bG] s').1=(ay l [.bB,.get k,.bG] s).1)(hm:lx (G.1++O.1)->ex= -2->O.2.tab=G.2.tab):De ex G O:=by
 refine⟨fun z=>absurd hx (dX.mpr z),fun hn=>?_,hm⟩;refine⟨pre++(ay l [.bB,.get k,.bG] s).1.take 1,pre'++(ay l [.bB,.get k,.bG] s).1.take 1,(ay l [.bB,.get k,.bG] s).1.drop 1,?_,?_,rfl,?_,?_⟩
 ·exact Rw (j9 ..) (Rl ((Di 1 _).symm) hG)
 ·refine Rw (j9 ..) (Rl ((Di 1 _).symm) ?_);exact Rl (he hn) hO
 ·refine Rw cZ ?_;exact fj h1 (Dn rfl)
 ·rw[cZ];exact fj h2 (Dn rfl)
theorem cF(h:lx sp)(ha:a.d∈sp):gO a:=by
 refine⟨fun e=>?_,fun e=>?_⟩
 ·subst e;exact so lY h.1 _ ha rfl
 ·subst e;exact so jH h.2 _ ha rfl
section
variable{l:Nat}(hl:1<=l){s:YS}(hs:s.Ok l)(hn:pG s.V)(hq:s.Q= []){a b q:Op}(ha:dm a)(hb:dm b)(Tg:dm q)(k v v1:Int)(hk:inR k/\inR v)
include hs hn hq ha hb
theorem k0:De 0 (ay l (jI b k) s) (ay l (a:: .wx::jI b k) s):=j0 (by decide) (pre:=[]) (pre':=[_,_]) (by simp) (by simp) rfl (by rw[wd0 hq ha];rfl) (by rw[wd0 hq ha];unfold YS.up;rw[BQ])
theorem k1:De 1 (ay l (jI b k) s) (ay l (a:: .mB::jI b k) s):=j0 (by decide) (pre:=[]) (pre':=[_,_]) (by simp) (by simp) rfl (by rw[wd1 hq ha];rfl) (bz _ (wd1 hq ha ..))
theorem k2:De 1 (ay l (a:: .bB::jI b k) s) (ay l (a:: .bB:: .mB::jI b k) s):=j0 (by decide) (pre:=[_,_]) (pre':=[_,_,_]) (by simp) (by simp) rfl (by rw[wd2];rfl) (bz _ (wd2 ..))
theorem k3:De 2 (ay l (a:: .bB::jI b k) s) (ay l (a:: .bB:: .bB:: .wx::jI b k) s):=j0 (by decide) (pre:=[_,_]) (pre':=[_,_,_,_]) (by simp) (by simp) rfl (by rw[wd3 hs];rfl) (bz _ (wd3 hs ..))
theorem k4:De 0 (ay l (a::jI b k) s) (ay l (a::a::jI b k) s):=j0 (by decide) (pre:=[_]) (pre':=[_,_]) (gU _) (by simp) rfl (by rw[wd4 hs ha k hn];rfl) (by rw[wd4 hs ha k hn];unfold YS.up;rw[BQ])
theorem k5:De 4 (ay l (.sL::jI b k) s) (ay l (a:: .sL:: .wx:: .sL::jI b k) s):=j0 (by decide) (pre:=[_]) (pre':=[_,_,_,_]) (by simp) (by simp) rfl (by rw[wd5 hq ha];rfl) (by rw[wd5 hq ha])
omit ha hb in
include hl hk in
theorem k6:De 0 (ay l (jI (.put k v) k) s) (ay l (.put k v1::jI (.put k v) k) s):=j0 (by decide) (pre:=[]) (pre':=[_]) (by simp) (by simp) rfl (by rw[wd6 hl hs hn hq hk v1];rfl) (by rw[wd6 hl hs hn hq hk v1];show _=YS.up _ 0;unfold YS.up;rw[BQ])
omit hb in
include Tg in
theorem k7(hne:keyOf a≠keyOf q):De (-1) (ay l [q,a,.bB,.get k,.bG] s) (ay l [a,q,.bB,.get k,.bG] s):=
 q9 (by decide) (pre:=[_,_]) (pre':=[_,_]) (by simp) (by simp) rfl rfl (fun h=>wd7 hs hn ha Tg k hne (cF h (cG.mpr (.inr (.head _)))) (cF h (cG.mpr (.inr (.tail _ (.head _))))) (cF h (cG.mpr (.inl (.head _)))) (cF h (cG.mpr (.inl (.tail _ (.head _)))))) (fun ω z=>by lia)
theorem k8:De (-1) (ay l [b,a,.bB,.get k,.bG] s) (ay l [a,b,a,.bB,.get k,.bG] s):=
 q9 (bR rfl) (pre:=[_,_]) (pre':=[_,_,_]) (Dn rfl) (Dn rfl) rfl rfl (fun h=>wd8 hs hn ha hb k (cF h (cG.mpr (.inr (.head _)))) (cF h (cG.mpr (.inr (.tail _ (.head _))))) (cF h (cG.mpr (.inr (.tail _ (.tail _ (.head _)))))) (cF h (cG.mpr (.inl (.head _)))) (cF h (cG.mpr (.inl (.tail _ (.head _)))))) (fun ω z=>by lia)
theorem k9(he:∀(H:Int->Int->Prop) k v,ng b (ng a H) k v↔ng b H k v):De (-1) (ay l [b,.bB,.get k,.bG] s) (ay l [a,b,.bB,.get k,.bG] s):=
 q9 (bR rfl) (pre:=[_]) (pre':=[_,_]) (gU _) (by simp) rfl rfl (fun h=>wd9 hs hn ha hb k he (cF h (cG.mpr (.inr (.head _)))) (cF h (cG.mpr (.inr (.tail _ (.head _))))) (cF h (cG.mpr (.inl (.head _))))) (fun ω z=>absurd z (by decide))
theorem k11:De (-2) (ay l [a,.bB,b,.bB,.get k,.bG] s) (ay l [a,b,.bB,.get k,.bG] s):=by
 have w (h:lx ((ay l [a,.bB,b,.bB,.get k,.bG] s).1++(ay l [a,b,.bB,.get k,.bG] s).1)):=aas hs hn ha hb k (cF h (cG.mpr (.inr (.head _)))) (cF h (cG.mpr (.inr (.tail _ (.head _))))) (cF h (cG.mpr (.inl (.tail _ (.tail _ (.head _))))))
 exact q9 (by decide) (pre:=[_,_,_]) (pre':=[_,_]) (Dn rfl) (by simp) rfl rfl (fun h=>(w h).2) (fun h ω=>by
  refine(?_:(List.range 3).map (ag l b (ag l a s).2).2.V=(List.range 3).map (ag l b (ag l .bB (ag l a s).2).2).2.V)
  rw[(w h).1])
end
def s8(p:bT):YS:=⟨(E8 p.l).map eb,p.tab,[],0⟩
def fQ(s:YS):iC:=aJ s.log s.tab (-1) s.wr
theorem rf(p:bT):lr (E8 p.l++p.tab)= .list ((aJ ((E8 p.l).map eb) p.tab (-1) 0).bl.map dl):=by
 simp only[lr,aJ];exact Rw kb rfl
theorem W7(n)(p)(h:(s8 p).Ok p.l)(ops)(hl:ops.length<=50)(hq:(ay p.l ops (s8 p)).2.Q= []):
  ∃os,ae v8 (n+7) 126 [.dat (lr (E8 p.l++p.tab)),.dat (.int (p.l:Int)),.dat (.int (-1)),.dat (.list (ops.map bO))] []= .ok (.dat (tryD (ay p.l ops (s8 p)).1 (fQ (ay p.l ops (s8 p)).2) [] false)) os:=by
 obtain⟨os,e⟩:=So n p.l ((E8 p.l).map eb) p.tab h ops (aI hl (Dn rfl));rw[show(ay p.l ops ⟨(E8 p.l).map eb,p.tab,[],0⟩).2.Q= []from hq]at e;rw[rf];exact⟨os,e⟩
theorem qL(n)(p)(hl:p.l=1\/p.l=2)(hd:Du p.l (s8 p) (E8 p.l))(hR:lsR.length<=8)(hL:lsL.length<=8)(hr:chars p.rt=(uR::lsR).map fun c=>.str c.s)(hf:chars p.lf=(uL::lsL).map fun c=>.str c.s)(ho:Je p.l ((uR::lsR).map (Lt.op p)++gp p.pk) (s8 p))(q1:(ay p.l ((uR::lsR).map (Lt.op p)++gp p.pk) (s8 p)).2.Q= [])(q2:(ay p.l ((uL::lsL).map (Lt.op p)++gp p.pk) (s8 p)).2.Q= [])(W8:∃pre,(ay p.l ((uR::lsR).map (Lt.op p)++gp p.pk) (s8 p)).1=pre++ [.list (bG (cK (vw (ay p.l ((uR::lsR).map (Lt.op p)++gp p.pk) (s8 p)).2.tab [])))]/\pre.length<=100)(hW:De p.ex (ay p.l ((uR::lsR).map (Lt.op p)++gp p.pk) (s8 p)) (ay p.l ((uL::lsL).map (Lt.op p)++gp p.pk) (s8 p)))(hpb:bp .Eq (.str p.rt) (.str "aCbC")=some pb)(h2:p.ex= -2->pb=true)(W9:pb=true->lx ((ay p.l ((uR::lsR).map (Lt.op p)++gp p.pk) (s8 p)).1++(ay p.l ((uL::lsL).map (Lt.op p)++gp p.pk) (s8 p)).1)->∃os,ae v8 (n+7) 118 [.dat (lr (E8 p.l++p.tab)),.dat (.list [.list [bO p.a],.list [bO p.b]]),.dat (.int 3),.dat (.int (p.l:Int)),.dat (.int (-1))] []= .ok (.dat (.tuple [.list ((fQ (ay p.l ((uR::lsR).map (Lt.op p)++gp p.pk) (s8 p)).2).bl.map dl),.int 2])) os):
  ∃W G O a b c sp,execs v8 (ae v8 (n+7)) ((aH.body.drop 12).take 11) ⟨p.loc (.own (MJ p.pk)),p.aW,[],[]⟩= .ok .next (zY p W G O a b c sp []):=by
 refine Bc fun au=>?_;have lR:((uR::lsR).map (Lt.op p)++gp p.pk).length<=50:=by simp[gp];exact aI hR (Dn rfl)
 have lL:((uL::lsL).map (Lt.op p)++gp p.pk).length<=50:=by simp[gp];exact aI hL (Dn rfl)
 obtain⟨o1,eW⟩:=zo (n+4) p hd _ ho lR q1;obtain⟨o2,eG⟩:=W7 n p hd.ok _ lR q1;obtain⟨o3,eO⟩:=W7 n p hd.ok _ lL q2
 haveI sA:=WX (n+6) p (opsR:=(uR::lsR).map (Lt.op p)) (opsL:=(uL::lsL).map (Lt.op p)) (by simp;exact aI hR (Dn rfl)) (by simp;exact aI hL (Dn rfl)) (JA (.inl rfl) (uR::lsR) hr) (JA (.inr (.inl rfl)) (uR::lsR) hr) (JA (.inr (.inr rfl)) (uL::lsL) hf) eW eG eO
 haveI okR:=wy ((uR::lsR).map (Lt.op p)++gp p.pk) hd.ok
 haveI plR:=JD p.l ((uR::lsR).map (Lt.op p)++gp p.pk) (s8 p)
 haveI okL:=S9 p p.l (gp p.pk) (uL::lsL) (s8 p)
 obtain⟨pre,J0⟩:=W8
 haveI eR:=Ez (s:=(ay p.l ((uR::lsR).map (Lt.op p)++gp p.pk) (s8 p)).2) (l:=p.l) (q1▸okR) (n+2)
 have Th:∀(ops:List Op) (s:YS),(ay p.l ops s).1.length=ops.length:=fun ops=>by
  induction ops with
  |nil=>intro s;rfl
  |cons o r ih=>intro s;exact bz _ (ih ..)
 haveI aaz:(ay p.l ((uR::lsR).map (Lt.op p)++gp p.pk) (s8 p)).1.length<=50:=Rw (Th ..) lR
 haveI aaA:(ay p.l ((uL::lsL).map (Lt.op p)++gp p.pk) (s8 p)).1.length<=50:=Rw (Th ..) lL
 haveI sB:∃a b c,execs v8 (ae v8 (n+7)) ((aH.body.drop 15).take 3) (st2 p (.tuple [.list (ay p.l ((uR::lsR).map (Lt.op p)++gp p.pk) (s8 p)).1,.list ((fQ (ay p.l ((uR::lsR).map (Lt.op p)++gp p.pk) (s8 p)).2).bl.map dl),.int (fQ (ay p.l ((uR::lsR).map (Lt.op p)++gp p.pk) (s8 p)).2).wr]) (tryD (ay p.l ((uR::lsR).map (Lt.op p)++gp p.pk) (s8 p)).1 (fQ (ay p.l ((uR::lsR).map (Lt.op p)++gp p.pk) (s8 p)).2) [] false) (tryD (ay p.l ((uL::lsL).map (Lt.op p)++gp p.pk) (s8 p)).1 (fQ (ay p.l ((uL::lsL).map (Lt.op p)++gp p.pk) (s8 p)).2) [] false) [])= .ok .next (st2 p (.tuple [.list (ay p.l ((uR::lsR).map (Lt.op p)++gp p.pk) (s8 p)).1,.list ((fQ (ay p.l ((uR::lsR).map (Lt.op p)++gp p.pk) (s8 p)).2).bl.map dl),.int (fQ (ay p.l ((uR::lsR).map (Lt.op p)++gp p.pk) (s8 p)).2).wr]) (tryD (ay p.l ((uR::lsR).map (Lt.op p)++gp p.pk) (s8 p)).1 (fQ (ay p.l ((uR::lsR).map (Lt.op p)++gp p.pk) (s8 p)).2) [] false) (tryD (ay p.l ((uL::lsL).map (Lt.op p)++gp p.pk) (s8 p)).1 (fQ (ay p.l ((uL::lsL).map (Lt.op p)++gp p.pk) (s8 p)).2) [] false) (tw a b c)):=
  W2 (n+7) p (u:=uL) (ls:=lsL) hf plR okL
 obtain⟨a,b,c,sB⟩:=sB
 have Xa:∀z∈(ay p.l ((uR::lsR).map (Lt.op p)++gp p.pk) (s8 p)).1++(ay p.l ((uL::lsL).map (Lt.op p)++gp p.pk) (s8 p)).1,Pl 20 z:=fun z hz=>by
  rcases cG.mp hz with hz|hz
  ·exact plR z hz
  ·exact(JD p.l ((uL::lsL).map (Lt.op p)++gp p.pk) (s8 p)) z hz
 haveI aaB:=wy ((uL::lsL).map (Lt.op p)++gp p.pk) hd.ok
 refine au ?_;refine⟨(.tuple [.list (ay p.l ((uR::lsR).map (Lt.op p)++gp p.pk) (s8 p)).1,.list ((fQ (ay p.l ((uR::lsR).map (Lt.op p)++gp p.pk) (s8 p)).2).bl.map dl),.int (fQ (ay p.l ((uR::lsR).map (Lt.op p)++gp p.pk) (s8 p)).2).wr]),(tryD (ay p.l ((uR::lsR).map (Lt.op p)++gp p.pk) (s8 p)).1 (fQ (ay p.l ((uR::lsR).map (Lt.op p)++gp p.pk) (s8 p)).2) [] false),(tryD (ay p.l ((uL::lsL).map (Lt.op p)++gp p.pk) (s8 p)).1 (fQ (ay p.l ((uL::lsL).map (Lt.op p)++gp p.pk) (s8 p)).2) [] false),a,b,c,(ay p.l ((uR::lsR).map (Lt.op p)++gp p.pk) (s8 p)).1++(ay p.l ((uL::lsL).map (Lt.op p)++gp p.pk) (s8 p)).1,cg (a:=(aH.body.drop 12).take 3) (b:=(aH.body.drop 15).take 8) sA (cg (a:=(aH.body.drop 15).take 3) (b:=(aH.body.drop 18).take 5) sB ?_)⟩;generalize ay p.l ((uR::lsR).map (Lt.op p)++gp p.pk) (s8 p)=GR at*;generalize ay p.l ((uL::lsL).map (Lt.op p)++gp p.pk) (s8 p)=OL at*;clear sA sB eW eG eO okL Th lR lL ho
 have s18:execs v8 (ae v8 (n+7)) ((aH.body.drop 18).take 1) (st2 p (.tuple [.list GR.1,.list ((fQ GR.2).bl.map dl),.int (fQ GR.2).wr]) (tryD GR.1 (fQ GR.2) [] false) (tryD OL.1 (fQ OL.2) [] false) (tw a b c))= .ok .next (st2 p (.tuple [.list GR.1,.list ((fQ GR.2).bl.map dl),.int (fQ GR.2).wr]) (tryD GR.1 (fQ GR.2) [] false) (tryD OL.1 (fQ OL.2) [] false) (tw a b c)):=by
  refine Bc fun au=>?_;by_cases hx:0<=p.ex
  ·refine au ?_;refine Bc fun au=>?_;obtain⟨pr,pr',t,e1,e2,e3,e4,e5,e6,e7,e8⟩:=hW.t4 hx;apply au;have q:=Ta (n+7) p (W:=.tuple [.list GR.1,.list ((fQ GR.2).bl.map dl),.int (fQ GR.2).wr]) (d:=fQ GR.2) (d':=fQ OL.2) (pre:=pr) (pre':=pr') (t:=t) a b c hx e3 (aI e4 (Dn rfl)) (aI e5 (Dn rfl)) (fun z hz=>plR z (Rw e1 (cG.mpr (.inr hz)))) (by simp only[fQ,aJ];exact Rw e6 (Rw e7 rfl)) e8;rw[<-e1,<-e2]at q;exact q
  ·exact au (Tb (n+7) p a b c hx)
 apply cg (a:=(aH.body.drop 18).take 1) (b:=(aH.body.drop 19).take 4) s18
 haveI s20:execs v8 (ae v8 (n+7)) ((aH.body.drop 19).take 2) (st2 p (.tuple [.list GR.1,.list ((fQ GR.2).bl.map dl),.int (fQ GR.2).wr]) (tryD GR.1 (fQ GR.2) [] false) (tryD OL.1 (fQ OL.2) [] false) (tw a b c))= .ok .next (gB p (.tuple [.list GR.1,.list ((fQ GR.2).bl.map dl),.int (fQ GR.2).wr]) GR.1 OL.1 (fQ GR.2) (fQ OL.2) a b c):=by
  by_cases hn:lx (GR.1++OL.1)
  ·refine Bc fun au=>?_;obtain⟨pr,pr',t,e1,e2,e3,e4,e5⟩:=hW.t2 hn;have hp':=Xa;have hn':=hn;rw[e1,e2]at hp' hn'
   induction pb with
   |false=>
    have q:=MK (n+7) p (W:=.tuple [.list GR.1,.list ((fQ GR.2).bl.map dl),.int (fQ GR.2).wr]) (d:=fQ GR.2) (d':=fQ OL.2) e3 (aI e4 (Dn rfl)) (aI e5 (Dn rfl)) hp' hn' a b c (fun z=>nomatch h2 z) hpb;refine au ?_;rw[<-e1,<-e2]at q;exact q
   |true=>
    haveI hc:=(Cs (W9 rfl hn))
    refine au ?_;by_cases hx:p.ex= -2
    ·haveI hh:∀(s:YS),s.Ok p.l->fZ (.list ((fQ s).bl.map dl)) (some (.int (1+(p.l:Int)))) none=some (.list ((s.tab.map eb).map dl)):=fun s hs=>by
      haveI q:=wo ((fQ s).bl.map dl) (1+p.l) (Rw (cn ..) ((hs.dn _ _).1)) (by have:=hs.l2;exact aI (iY this 1) (Dn rfl))
      refine Rw q ?_;exact Rw (ro 1 p.l) (Rw c7 (Rw Fn (Rw kb (Rw (List.drop_left' (by rw[cn];exact hs.ll)) rfl))))
     haveI q:=MM (n+6) p (W:=.tuple [.list GR.1,.list ((fQ GR.2).bl.map dl),.int (fQ GR.2).wr]) (d:=fQ GR.2) (d':=fQ OL.2) e3 (aI e4 (Dn rfl)) (aI e5 (Dn rfl)) hp' hn' a b c hx hpb (H:=(GR.2.tab.map eb).map dl) ((A0 0 _).mono (Dn rfl)) (((fun h g=>hW.hm g h) hx hn)▸hh OL.2 aaB) (hh GR.2 okR) hc
     rw[<-e1,<-e2]at q;exact q
    ·have q:=ML (n+6) p (W:=.tuple [.list GR.1,.list ((fQ GR.2).bl.map dl),.int (fQ GR.2).wr]) (d:=fQ GR.2) (d':=fQ OL.2) e3 (aI e4 (Dn rfl)) (aI e5 (Dn rfl)) hp' hn' a b c hx hpb hc;rw[<-e1,<-e2]at q;exact q
  ·exact Td (n+7) p (aI aaz (Dn rfl)) (aI aaA (Dn rfl)) Xa a b c hn
 apply cg (a:=(aH.body.drop 19).take 2) (b:=(aH.body.drop 21).take 2) s20
 haveI q:=W4 (n+2) p hl (im:=.list ((fQ GR.2).bl.map dl)) (wr:=.int (fQ GR.2).wr) (pre:=pre) (ao:=OL.1) (x:=cK (vw GR.2.tab [])) (d:=fQ GR.2) (d':=fQ OL.2) J0.2 a b c eR
 rw[<-J0.1]at q;exact q
theorem zp(h:dm op)(s):dOp op s:=by
 rcases h with⟨k,v,rfl⟩|⟨k,rfl⟩<;>trivial
theorem JK(n)(p)(hd:Du p.l (s8 p) (E8 p.l))(ha:dm p.a)(hb:dm p.b)(h:lx ((ay p.l [p.a,.bB,p.b,.bB,.get p.pk,.bG] (s8 p)).1++O)):
  ∃os,ae v8 (n+7) 118 [.dat (lr (E8 p.l++p.tab)),.dat (.list [.list [bO p.a],.list [bO p.b]]),.dat (.int 3),.dat (.int (p.l:Int)),.dat (.int (-1))] []= .ok (.dat (.tuple [.list ((fQ (ay p.l [p.a,.bB,p.b,.bB,.get p.pk,.bG] (s8 p)).2).bl.map dl),.int 2])) os:=by
 simp only[rf];exact Mt (s:=s8 p) hd.ok rfl rfl (n+1) ha hb (cF h (cG.mpr (.inl (.head _)))) (cF h (cG.mpr (.inl (.tail _ (.tail _ (.head _))))))
theorem JL(n)(p)(hl:p.l=1\/p.l=2)(hd:Du p.l (s8 p) (E8 p.l))(ha:dm p.a)(hb:dm p.b)(Tg:dm p.q)(hne:keyOf p.a≠keyOf p.q)(hk:inR p.pk/\inR p.pv)(hw:w<12)(oG:p.lf=JB.getD w "")(gq:p.rt=JC.getD w "")(hex:p.ex=zk.getD w 0):
  ∃W G O a b c sp,execs v8 (ae v8 (n+7)) ((aH.body.drop 12).take 11) ⟨p.loc (.own (MJ p.pk)),p.aW,[],[]⟩= .ok .next (zY p W G O a b c sp []):=by
 revert oG gq hex;refine J9 hw ?_ ?_ ?_ ?_ ?_ ?_ ?_ ?_ ?_ ?_ ?_ ?_
 ·intro oG gq hex;have gq:p.rt= "bC":=gq;have hex:p.ex=0:=hex;exact qL n p hl hd (uR:=.b) (lsR:=[.C]) (uL:=.a) (lsL:=[.R,.b,.C]) (gU _) (Dn rfl) (by rw[gq];kernel_rfl) (by rw[oG];kernel_rfl) ⟨zp hb _,trivial,trivial,trivial,trivial⟩ rfl rfl ⟨[_,_,_],rfl,Dn rfl⟩ (Rw hex (k0 hd.ok hd.nk rfl ha hb p.pk)) (pb:=false) (by rw[gq];kernel_rfl) (fun z=>by lia) (fun z h=>nomatch z)
 ·intro oG gq hex;have gq:p.rt= "bC":=gq;have hex:p.ex=1:=hex;exact qL n p hl hd (uR:=.b) (lsR:=[.C]) (uL:=.a) (lsL:=[.V,.b,.C]) (gU _) (Dn rfl) (by rw[gq];kernel_rfl) (by rw[oG];kernel_rfl) ⟨zp hb _,trivial,trivial,trivial,trivial⟩ rfl rfl ⟨[_,_,_],rfl,Dn rfl⟩ (Rw hex (k1 hd.ok hd.nk rfl ha hb p.pk)) (pb:=false) (by rw[gq];kernel_rfl) (fun z=>by lia) (fun z h=>nomatch z)
 ·intro oG gq hex;have gq:p.rt= "aCbC":=gq;exact qL n p hl hd (uR:=.a) (lsR:=[.C,.b,.C]) (uL:=.a) (lsL:=[.C,.V,.b,.C]) (Dn rfl) (Dn rfl) (by rw[gq];kernel_rfl) (by rw[oG];kernel_rfl) ⟨zp ha _,trivial,zp hb _,trivial,trivial,trivial,trivial⟩ rfl rfl ⟨[_,_,_,_,_],rfl,Dn rfl⟩ (Rw hex (k2 hd.ok hd.nk rfl ha hb p.pk)) (pb:=true) (by rw[gq];kernel_rfl) (fun z=>rfl) (fun z h=>JK n p hd ha hb h)
 ·intro oG gq hex;have gq:p.rt= "aCbC":=gq;exact qL n p hl hd (uR:=.a) (lsR:=[.C,.b,.C]) (uL:=.a) (lsL:=[.C,.C,.R,.b,.C]) (Dn rfl) (Dn rfl) (by rw[gq];kernel_rfl) (by rw[oG];kernel_rfl) ⟨zp ha _,trivial,zp hb _,trivial,trivial,trivial,trivial⟩ rfl rfl ⟨[_,_,_,_,_],rfl,Dn rfl⟩ (Rw hex (k3 hd.ok hd.nk rfl ha hb p.pk)) (pb:=true) (by rw[gq];kernel_rfl) (fun z=>rfl) (fun z h=>JK n p hd ha hb h)
 ·intro oG gq hex;have hex:p.ex=0:=hex;exact qL n p hl hd (uR:=.a) (lsR:=[.b,.C]) (uL:=.a) (lsL:=[.a,.b,.C]) (Dn rfl) (Dn rfl) (by rw[gq];kernel_rfl) (by rw[oG];kernel_rfl) ⟨zp ha _,zp hb _,trivial,trivial,trivial,trivial⟩ rfl rfl ⟨[_,_,_,_],rfl,Dn rfl⟩ (Rw hex (k4 hd.ok hd.nk rfl ha hb p.pk)) (pb:=false) (by rw[gq];kernel_rfl) (fun z=>by lia) (fun z h=>nomatch z)
 ·intro oG gq hex;have hex:p.ex=4:=hex;exact qL n p hl hd (uR:=.W) (lsR:=[.b,.C]) (uL:=.a) (lsL:=[.W,.R,.W,.b,.C]) (Dn rfl) (Dn rfl) (by rw[gq];kernel_rfl) (by rw[oG];kernel_rfl) ⟨rfl,zp hb _,trivial,trivial,trivial,trivial⟩ rfl rfl ⟨[_,_,_,_],rfl,Dn rfl⟩ (Rw hex (k5 hd.ok hd.nk rfl ha hb p.pk)) (pb:=false) (by rw[gq];kernel_rfl) (fun z=>by lia) (fun z h=>nomatch z)
 ·intro oG gq hex;have gq:p.rt= "pC":=gq;have hex:p.ex=0:=hex;exact qL n p hl hd (uR:=.p) (lsR:=[.C]) (uL:=.o) (lsL:=[.p,.C]) (gU _) (Dn rfl) (by rw[gq];kernel_rfl) (by rw[oG];kernel_rfl) ⟨trivial,trivial,trivial,trivial,trivial⟩ rfl rfl ⟨[_,_,_],rfl,Dn rfl⟩ (Rw hex (k6 (by lia) hd.ok hd.nk rfl p.pk p.pv p.av hk)) (pb:=false) (by rw[gq];kernel_rfl) (fun z=>by lia) (fun z h=>nomatch z)
 ·intro oG gq hex;have hex:p.ex= -1:=hex;exact qL n p hl hd (uR:=.q) (lsR:=[.a,.C]) (uL:=.a) (lsL:=[.q,.C]) (Dn rfl) (Dn rfl) (by rw[gq];kernel_rfl) (by rw[oG];kernel_rfl) ⟨zp Tg _,zp ha _,trivial,trivial,trivial,trivial⟩ rfl rfl ⟨[_,_,_,_],rfl,Dn rfl⟩ (Rw hex (k7 hd.ok hd.nk rfl ha Tg p.pk hne)) (pb:=false) (by rw[gq];kernel_rfl) (fun z=>by lia) (fun z h=>nomatch z)
 ·intro oG gq hex;have hex:p.ex= -1:=hex;exact qL n p hl hd (uR:=.b) (lsR:=[.a,.C]) (uL:=.a) (lsL:=[.b,.a,.C]) (Dn rfl) (Dn rfl) (by rw[gq];kernel_rfl) (by rw[oG];kernel_rfl) ⟨zp hb _,zp ha _,trivial,trivial,trivial,trivial⟩ rfl rfl ⟨[_,_,_,_],rfl,Dn rfl⟩ (Rw hex (k8 hd.ok hd.nk rfl ha hb p.pk)) (pb:=false) (by rw[gq];kernel_rfl) (fun z=>by lia) (fun z h=>nomatch z)
 ·intro oG gq hex;have gq:p.rt= "pC":=gq;have hex:p.ex= -1:=hex;exact qL n p hl hd (uR:=.p) (lsR:=[.C]) (uL:=.x) (lsL:=[.p,.C]) (gU _) (Dn rfl) (by rw[gq];kernel_rfl) (by rw[oG];kernel_rfl) ⟨trivial,trivial,trivial,trivial,trivial⟩ rfl rfl ⟨[_,_,_],rfl,Dn rfl⟩ (Rw hex (k9 hd.ok hd.nk rfl (.inr ⟨_,rfl⟩) (.inl ⟨_,_,rfl⟩) p.pk (SJ _ _))) (pb:=false) (by rw[gq];kernel_rfl) (fun z=>by lia) (fun z h=>nomatch z)
 ·intro oG gq hex;have hex:p.ex= -1:=hex;exact qL n p hl hd (uR:=.x) (lsR:=[.C]) (uL:=.p) (lsL:=[.x,.C]) (gU _) (Dn rfl) (by rw[gq];kernel_rfl) (by rw[oG];kernel_rfl) ⟨trivial,trivial,trivial,trivial,trivial⟩ rfl rfl ⟨[_,_,_],rfl,Dn rfl⟩ (Rw hex (k9 hd.ok hd.nk rfl (.inl ⟨_,_,rfl⟩) (.inr ⟨_,rfl⟩) p.pk (SM _ _))) (pb:=false) (by rw[gq];kernel_rfl) (fun z=>by lia) (fun z h=>nomatch z)
 ·intro oG gq hex;have gq:p.rt= "aCbC":=gq;exact qL n p hl hd (uR:=.a) (lsR:=[.C,.b,.C]) (uL:=.a) (lsL:=[.b,.C]) (Dn rfl) (Dn rfl) (by rw[gq];kernel_rfl) (by rw[oG];kernel_rfl) ⟨zp ha _,trivial,zp hb _,trivial,trivial,trivial,trivial⟩ rfl rfl ⟨[_,_,_,_,_],rfl,Dn rfl⟩ (Rw hex (k11 hd.ok hd.nk rfl ha hb p.pk)) (pb:=true) (by rw[gq];kernel_rfl) (fun z=>rfl) (fun z h=>JK n p hd ha hb h)
theorem Tj(xs)(A B)(a b)(hA:small A=true)(ha:eJ xs.length A=a)(hB:small B=true)(hb:eJ xs.length B=b)(h4:xs.length<=lim):fZ (.list xs) (some (.int A)) (some (.int B))=some (.list ((xs.take b).drop a)):=by
 refine(if_pos h4).trans ?_
 delta cut;rw[CV _ _ _ hA,CV _ _ _ hB,ha,hb];rfl
theorem JM(a b:List D)(h:a.length+b.length<=lim):fE .add (.list a) (.list b)=some (.list (a++b)):=if_pos h
theorem MQ(x:D){A R:List D}{pw:Nat}(hA:A.length=pw)(hN:(x::(A++R)).length<=1000):fZ (.list (x::(A++R))) (some (.int 1)) (some (.int (1+(pw:Int))))=some (.list A):=by
 subst hA;have h1:A.length+R.length+1<=1000:=by rw[<-cZ];exact hN
 haveI hp:A.length+1<=1000:=aI (tZ (fy ..)) h1
 refine(Tj (x::(A++R)) ((1:Nat):Int) ((1+A.length:Nat):Int) 1 (1+A.length) rfl ((jV _ _).trans (pM (gU _))) (gR _ (ro 1 _▸aI hp (Dn rfl))) ((jV _ _).trans (pM ?_)) (aI hN (Dn rfl))).trans ?_
 ·rw[ro,List.length_cons,cZ];exact tZ (fy ..)
 ·rw[ro,List.take_succ_cons,Fn,Od,List.take_left]
theorem MR(x:D){A R:List D}{pw:Nat}(hA:A.length=pw)(hp:pw<=100)(hN:(x::(A++R)).length<=1000):fZ (.list (x::(A++R))) (some (.int (1+(pw:Int)))) none=some (.list R):=by
 subst hA;refine(wo (x::(A++R)) (1+A.length) hN (aI (iY hp 1) (Dn rfl))).trans ?_;rw[ro,Fn,Oe]
theorem lsm{z:List Int}{A R:List (List Int)}:(z::(A++R)).map dl=dl z::(A.map dl++R.map dl):=bz (dl z:: ·) kb
theorem nmq{q pw m:Nat}{ok:Bool}(h:q<pw)(r2:ok=decide (2*q+2<=pw))(hm:m=if q<pw/\pw<2*q+2 then q else 0):m=nmd ok q:=by
 subst r2;by_cases z:2*q+2<=pw
 ·exact(hm.trans (aw fun y=>absurd z (mi.mpr y.2))).trans (if_pos (bP z)).symm
 ·exact(hm.trans (if_pos ⟨h,N5 z⟩)).trans (aw fun y=>z (bR y)).symm
inductive S3o(n:Nat)(p:bT)(W0 G O:D)(a b c:LV)(sp:List D):Prop
 |mk(W:D)(m pw:Nat)(C last:D)(sV:Bool)(named:Nat)(after:D)(e:execs v8 (ae v8 (n+7)) ((aH.body.drop 23).take 8) (zY p W0 G O a b c sp [])= .ok .next (zY p W G O a b c sp (tc m pw C last sV named after))):S3o n p W0 G O a b c sp
theorem EJ(n:Nat)(p:bT){pw:Nat}(hp8:pw<8){x14:Int}(JJ:bZ p.S (.int 14)=some (.int x14))(hpw:Int.fmod x14 8=(pw:Int))(W0 G O:D)(a b c:LV)(sp:List D){lg:List (List Int)}{tb:List En}(fx:lr (E8 p.l++p.tab)= .list ((zs 16::(lg++tb.map eb)).map dl))(Sj:lg.length=p.l)(oI:tb.length=3){Q:Qu}{q:Nat}(hq:Q.length=q)(zE:q<=p.l)(nQ:p.l<=2){A B:D}(plA:Pl 20 A)(Xa:Pl 20 B){im:List (List Int)}(T7:im=zs 16::(cLog lg Q++(fO tb Q).map eb)){w:Int}(yd:w=2*(q:Int)+2){oW oC oV:List bt}(eW:ae v8 (n+7) 124 [.dat (.int (p.l:Int)),.dat (.list (p.tab.map bE)),.dat (.list ((E8 p.l).map bE)),.dat (.list [bO p.a,bO p.b,bO .bB])] []= .ok (.dat (.tuple [.list [A,B,.none],.list (im.map dl),.int w])) oW){ok:Bool}(r2:ok=decide (2*q+2<=pw)){dc:iC}{xs:List D}(r3:dc.wr=((min pw (2*q+2):Nat):Int))(eC:ae v8 (n+7) 126 [.dat (lr (E8 p.l++p.tab)),.dat (.int (p.l:Int)),.dat (.int (pw:Int)),.dat (.list [bO p.a,bO p.b,bO .bB])] []= .ok (.dat (tryD [A,B,lst ok] dc xs (!ok))) oC){y:HS}(Xb:y.h=zs 16)(Ye:q<pw->y.log=cLog lg Q/\y.tab=fO tb Q)(Yg:pw<=q->y.log=Mx lg Q pw/\y.tab=tb){m:Nat}(hm:m=if q<pw/\pw<2*q+2 then q else 0){v:Int}(hv:v=(m:Int)+2)(eV:ae v8 (n+7) 126 [.dat (.list (dc.bl.map dl)),.dat (.int (p.l:Int)),.dat (.int (-1)),.dat (.list [bO .mB,bO .mB])] []= .ok (.dat (tryD [.int (m:Int),.int 0] (y.gS (-1) v) [] false)) oV):
  S3o n p W0 G O a b c sp:=by
 subst T7;have uv:=aI zE nQ;by_cases PU:q<pw
 ·have g:=Ye PU;exact .mk _ _ _ _ _ _ _ _ (MN (n+6) p a b c sp uv plA Xa yd JJ hpw eW eC r3 (df:=y.gS (-1) v) hv eV PU r2 (nmq PU r2 hm) (Rw (p:=fun z=>z::(y.log++y.tab.map eb)=_) Xb (Rw (p:=fun z=>zs 16::(z++y.tab.map eb)=_) g.1 (Rw (p:=fun z=>zs 16::(_++z.map eb)=_) g.2 rfl))))
 ·have hle:=kl PU;have g:=Yg hle;have hb:(zs 16::(lg++tb.map eb)).map dl=dl (zs 16)::((lg.take pw).map dl++(lg.drop pw++tb.map eb).map dl):=by rw[<-lsm,<-j9,Di]
  have hi:(zs 16::(cLog lg Q++(fO tb Q).map eb)).map dl=dl (zs 16)::(((Q.map fun q=>eb q.2).take pw).map dl++((Q.map fun q=>eb q.2).drop pw++lg.drop Q.length++(fO tb Q).map eb).map dl):=by rw[<-lsm,<-j9,<-j9,Di];rfl
  have hd:(y.gS (-1) v).bl.map dl=(dl (zs 16)::((Q.map fun q=>eb q.2).take pw).map dl)++(lg.drop pw++tb.map eb).map dl:=by
   show(y.h::(y.log++y.tab.map eb)).map dl=_;rw[Xb,g.1,g.2,show Mx lg Q pw=(Q.map fun q=>eb q.2).take pw++lg.drop pw from rfl,j9];exact lsm
  have lb:((zs 16::(lg++tb.map eb)).map dl).length<=1000:=by rw[cn,List.length_cons,cZ,cn,Sj,oI];exact aI (l4 nQ 4) (Dn rfl)
  have li:((zs 16::(cLog lg Q++(fO tb Q).map eb)).map dl).length<=1000:=by rw[cn,List.length_cons,cZ,show(cLog lg Q).length=p.l by rw[cLog,cZ,cn,tg,Sj,hq,Bp zE],show((fO tb Q).map eb).length=3 from rfl];exact aI (l4 nQ 4) (Dn rfl)
  have lA:(((Q.map fun q=>eb q.2).take pw).map dl).length=pw:=by rw[cn,Nk (by rw[cn,hq];exact hle)]
  have lL:((lg.take pw).map dl).length=pw:=by rw[cn,Nk (by rw[Sj];exact aI hle zE)]
  have p7:pw<=100:=aI hle (aI uv (Dn rfl));refine .mk _ _ _ _ _ _ _ _ (MP (n+6) p a b c sp uv plA Xa yd JJ hpw eW eC r3 (df:=y.gS (-1) v) hv eV hle (r2.trans (dx (mi.mpr (JI hle)))) (hm.trans (aw fun z=>PU z.1)) (X1:=[dl (zs 16)]) (X2:=((Q.map fun q=>eb q.2).take pw).map dl) (X12:=dl (zs 16)::((Q.map fun q=>eb q.2).take pw).map dl) (X3:=(lg.drop pw++tb.map eb).map dl) ?_ ?_ ?_ ?_ ?_)
  ·exact Rw fx (Sb _ 1 (gU _) lb)
  ·rw[hi]at li⊢;exact MQ _ lA li
  ·exact JM _ _ (Rw lA (aI (iY p7 1) (Dn rfl)))
  ·rw[hb]at lb;rw[fx,hb];exact MR _ lL p7 lb
  ·refine Rw hd (JM _ _ ?_);rw[List.length_cons,lA,cn,cZ,tg,cn,oI];exact aI (xl (tZ p7) (l4 (aI (OJ ..) (aI (dN Sj) nQ)) 3)) (Dn rfl)
theorem JN(n:Nat)(p:bT)(hl:p.l=1\/p.l=2)(hd:Du p.l (s8 p) (E8 p.l))(ha:dm p.a)(hb:dm p.b){x14:Int}(JJ:bZ p.S (.int 14)=some (.int x14))(W0 G O:D)(a b c:LV)(sp:List D):S3o n p W0 G O a b c sp:=by
 obtain⟨pw,z2⟩:=fV x14 8 (Dn rfl);have o2:(kj p.l p.a p.b (s8 p)).Ok p.l:=az (az hd.ok p.a) p.b
 haveI d:=oE p.l ha (s8 p)
 haveI e:=oE p.l hb (ag p.l p.a (s8 p)).2
 have L1:(kj p.l p.a p.b (s8 p)).log=(s8 p).log:=e.1.trans d.1;have L2:(kj p.l p.a p.b (s8 p)).tab=(s8 p).tab:=e.2.1.trans d.2.1
 haveI eW:=(Cs (zo (n+4) p hd [p.a,p.b,.bB] ⟨zp ha _,zp hb _,trivial,trivial⟩ (Dn rfl) rfl))
 obtain⟨oC,eC⟩:=Mw hd.ok rfl rfl n pw ha hb;have r:Jm (n+1) p.l (kj p.l p.a p.b (s8 p)) pw (dw (eg (kj p.l p.a p.b (s8 p)).Q) (j5 (kj p.l p.a p.b (s8 p))) pw).1/\_:=My o2 (n+1) pw;rw[show j5 (kj p.l p.a p.b (s8 p))=j5 (s8 p)by unfold j5;rw[L1,L2]]at r;obtain⟨⟨y,hy,Xb,Ye,Yg,m',hm',eV⟩,l5⟩:=r;rw[L1,L2]at Ye Yg;obtain⟨oV,eV⟩:=aat n (bl:=((wI p.l p.a p.b (s8 p) pw).1.gS 0 0).bl) ((jY.run (eg (kj p.l p.a p.b (s8 p)).Q) (fun w hw=>oD o2 _ (bU.mpr ⟨w,hw,rfl⟩)) (⟨(by decide:16<=100),hd.ok.lb,hd.ok.ll,hd.ok.lt⟩:jY p.l (j5 (s8 p))) pw).ok o2.l2 0 0) (m:=(m':Int)) (y:=y) (v:=0+((m':Int)+1)) (hy.ok o2.l2 _ _) (hy.ok o2.l2 _ _) Xb hy.ll hy.lt (eV 0 (.own []));rw[show SN (s8 p)=lr (E8 p.l++p.tab)from(rf p).symm]at eC
 haveI yd:(ay p.l [p.a,p.b,.bB] (s8 p)).2.wr=2*((kj p.l p.a p.b (s8 p)).Q.length:Int)+2:=by
  show jG (kj p.l p.a p.b (s8 p)).wr (2*(kj p.l p.a p.b (s8 p)).Q.length+2)=_;rw[show(kj p.l p.a p.b (s8 p)).wr=0 from e.2.2.trans d.2.2,sJ];exact BR ..
 haveI T7:(fQ (ay p.l [p.a,p.b,.bB] (s8 p)).2).bl=zs 16::(cLog (s8 p).log (kj p.l p.a p.b (s8 p)).Q++(fO (s8 p).tab (kj p.l p.a p.b (s8 p)).Q).map eb):=by rw[<-L1,<-L2];rfl
 exact EJ n p z2.2 JJ z2.1 W0 G O a b c sp (rf p) hd.ok.ll hd.ok.lt rfl o2.ql o2.l2 (Bi p.l p.a (s8 p)) (Bi p.l p.b (ag p.l p.a (s8 p)).2) T7 yd eW l5.1 (bz (fun z:Nat=>(z:Int)) l5.2) eC Xb Ye Yg hm' (bz (· +1) (BP _)) eV
noncomputable def u5(c:Nat)(pk pv:Int):En:=if c=0 then some (pk,pv)else none
def st5(p:bT)(W G O:D)(a b c:LV)(sp:List D)(tl:List (Nat×LV))(cl:List (Nat×LV)):St:=⟨(zY p W G O a b c sp tl).loc,p.aW++cl,[],[]⟩
noncomputable def tk(k:Nat)(W B E Lg H:D):List (Nat×LV):=[(136,.dat (.int (k:Int))),(137,.dat W),(166,.dat B),(132,.dat E),(85,.dat Lg),(87,.dat H)]
structure Fr where
 G:D
 O:D
 a:LV
 c:LV
 sp:List D
 m:Nat
 pw:Nat
 C:D
 last:D
 sV:Bool
 named:Nat
 after:D
noncomputable def bT.w(p:bT)(l:Nat)(T:List En):bT:=⟨p.S,l,T,p.a,p.b,p.q,p.pk,p.pv,p.av,p.lf,p.rt,p.ex⟩
def S3(p:bT)(f:Fr)(W:D)(b:LV):St:=zY p W f.G f.O f.a b f.c f.sp (tc f.m f.pw f.C f.last f.sV f.named f.after)
def bk(p:bT)(k:Nat):List Int:=bn p.pk p.pv k
def ek(p:bT)(k:Nat):En:=u5 k p.pk p.pv
def lq(p:bT)(i j k:Nat):List (Nat×List Int):=if p.l=1 then [(i,bk p k)]else [(j,cS p.pk p.pv),(i,bk p k)]
def tq(p:bT)(i j k:Nat):List En:=(if p.l=1 then p.tab else p.tab.set j (some (p.pk,p.pv))).set i (ek p k)
def dq(p:bT)(i j k:Nat):List (List Int):=zs 16::((lq p i j k).map (·.2)++((tq p i j k).map eb).set i (bk p k))
def cq(p:bT)(i j k:Nat):List (Nat×LV):=[(164,.dat (.int (i:Int))),(165,.dat (.int (j:Int))),(167,.dat (bE (ek p k)))]
def S4(p:bT)(f:Fr)(W:D)(dd:List (List Int))(i j k:Nat)(tl:List (Nat×LV)):St:=
 st5 p W f.G f.O f.a (.dat (.list (dd.map dl))) f.c f.sp (tc f.m f.pw f.C f.last f.sV f.named f.after++tk k (dl (cS p.pk p.pv)) (dl (bk p k)) (.list ((tq p i j k).map bE)) (.list ((lq p i j k).map fun x=>dl x.2)) (.list ((tq p i j k).map fun e=>dl (eb e)))++tl) (cq p i j k)
theorem Xc(n)(p:bT)(f)(W)(b)(hl:l=1\/l=2)(t0 t1 t2){i j k:Nat}(hi:i<3)(hk:k<12)(EW:bZ p.S (.int 15)=some (.int x15))(PV:bZ p.S (.int 16)=some (.int x16))(e1:fE .mod (.int x15) (.int 3)=some (.int (i:Int)))(e2:fE .mod (.int (x15+1)) (.int 3)=some (.int (j:Int)))(e3:fE .mod (.int x16) (.int 12)=some (.int (k:Int)))(hj:j=(i+1)%3)(hw:ae v8 (n+2) 121 [.dat (.list [.tuple [.int p.pk,.int p.pv]])] []= .ok (.dat (lr [some (p.pk,p.pv)])) [])(hh:ae v8 (n+2) 121 [.dat (.list ((tq (p.w l [t0,t1,t2]) i j k).map bE))] []= .ok (.dat (lr (tq (p.w l [t0,t1,t2]) i j k))) []):
  execs v8 (ae v8 (n+2)) ((aH.body.drop 31).take 8) (S3 (p.w l [t0,t1,t2]) f W b)= .ok .next (S4 (p.w l [t0,t1,t2]) f W (dq (p.w l [t0,t1,t2]) i j k) i j k []):=by
 haveI hb:=C9 n p.pk p.pv hk
 subst hj;rcases iy (k=0)with c0|c0
 ·subst c0
  haveI q:bp .Eq (.int ((0:Nat):Int)) (.int 0)=some true:=by kernel_rfl
  rcases hl with rfl|rfl<;>rcases uY hi with rfl|rfl|rfl<;>exact d7 [375] [372024034,372024038,372041051,372040060,372062072,372062077] [121,123] (aV EW (aV e1 (aV EW (aV e2 (aV PV (aV e3 (aC hw (aC hb (aR q (aC hh aN)))))))))) (by kernel_rfl)
 ·have q:bp .Eq (.int (k:Int)) (.int 0)=some false:=ji (dx (fun z=>c0 (Int.ofNat.inj z)));have me:∀p:bT,ek p k=none:=fun p=>aw c0
  delta S4 dq cq tq at hh⊢
  rw[me]at hh⊢;rcases hl with rfl|rfl<;>rcases uY hi with rfl|rfl|rfl<;>exact d7 [375] [372024034,372024038,372041051,372040060,372062072,372062077] [121,123] (aV EW (aV e1 (aV EW (aV e2 (aV PV (aV e3 (aC hw (aC hb (aR q (aC hh aN)))))))))) (by kernel_rfl)
noncomputable def sW:List D:=[.str "FormatError",.none,.str "CorruptError",.str "CorruptError"]
theorem MU(xs)(h:∀x∈xs,Pl 20 x):∀x∈xs++sW,Pl 20 x:=by
 haveI p2:Pl 20 (.str "CorruptError"):=⟨by kernel_rfl,u9 (by kernel_rfl)⟩
 intro x hx;refine Bc fun au=>?_;rcases cG.mp hx with hx|hx
 ·exact au (h x hx)
 ·refine au ?_;delta sW at hx;simp only[cL,eF,jr]at hx;rcases hx with rfl|rfl|rfl|rfl
  ·exact(⟨by kernel_rfl,u9 (by kernel_rfl)⟩)
  ·exact dR
  ·exact p2
  ·exact p2
def oq(p:bT)(i j k:Nat):D:=.list ((lq p i j k).map (fun x=>pI x.1 x.2)++ [s9 i,bO .bB,s9 i,bO .bG])
def aq(p:bT)(i j k:Nat)(A:List D):List D:=(lq p i j k).map (fun ω=>.none)++A
def Laid(n:Nat)(p:bT)(i j k:Nat)(A:List D):Prop:=∃d os,d.bl=dq p i j k/\d.wr=2*(p.l:Int)+2/\ae v8 (n+7) 126 [.dat (lr (E8 p.l++p.tab)),.dat (.int (p.l:Int)),.dat (.int (-1)),.dat (oq p i j k)] []= .ok (.dat (tryD (aq p i j k A) d [] false)) os
theorem ui{d:iC}(h1:d.bl=dd)(h2:d.wr=w)(h:∀x∈A,Pl 20 x):bp .NotEq (.tuple [.list A,.list (d.bl.map dl),.int d.wr]) (.tuple [.list A,.list (dd.map dl),.int w])=some false:=
 iD (Rw h1 (Rw h2 rfl)) ((mY 21 _ fun z hz=>by
  rcases cL.mp hz with rfl|hz
  ·exact gN 20 _ h
  rcases cL.mp hz with rfl|hz
  ·exact(jZ d).mono (Dn rfl)
  exact Rw (dp.mp hz) (dk _ _)).mono (Dn rfl))
theorem zu{α:Type}(q:List α):∀x∈q.map (fun ω=>PyData.none),Pl 20 x:=fun x hx=>(bU.mp hx).elim fun ω h=>Rl h.2 dR
noncomputable def tv(t1 t2 t3 t4:LV):List (Nat×LV):=[(168,t1),(169,t2),(141,t3),(170,t4)]
def vwD(p:bT)(k:Nat):Option D:=bZ (.tuple [.tuple [.bool true,.int p.pk,.int p.pv],.tuple [.bool false,.int 0,.int 0]]) (.int (Int.fmod (k:Int) 2))
theorem EK(n)(p)(f)(W)(hl:l=1\/l=2)(T)(hk:2<=k)(hv:vwD p k=some v)(h:Laid n (p.w l T) i j k sW):
  ∃t1 t2 t3 t4,execs v8 (ae v8 (n+7)) ((aH.body.drop 39).take 7) (S4 (p.w l T) f W (dq (p.w l T) i j k) i j k [])= .ok .next (S4 (p.w l T) f W (dq (p.w l T) i j k) i j k (tv t1 t2 t3 t4)):=by
 haveI g:bp .Lt (.int (k:Int)) (.int 2)=some false:=fL (dx (dX.mpr (kn.mpr hk)))
 obtain⟨d,os,z3⟩:=h
 haveI e:=ui (A:=aq (p.w l T) i j k sW) z3.1 z3.2.1 (MU _ (zu (lq (p.w l T) i j k)))
 rcases hl with rfl|rfl
 ·exact⟨.dat v,.dat (.list sW),.dat (oq (p.w 1 T) i j k),.dat (tryD (aq (p.w 1 T) i j k sW) d [] false),d7 [382,386,388] [380011062] [126] (aV hv (aR g (aC z3.2.2 (aR e (aR g aN))))) (by kernel_rfl)⟩
 ·exact⟨.dat v,.dat (.list sW),.dat (oq (p.w 2 T) i j k),.dat (tryD (aq (p.w 2 T) i j k sW) d [] false),d7 [382,386,388] [380011062] [126] (aV hv (aR g (aC z3.2.2 (aR e (aR g aN))))) (by kernel_rfl)⟩
noncomputable def aaC(i:Nat):ME->ME
 |.lst es _=>es.getD i (.jt 0 ⟨0,0,0,0⟩)
 |e=>e
def Tl:ME->ME
 |.items e _ _=>e
 |e=>e
def Tn:ME:=bfA (Tl (bfA (aaC 3 (Ek (cE (X7 (pJ 41)) 0)))))
theorem Xd(n)(aW)(es:List En):cv (ev v8 (ae v8 n) (wj Tn)) [] (wk Tn) (bS v8 (ae v8 n) (Ma Tn)) (es.map bE) ⟨[],aW,[],[]⟩=some (bG (es.filterMap id)):=by
 refine(jE _ _ _ _ bE (fun e=>match e with|none=>[]|some p=>[PyData.tuple [.int p.1,.int p.2]]) es fun e ω=>?_).trans (bz some ?_)
 ·induction e with
  |none=>kernel_rfl
  |some p=>kernel_rfl
 ·induction es with
  |nil=>rfl
  |cons e r ih=>
   refine Rw Fv (Rw ih ?_);induction e<;>rfl
theorem zv(ps):(dictOf ps).length<=ps.length:=by
 have key:∀(b a:KV),(b.foldl (fun o p=>fg p.1 p.2 o) a).length<=a.length+b.length:=by
  intro b
  induction b with
  |nil=>intro a;simp
  |cons x b ih=>
   intro a
   haveI h1:=ih (fg x.1 x.2 a)
   have h2:∀(a:KV),(fg x.1 x.2 a).length<=a.length+1:=by
    intro a
    induction a with
    |nil=>exact gU _
    |cons y a ih=>simp only[iU,iV];split<;>simp<;>exact ih
   haveI h3:=h2 a
   simp only[BA,List.length_cons];exact aI h1 (aI (l4 h3 _) (dN (nr ..)))
 haveI:=key ps []
 delta dictOf
 simpa using this
theorem PW(ps)(h:ps.length<=5):gA ((dc (dictOf ps)).map fun p=>PyData.tuple [p.1,p.2])=some (bG (jF ps)):=by
 simp only[Me,CW _ (aI (zv ps) h),uV]
def ly(r:W3)(ps:KV):List D:=[cP r,.none,cP r,.list (bG (jF ps))]
theorem JO(xs)(h:∀x∈xs,Pl 20 x)(r)(ps):∀x∈xs++ly r ps,Pl 20 x:=by
 have p1:Pl 20 (cP r):=(mY 0 _ fun x hx=>by
  simp only[cL,eF,jr]at hx;refine O3 hx ?_ ?_ ?_
  ·exact CU _ _
  ·exact dk _ _
  ·exact dk _ _).mono (Dn rfl)
 intro x hx;rcases cG.mp hx with hx|hx
 ·exact h x hx
 ·delta ly at hx
  simp only[cL,eF,jr]at hx;rcases hx with rfl|rfl|rfl|rfl
  ·exact p1
  ·exact dR
  ·exact p1
  ·exact(A3 0 _).mono (Dn rfl)
theorem JP(n)(p)(f)(W)(hl:l=1\/l=2)(T)(hk:k<2)(hes:(tq (p.w l T) i j k).length<=5)(hv:vwD p k=some (cP r))(h:Laid n (p.w l T) i j k (ly r ((tq (p.w l T) i j k).filterMap id))):
  ∃t1 t2 t3 t4,execs v8 (ae v8 (n+7)) ((aH.body.drop 39).take 7) (S4 (p.w l T) f W (dq (p.w l T) i j k) i j k [])= .ok .next (S4 (p.w l T) f W (dq (p.w l T) i j k) i j k (tv t1 t2 t3 t4)):=by
 haveI g:bp .Lt (.int (k:Int)) (.int 2)=some true:=fL (bP (kc.mpr hk))
 haveI hf:((tq (p.w l T) i j k).filterMap id).length<=5:=aI (E6 _ _) hes
 haveI hg:(bG ((tq (p.w l T) i j k).filterMap id)).length<=lim:=Rw (ou ..) (aI hf (Dn rfl))
 obtain⟨d,os,z5⟩:=h
 haveI e:=ui (A:=aq (p.w l T) i j k (ly r ((tq (p.w l T) i j k).filterMap id))) z5.1 z5.2.1 (JO _ (zu (lq (p.w l T) i j k)) r ((tq (p.w l T) i j k).filterMap id))
 rcases hl with rfl|rfl
 ·exact⟨.dat (cP r),.dat (.list (ly r ((tq (p.w 1 T) i j k).filterMap id))),.dat (oq (p.w 1 T) i j k),.dat (tryD (aq (p.w 1 T) i j k (ly r ((tq (p.w 1 T) i j k).filterMap id))) d [] false),d7 [382,386,388] [380011062,383047096] [126] (aV hv (aR g (aP (Xd (n+7) (bT.aW (p.w 1 T)++cq (p.w 1 T) i j k) (tq (p.w 1 T) i j k)) hg (aD (ow _) hg (aS (PW _ hf) (aC z5.2.2 (aR e (aR g aN)))))))) (by kernel_rfl)⟩
 ·exact⟨.dat (cP r),.dat (.list (ly r ((tq (p.w 2 T) i j k).filterMap id))),.dat (oq (p.w 2 T) i j k),.dat (tryD (aq (p.w 2 T) i j k (ly r ((tq (p.w 2 T) i j k).filterMap id))) d [] false),d7 [382,386,388] [380011062,383047096] [126] (aV hv (aR g (aP (Xd (n+7) (bT.aW (p.w 2 T)++cq (p.w 2 T) i j k) (tq (p.w 2 T) i j k)) hg (aD (ow _) hg (aS (PW _ hf) (aC z5.2.2 (aR e (aR g aN)))))))) (by kernel_rfl)⟩
theorem JQ:Pl 20 (.str "CorruptError"):=⟨by kernel_rfl,u9 (by kernel_rfl)⟩
def fq(p:bT)(i j k:Nat):List (List Int):=du ((lq p i j k).map (·.1))::((lq p i j k).map (·.2)++p.tab.map eb)
def Found(n:Nat)(p:bT)(i j k:Nat)(x:D)(X:List (List Int))(Y:Int):Prop:=∃d os,d.bl=X/\d.wr=Y/\ae v8 (n+7) 126 [.dat (.list ((fq p i j k).map dl)),.dat (.int (p.l:Int)),.dat (.int (-1)),.dat (.list [bO .mB])] []= .ok (.dat (tryD [x] d [] false)) os
theorem PX(n)(p:bT)(f)(W)(hl:l=1\/l=2)(T)(hT:T.length=3)(t1 t2 t3 t4)(h:(k<2/\Found n (p.w l T) i j k (.int (l:Int)) (dq (p.w l T) i j k) ((l:Int)+1))\/(2<=k/\Found n (p.w l T) i j k (.str "CorruptError") (fq (p.w l T) i j k) 0)):
  ∃W',execs v8 (ae v8 (n+7)) ((aH.body.drop 46).take 3) (S4 (p.w l T) f W (dq (p.w l T) i j k) i j k (tv t1 t2 t3 t4))= .ok .next (S4 (p.w l T) f W' (dq (p.w l T) i j k) i j k (tv t1 t2 t3 t4++ [(67,.dat (.list ((fq (p.w l T) i j k).map dl)))])):=by
 have hs:fZ (lr (E8 l++T)) (some (.int (1+(l:Int)))) none=some (.list ((T.map eb).map dl)):=by
  refine(wo ((zs 16::(E8 l++T).map eb).map dl) (1+l) (by rcases hl with rfl|rfl<;>simp[E8]<;>lia) (O2 hl (Dn rfl) (Dn rfl))).trans ?_;rcases hl with rfl|rfl<;>simp[E8]
 have EH:fE .add (.list ((du ((lq (p.w l T) i j k).map (·.1))::(lq (p.w l T) i j k).map (·.2)).map dl)) (.list ((T.map eb).map dl))=some (.list ((fq (p.w l T) i j k).map dl)):=by
  show(if _ then _ else _)=_;rw[if_pos (by rcases hl with rfl|rfl<;>simp[lim,hT,lq,bT.w]),<-kb];rfl
 haveI hc:ae v8 (n+7) 120 [.dat (.list (.int (l:Int)::(lq (p.w l T) i j k).map fun x=>.int (x.1:Int)))] []= .ok (.dat (dl (du ((lq (p.w l T) i j k).map (·.1))))) []:=by
  rcases hl with rfl|rfl
  ·exact MA (n+6) i
  ·exact MB (n+6) i j
 rcases h with⟨hk,d,os,h1,h2,hC⟩|⟨hk,d,os,h1,h2,hC⟩
 ·have g:bp .Lt (.int (k:Int)) (.int 2)=some true:=fL (bP (kc.mpr hk));have e:=ui (A:=[.int (l:Int)]) h1 h2 fun y hy=>Rw (dp.mp hy) (dk _ _);rcases hl with rfl|rfl
  ·exact⟨.tuple [.list [.int (((p.w 1 T).l:Nat):Int)],.list ((dq (p.w 1 T) i j k).map dl),.int (((p.w 1 T).l:Int)+1)],d7 [391,392] [390069084,390012084] [120,126] (aC hc (aV hs (aV EH (aR g (aC hC (aR e aN)))))) (by kernel_rfl)⟩
  ·exact⟨.tuple [.list [.int (((p.w 2 T).l:Nat):Int)],.list ((dq (p.w 2 T) i j k).map dl),.int (((p.w 2 T).l:Int)+1)],d7 [391,392] [390069084,390012084] [120,126] (aC hc (aV hs (aV EH (aR g (aC hC (aR e aN)))))) (by kernel_rfl)⟩
 ·have g:bp .Lt (.int (k:Int)) (.int 2)=some false:=fL (dx (dX.mpr (kn.mpr hk)));have e:=ui (A:=[.str "CorruptError"]) h1 h2 fun y hy=>Rw (dp.mp hy) JQ;rcases hl with rfl|rfl
  ·exact⟨.tuple [.list [.str "CorruptError"],.list ((fq (p.w 1 T) i j k).map dl),.int 0],d7 [391,392] [390069084,390012084] [120,126] (aC hc (aV hs (aV EH (aR g (aC hC (aR e aN)))))) (by kernel_rfl)⟩
  ·exact⟨.tuple [.list [.str "CorruptError"],.list ((fq (p.w 2 T) i j k).map dl),.int 0],d7 [391,392] [390069084,390012084] [120,126] (aC hc (aV hs (aV EH (aR g (aC hC (aR e aN)))))) (by kernel_rfl)⟩
theorem yp3(h0:V 0=e0)(h1:V 1=e1)(h2:V 2=e2):cK V=jF ([e0,e1,e2].filterMap id):=by
 unfold cK;simp only[List.foldl,h0,h1,h2];induction e0<;>induction e1<;>induction e2<;>rfl
theorem Xe(h:T.length=3)(hi:i<3)(e):fO T [(i,e)]=T.set i e:=by
 obtain⟨t0,t1,t2,rfl⟩:=mZ h;refine O3 (uY hi) ?_ ?_ ?_<;>rfl
theorem Xf(h:T.length=3)(hi:i<3)(hj:j<3)(ij:j≠i)(e f):fO T [(j,f),(i,e)]=(T.set j f).set i e:=by
 obtain⟨t0,t1,t2,rfl⟩:=mZ h;rcases uY hi with rfl|rfl|rfl<;>rcases uY hj with rfl|rfl|rfl<;>first|exact absurd rfl ij|rfl
theorem MV(h:T.length=3)(hi:i<3)(e):cK (upd (vw T []) i e)=jF ((T.set i e).filterMap id):=by
 obtain⟨t0,t1,t2,rfl⟩:=mZ h;refine O3 (uY hi) ?_ ?_ ?_<;>exact yp3 rfl rfl rfl
theorem MW(h:T.length=3)(hi:i<3)(hj:j<3)(ij:j≠i)(e f):cK (upd (upd (vw T []) j f) i e)=jF (((T.set j f).set i e).filterMap id):=by
 obtain⟨t0,t1,t2,rfl⟩:=mZ h;refine O3 (uY hi) ?_ ?_ ?_<;>refine O3 (uY hj) ?_ ?_ ?_<;>first|exact absurd rfl ij|exact yp3 rfl rfl rfl
theorem JR(T:List En)(i)(e)(b):((T.set i e).map eb).set i b=(T.map eb).set i b:=by rw[BL];exact(Ov ..)
theorem rh(T:List En)(i)(e):((T.set i e).map eb).set i (eb e)=(T.set i e).map eb:=by rw[BL];exact(Ov ..)
theorem lz{x y z:List (List Int)}{h:List Int}(hh:h.length<=100)(hx:x.length<=2)(hx2:∀b∈x,b.length<=100)(hy:y.length=3)(hy2:∀b∈y,b.length<=100)(u v:Int):bW ⟨h::(x++y),u,v⟩:=by
 refine⟨by refine Rw List.length_cons (Rw cZ ?_);exact Rw hy (aI (l4 hx 4) (Dn rfl)),fun b hb=>?_⟩;rcases cL.mp hb with rfl|hb
 ·exact hh
 ·rcases cG.mp hb with hb|hb
  ·exact hx2 b hb
  ·exact hy2 b hb
theorem jl(T:List En):∀b∈T.map eb,b.length<=100:=fun b hb=>by
 obtain⟨e,_,rfl⟩:=bU.mp hb;rw[cJ];decide
theorem wR(T:List En)(i)(hc:c.length<=100):∀b∈(T.map eb).set i c,b.length<=100:=fun b hb=>by
 rcases zG hb with h1|h1
 ·exact jl T b h1
 ·exact Rw h1 hc
theorem EL{b:List Int}(hb:b.length<=100):∀x∈ [b],x.length<=100:=fun x hx=>Rw (dp.mp hx) hb
theorem To{b:List Int}(hb:b.length<=100)(hc:c.length<=100):∀x∈ [b,c],x.length<=100:=fun x hx=>by
 rcases cL.mp hx with rfl|hx
 ·exact hb
 ·exact EL hc x hx
section
variable(n:Nat)
theorem Tp(hS:l9 1 ((E8 1).map eb) T [])(hi:i<3)(he:mA e):∃d os,d.bl=zs 16::eb e::((T.set i e).map eb).set i (eb e)/\d.wr=4/\ae v8 (n+7) 126 [.dat (lr (E8 1++T)),.dat (.int ((1:Nat):Int)),.dat (.int (-1)),.dat (.list [pI i (eb e),s9 i,bO .bB,s9 i,bO .bG])] []= .ok (.dat (tryD ([.none]++ly (w3 e) ((T.set i e).filterMap id)) d [] false)) os:=by
 haveI q:=jj (n+4) 1 (aJ ((E8 1).map eb) T (-1) 0).bl (hS.dn 0 0) (-1) ((az (sR (s:=⟨(E8 1).map eb,T,[],0⟩) hS rfl n hi e he).1 .bB).dn (-1) (jG 0 4)) (by exact(show 5<=100 by decide)) (sR (s:=⟨(E8 1).map eb,T,[],0⟩) hS rfl n hi e he).2
 rw[MV hS.lt hi e]at q;refine⟨_,_,?_,rfl,q⟩;show zs 16::eb e::(fO T [(i,e)]).map eb=_;rw[Xe hS.lt hi,rh]
theorem Tq(hS:l9 1 ((E8 1).map eb) T [])(hi:i<3)(hb:b.length<=100)(hd:∀m,ae v8 (m+2) 24 [.dat (dl b)] []= .exc 12 []):∃d os,d.bl=zs 16::b::((T.set i none).map eb).set i b/\d.wr=4/\ae v8 (n+7) 126 [.dat (lr (E8 1++T)),.dat (.int ((1:Nat):Int)),.dat (.int (-1)),.dat (.list [pI i b,s9 i,bO .bB,s9 i,bO .bG])] []= .ok (.dat (tryD ([.none]++sW) d [] false)) os:=by
 refine⟨_,_,?_,rfl,(jj (n+4) 1 (aJ ((E8 1).map eb) T (-1) 0).bl (hS.dn 0 0) (-1) (lz (z:=[]) (Dn rfl) (by simp) (EL hb) (by rw[km,cn];exact hS.lt) (wR T i hb) (-1) (jG 0 4)) (by exact(show 5<=100 by decide)) (EE hS n hi hb hd))⟩;rw[JR];rfl
theorem MX(hS:l9 1 ((E8 1).map eb) T [])(hi:i<3)(he:mA e):∃d os,d.bl=zs 16::eb e::((T.set i e).map eb).set i (eb e)/\d.wr=((1:Nat):Int)+1/\ae v8 (n+7) 126 [.dat (.list ((du [i]:: [eb e]++T.map eb).map dl)),.dat (.int ((1:Nat):Int)),.dat (.int (-1)),.dat (.list [bO .mB])] []= .ok (.dat (tryD [.int ((1:Nat):Int)] d [] false)) os:=by
 haveI h1:=(sR (s:=⟨(E8 1).map eb,T,[],0⟩) hS rfl n hi e he).1
 have q:=Jl h1 (x:=⟨du [i],[eb e],T⟩) rfl rfl hS.lt 0 ((fun w=>lz (z:=[]) (gk [i] (by simp)) (by simp) (EL (by rw[cJ];decide)) (by rw[cn];exact hS.lt) (jl T) _ _) 0) (fun j hj=>by rcases j with _|j<;>first|rfl|(simp at hj)) (n+1) (.own []);refine⟨_,_,?_,rfl,(q7 n 1 (bl:=du [i]:: [eb e]++T.map eb) (lz (z:=[]) (gk [i] (by simp)) (by simp) (EL (by rw[cJ];decide)) (by rw[cn];exact hS.lt) (jl T) _ _) (a:=.dat (.int ((1:Nat):Int))) (d:=⟨zs 16::([eb e]++(T.set i e).map eb),-1,0+(((1:Nat):Int)+1)⟩) (lz (z:=[]) (Dn rfl) (by simp) (EL (by rw[cJ];decide)) ((cn ..).trans ((km ..).trans hS.lt)) (jl _) _ _) q)⟩;rw[rh];rfl
theorem MY{T:List En}(hT:T.length=3)(hi:i<3)(hb:b.length<=100)(hd:∀m,ae v8 (m+2) 24 [.dat (dl b)] []= .exc 12 []):∃d os,d.bl=du [i]:: [b]++T.map eb/\d.wr=0/\ae v8 (n+7) 126 [.dat (.list ((du [i]:: [b]++T.map eb).map dl)),.dat (.int ((1:Nat):Int)),.dat (.int (-1)),.dat (.list [bO .mB])] []= .ok (.dat (tryD [.str "CorruptError"] d [] false)) os:=by
 haveI k:∀(u w:Int),bW ⟨du [i]::([b]++T.map eb),u,w⟩:=fun u w=>lz (z:=[]) (gk [i] (gU _)) (by simp) (EL hb) ((cn ..).trans hT) (jl T) _ _
 exact⟨_,_,rfl,rfl,q7 n 1 (bl:=du [i]:: [b]++T.map eb) (k _ _) (a:=.iW) (k _ _) (Ju (n+1) 1 ⟨du [i]::([b]++T.map eb),-1,0⟩ (k _ _) (.own []) (fB _) hi (by simp[hT]) rfl (hd (n+2)))⟩
theorem Ts(hS:l9 2 ((E8 2).map eb) T [])(hi:i<3)(hj:j<3)(ij:j≠i)(he:mA e)(hf:mA f):∃d os,d.bl=zs 16::eb f::eb e::(((T.set j f).set i e).map eb).set i (eb e)/\d.wr=6/\ae v8 (n+7) 126 [.dat (lr (E8 2++T)),.dat (.int ((2:Nat):Int)),.dat (.int (-1)),.dat (.list [pI j (eb f),pI i (eb e),s9 i,bO .bB,s9 i,bO .bG])] []= .ok (.dat (tryD ([.none,.none]++ly (w3 e) (((T.set j f).set i e).filterMap id)) d [] false)) os:=by
 haveI q:=jj (n+4) 2 (aJ ((E8 2).map eb) T (-1) 0).bl (hS.dn 0 0) (-1) ((az (sS (s:=⟨(E8 2).map eb,T,[],0⟩) hS rfl n hi hj ij e f he hf).1 .bB).dn (-1) (jG 0 6)) (by exact(show 6<=100 by decide)) (sS (s:=⟨(E8 2).map eb,T,[],0⟩) hS rfl n hi hj ij e f he hf).2
 rw[MW hS.lt hi hj ij e f]at q;refine⟨_,_,?_,rfl,q⟩;show zs 16::eb f::eb e::(fO T [(j,f),(i,e)]).map eb=_;rw[Xf hS.lt hi hj ij,rh]
theorem Tt(hS:l9 2 ((E8 2).map eb) T [])(hi:i<3)(hj:j<3)(ij:j≠i)(hf:mA f)(hb:b.length<=100)(hd:∀m,ae v8 (m+2) 24 [.dat (dl b)] []= .exc 12 []):∃d os,d.bl=zs 16::eb f::b::(((T.set j f).set i none).map eb).set i b/\d.wr=6/\ae v8 (n+7) 126 [.dat (lr (E8 2++T)),.dat (.int ((2:Nat):Int)),.dat (.int (-1)),.dat (.list [pI j (eb f),pI i b,s9 i,bO .bB,s9 i,bO .bG])] []= .ok (.dat (tryD ([.none,.none]++sW) d [] false)) os:=by
 refine⟨_,_,?_,rfl,(jj (n+4) 2 (aJ ((E8 2).map eb) T (-1) 0).bl (hS.dn 0 0) (-1) (lz (z:=[]) (Dn rfl) (fB _) (To (by rw[cJ];decide) hb) (by simp only[km,cn,km];exact hS.lt) (wR (T.set j f) i hb) (-1) (jG 0 6)) (by exact(show 6<=100 by decide)) (EF hS n hi hj ij f hf hb hd))⟩;exact Rw (JR ..) rfl
theorem MZ(hS:l9 2 ((E8 2).map eb) T [])(hi:i<3)(hj:j<3)(ij:j≠i)(he:mA e)(hf:mA f):∃d os,d.bl=zs 16::eb f::eb e::(((T.set j f).set i e).map eb).set i (eb e)/\d.wr=((2:Nat):Int)+1/\ae v8 (n+7) 126 [.dat (.list ((du [j,i]:: [eb f,eb e]++T.map eb).map dl)),.dat (.int ((2:Nat):Int)),.dat (.int (-1)),.dat (.list [bO .mB])] []= .ok (.dat (tryD [.int ((2:Nat):Int)] d [] false)) os:=by
 have m:=To (b:=eb f) (c:=eb e) (by rw[cJ];decide) (by rw[cJ];decide);have k:∀(u w:Int),bW ⟨du [j,i]::([eb f,eb e]++T.map eb),u,w⟩:=fun u w=>lz (z:=[]) (gk [j,i] (fB _)) (fB _) m ((cn ..).trans hS.lt) (jl T) _ _
 haveI q:=Jl ((sS (s:=⟨(E8 2).map eb,T,[],0⟩) hS rfl n hi hj ij e f he hf).1) (x:=⟨du [j,i],[eb f,eb e],T⟩) rfl rfl hS.lt 0 (k _ _) (fun j hj=>by rcases j with _|_|j<;>first|rfl|(simp at hj;lia)) (n+1) (.own [])
 refine⟨_,_,?_,rfl,(q7 n 2 (bl:=du [j,i]:: [eb f,eb e]++T.map eb) (k _ _) (a:=.dat (.int ((2:Nat):Int))) (d:=⟨zs 16::([eb f,eb e]++((T.set j f).set i e).map eb),-1,0+(((2:Nat):Int)+1)⟩) (lz (z:=[]) (Dn rfl) (fB _) m (by simp only[cn,km,km];exact hS.lt) (jl _) _ _) q)⟩;exact Rw (rh ..) rfl
theorem M0{T:List En}(hT:T.length=3)(hi:i<3)(hj:j<3)(hf:mA f)(hb:b.length<=100)(hd:∀m,ae v8 (m+2) 24 [.dat (dl b)] []= .exc 12 []):∃d os,d.bl=du [j,i]:: [eb f,b]++T.map eb/\d.wr=0/\ae v8 (n+7) 126 [.dat (.list ((du [j,i]:: [eb f,b]++T.map eb).map dl)),.dat (.int ((2:Nat):Int)),.dat (.int (-1)),.dat (.list [bO .mB])] []= .ok (.dat (tryD [.str "CorruptError"] d [] false)) os:=by
 haveI k:∀(u w:Int),bW ⟨du [j,i]::([eb f,b]++T.map eb),u,w⟩:=fun u w=>lz (z:=[]) (gk [j,i] (fB _)) (fB _) (To (by rw[cJ];decide) hb) ((cn ..).trans hT) (jl T) _ _
 exact⟨_,_,rfl,rfl,q7 n 2 (bl:=du [j,i]:: [eb f,b]++T.map eb) (k _ _) (a:=.iW) (k _ _) (Jv (n+1) 2 ⟨du [j,i]::([eb f,b]++T.map eb),-1,0⟩ (k _ _) (.own []) (fB _) hi hj (by simp[hT]) rfl (pD (n+2) f hf) (hd (n+2)))⟩
end
theorem zw(k)(h1:inR pk)(h2:inR pv):mA (u5 k pk pv):=by
 intro p hp
 delta u5 at hp
 refine Bc fun au=>?_;split at hp
 ·apply au;cases hp;exact⟨h1,h2⟩
 ·apply au;cases hp
theorem oH(h1:inR pk)(h2:inR pv):mA (some (pk,pv)):=by
 intro p hp;cases hp;exact⟨h1,h2⟩
theorem Df(h:k<2)(pk pv):bn pk pv k=eb (u5 k pk pv):=by
 refine Bc fun au=>?_;rcases k with _|_|k
 ·apply au;rfl
 ·apply au;rfl
 ·apply au;lia
theorem M1{k:Nat}(h:k<2)(pk pv):bZ (.tuple [.tuple [.bool true,.int pk,.int pv],.tuple [.bool false,.int 0,.int 0]]) (.int (Int.fmod (k:Int) 2))=some (cP (w3 (u5 k pk pv))):=by
 rcases k with _|_|k
 ·rfl
 ·rfl
 ·lia
theorem Tv(k:Nat)(pk pv):∃v,bZ (.tuple [.tuple [.bool true,.int pk,.int pv],.tuple [.bool false,.int 0,.int 0]]) (.int (Int.fmod (k:Int) 2))=some v:=by
 obtain⟨d,z1⟩:=wN [.tuple [.bool true,.int pk,.int pv],.tuple [.bool false,.int 0,.int 0]] (k:Int) (m:=2) rfl (Dn rfl) (Dn rfl);exact⟨d,z1.2⟩
theorem zx(h:2<=k)(pk pv):u5 k pk pv=none:=aw (pQ (ve (Dn rfl) h))
theorem aaD{T:List (List Int)}(h:T.length=3)(hb:∀b∈T,b.length<=100):∃b0 b1 b2,T= [b0,b1,b2]/\b0.length<=100/\b1.length<=100/\b2.length<=100:=by
 obtain⟨x,y,z,rfl⟩:=mZ h;exact⟨x,y,z,rfl,hb x (.head _),hb y (.tail _ (.head _)),hb z (by simp)⟩
theorem Tw(n)(p)(hl:l=1\/l=2)(hS:l9 l ((E8 l).map eb) T [])(JS:inR p.pk)(JT:inR p.pv)(hi:i<3)(hj:j<3)(ij:j≠i)(hk:k<12):
  (k<2->Laid n (p.w l T) i j k (ly (w3 (ek p k)) ((tq (p.w l T) i j k).filterMap id))/\Found n (p.w l T) i j k (.int (l:Int)) (dq (p.w l T) i j k) ((l:Int)+1))/\
  (2<=k->Laid n (p.w l T) i j k sW/\Found n (p.w l T) i j k (.str "CorruptError") (fq (p.w l T) i j k) 0):=by
 have hf:=oH JS JT;have he:=zw k JS JT
 haveI yW:=Jr p.pk p.pv hk
 haveI hd:=fun k2 m=>Mz m p.pk p.pv (c:=k) k2 hk
 rcases hl with rfl|rfl
 ·refine⟨fun k2=>?_,fun k2=>?_⟩
  ·have z:=Df k2 p.pk p.pv
   haveI a:=Tp n hS hi he
   haveI b:=MX n hS hi he
   rw[<-z]at a b;exact⟨a,b⟩
  ·have z:=zx k2 p.pk p.pv
   haveI a:=Tq n hS hi yW (hd k2)
   rw[<-z]at a;exact⟨a,MY n hS.lt hi yW (hd k2)⟩
 ·refine⟨fun k2=>?_,fun k2=>?_⟩
  ·have z:=Df k2 p.pk p.pv
   haveI a:=Ts n hS hi hj ij he hf
   haveI b:=MZ n hS hi hj ij he hf
   rw[<-z]at a b;exact⟨a,b⟩
  ·have z:=zx k2 p.pk p.pv
   haveI a:=Tt n hS hi hj ij hf yW (hd k2)
   rw[<-z]at a;exact⟨a,M0 n hS.lt hi hj hf yW (hd k2)⟩
def Xg:OR dJ->Option (RV×List Cl)
 |.ok (.ret r) _ o=>some (r,yV o.cl [])
 |_=>none
theorem ort(ls vl fs)(hc:All P fc){st:St}(h:Xg (eZ P ls vl (d6 P ls vl fs n) n ms st (j7 fc))=some (r,fc)):∃aE,execs P (ae P n) ms st= .ok (.ret r) aE:=by
 haveI q:=gM (ls:=ls) (vl:=vl) (lK P ls vl fs n) rfl ms st (j7 fc)
 generalize e:eZ P ls vl (d6 P ls vl fs n) n ms st (j7 fc)=zV
 induction zV using OR.casesOn with
 |ok f st1 o1=>
  rw[e]at h q
  induction f with
  |ret r1=>have h:=Prod.mk.inj (dS h);refine Rl h.1 ?_;simp only[<-h.2]at hc;exact⟨_,(q (All.rev _ _ hc).1).2⟩
  |next=>exact nomatch h
  |cont=>exact nomatch h
 |exc x st1 o1=>rw[e]at h;exact nomatch h
 |bad=>rw[e]at h;exact nomatch h
theorem M3(xs)(x)(hx:xs.length=m)(hm:0<m)(hl:m<=1000):∃d,d∈xs/\bZ (.list xs) (.int (Int.fmod x (m:Nat)))=some d:=by
 obtain⟨j,e,h⟩:=fV x m hm;refine Rw e ?_;exact⟨xs[j],tW (hx▸h),lM _ _ _ (nq (by lia)) (hx▸hl)⟩
def Dg(l:Nat)(d:D):Prop:=∃h,d=dl h/\h.length<=100/\zi l h
theorem Tz(l)(hi:i<3):Dg l (dl (hA i)):=⟨_,rfl,(by decide:16<=100),wM fun n=>SU n hi⟩
theorem TC(l)(hi:i<3):Dg l (dl (hB8 i)):=⟨_,rfl,(by decide:16<=100),wM fun n=>SV n hi⟩
theorem TF(l)(hi:i<3):Dg l (dl (hC i)):=⟨_,rfl,(by decide:16<=100),wM fun n=>SW n hi⟩
def Qp(l:Nat)(i:Nat):List D:=[dl (if l=1 then QZ else HB),dl (if l=1 then X9 else Yb),dl (hA i),dl (hB8 i),dl (hC i)]
theorem M4(hl:l=1\/l=2)(hi:i<3):∀d∈Qp l i,Dg l d:=by
 intro d hd
 delta Qp at hd
 simp only[cL,eF,jr]at hd;rcases hd with rfl|rfl|rfl|rfl|rfl
 ·refine Bc fun au=>?_;rcases hl with rfl|rfl
  ·apply au;exact⟨QZ,rfl,by decide,SX⟩
  ·apply au;exact⟨HB,rfl,by decide,SY⟩
 ·refine O2 hl ?_ ?_
  ·exact⟨X9,rfl,by decide,SZ⟩
  ·exact⟨Yb,rfl,by decide,S0⟩
 ·exact Tz l hi
 ·exact TC l hi
 ·exact TF l hi
noncomputable def Ul(x:Int)(j:Nat):Int:=Int.fmod (x+(j:Int)) 256
theorem TG(x)(i):0<=Ul x i/\Ul x i<=255:=fm _
def Xh(g:Nat->Int):List D:=[.str "CorruptError",.none,.int 0,.list [],dl (tO g),.str "FormatError"]
theorem TH(g:Nat->Int):Pl 60 (.list (Xh g)):=(gN 20 _ fun x hx=>by
 unfold Xh at hx;simp only[cL,eF,jr]at hx;rcases hx with rfl|rfl|rfl|rfl|rfl|rfl
 ·exact JQ
 ·exact dR
 ·exact dk _ _
 ·exact(gN 0 _ fun ω z=>absurd z eF).mono (by decide)
 ·exact(IZ 0 _).mono (by decide)
 ·exact⟨by kernel_rfl,u9 (by kernel_rfl)⟩).mono (Dn rfl)
theorem Xi(n l)(hl:l=1\/l=2)(hh:h.length<=100)(bad:zi l h)(JS:inR pk)(JT:inR pv)(b0 b1 b2)(hb:b0.length<=100/\b1.length<=100/\b2.length<=100)(hg:∀i,0<=g i/\g i<=255):
  ∃d os,d.bl=zs 16::(List.replicate l (some (pk,pv))++ [none,none,none]).map eb/\d.wr=jG 0 5/\ae v8 (n+7) 126 [.dat (.list ((h::(List.replicate l (cS pk pv)++ [b0,b1,b2])).map dl)),.dat (.int (l:Int)),.dat (.int (-1)),.dat (.list [bO .mB,bO .sL,bO .mB,bO .bG,Yc (hN 14 g),Yc (hN 15 g)])] []= .ok (.dat (tryD (Xh g) d [] false)) os:=by
 have TJ:∀b∈List.replicate l (cS pk pv),b.length<=100:=fun b hb=>Rw ((NL.mp hb).2) (by decide:16<=100)
 haveI l2:(List.replicate l (cS pk pv)).length<=2:=by refine Rw Fd ?_;lia
 haveI m3:∀b∈ [b0,b1,b2],b.length<=100:=fun b hx=>by
  simp only[cL,eF,jr]at hx;refine O3 hx ?_ ?_ ?_
  ·exact hb.1
  ·exact hb.2.1
  ·exact hb.2.2
 haveI q:=aaw n l hl hh bad (lg:=List.replicate l (cS pk pv)) Fd TJ (fun m=>⟨w3 (some (pk,pv)),by
  refine Rw (show(List.replicate l (cS pk pv)).getD 0 []=eb (some (pk,pv))by refine O2 hl ?_ ?_<;>rfl) ?_
  exact pD m _ (oH JS JT)⟩) b0 b1 b2 hb hg
 refine⟨_,_,?_,rfl,jj (n+4) l (h::(List.replicate l (cS pk pv)++ [b0,b1,b2])) (lz (z:=[]) hh l2 TJ rfl m3 _ _) (-1) (d:=aJ (List.replicate l (cS pk pv)) [none,none,none] (-1) (jG 0 5)) (lz (z:=[]) (Dn rfl) l2 TJ rfl (jl [none,none,none]) _ _) ((show 6<=100 by decide)) q⟩;refine O2 hl ?_ ?_<;>rfl
theorem JU(l):∀e∈E8 l,mA e:=fun e he=>by
 have:=List.mem_of_mem_take he;simp only[cL,eF,jr]at this;refine O2 this ?_ ?_<;>exact oH (by delta inR;lia) (by delta inR;lia)
theorem Xj(n)(p:bT)(f)(W)(b)(hl:l=1\/l=2)(t0 t1 t2)(hS:l9 l ((E8 l).map eb) [t0,t1,t2] [])(JS:inR p.pk)(JT:inR p.pv)(EW:bZ p.S (.int 15)=some (.int x15))(PV:bZ p.S (.int 16)=some (.int x16)):
  ∃W' i j k tl,execs v8 (ae v8 (n+7)) ((aH.body.drop 31).take 18) (S3 (p.w l [t0,t1,t2]) f W b)= .ok .next (S4 (p.w l [t0,t1,t2]) f W' (dq (p.w l [t0,t1,t2]) i j k) i j k tl)/\i<3/\k<12/\ ∃t1' t2' t3' t4' F,tl=tv t1' t2' t3' t4'++ [(67,.dat F)]:=by
 obtain⟨i,ei,hi⟩:=fV x15 3 (Dn rfl);obtain⟨j,ej,hj⟩:=fV (x15+1) 3 (Dn rfl);obtain⟨k,z4⟩:=fV x16 12 (Dn rfl)
 have ij:j=(i+1)%3:=by
  rw[zF _ (by decide)]at ei ej
  lia
 have hf:=oH JS JT
 have A:=Xc (n+5) p f W b hl t0 t1 t2 hi z4.2 EW PV (bz (fun z=>some (PyData.int z)) ei) (bz (fun z=>some (PyData.int z)) ej) (bz (fun z=>some (PyData.int z)) z4.1) ij
  (gm (n+5) [some (p.pk,p.pv)] (fun e he=>Rw (dp.mp he) hf) (by simp))
  (gm (n+5) _ (fun e he=>by
   rcases zG he with h|h
   ·split at h
    ·exact hS.te e h
    ·rcases zG h with h|h
     ·exact hS.te e h
     ·exact Rw h hf
   ·exact Rw h (zw k JS JT)) (by delta tq;rw[km];split<;>simp[bT.w]))
 have L:=Tw n p hl hS JS JT hi hj (by lia) z4.2;by_cases k2:k<2
 ·obtain⟨v1,v2,v3,v4,B⟩:=JP n p f W hl [t0,t1,t2] k2 (by delta tq;rw[km];split<;>simp[bT.w]) (M1 k2 p.pk p.pv) (L.1 k2).1;obtain⟨W',Cc⟩:=PX n p f W hl [t0,t1,t2] rfl v1 v2 v3 v4 (.inl ⟨k2,(L.1 k2).2⟩);exact⟨W',i,j,k,_,cg (a:=(aH.body.drop 31).take 8) (b:=(aH.body.drop 39).take 10) A (cg (a:=(aH.body.drop 39).take 7) (b:=(aH.body.drop 46).take 3) B Cc),hi,z4.2,v1,v2,v3,v4,_,rfl⟩
 ·haveI k2:=kl k2
  haveI hv:=(Cs (Tv k p.pk p.pv))
  obtain⟨v1,v2,v3,v4,B⟩:=EK n p f W hl [t0,t1,t2] k2 hv (L.2 k2).1;obtain⟨W',Cc⟩:=PX n p f W hl [t0,t1,t2] rfl v1 v2 v3 v4 (.inr ⟨k2,(L.2 k2).2⟩);exact⟨W',i,j,k,_,cg (a:=(aH.body.drop 31).take 8) (b:=(aH.body.drop 39).take 10) A (cg (a:=(aH.body.drop 39).take 7) (b:=(aH.body.drop 46).take 3) B Cc),hi,z4.2,v1,v2,v3,v4,_,rfl⟩
theorem Xk(n)(p:bT)(f)(W)(hl:l=1\/l=2)(t0 t1 t2)(hS:l9 l ((E8 l).map eb) [t0,t1,t2] [])(JS:inR p.pk)(JT:inR p.pv)(hi:i<3)(hk:k<12)(Xl:bZ p.S (.int 17)=some (.int x17))(td:bZ p.S (.int 18)=some (.int x18))(b0 b1 b2)(hb:b0.length<=100/\b1.length<=100/\b2.length<=100)(t1' t2' t3' t4')(F):
  ∃aE,execs v8 (ae v8 (n+7)) (aH.body.drop 49) (S4 (p.w l [t0,t1,t2]) f W (zs 16::((lq (p.w l [t0,t1,t2]) i j k).map (·.2)++ [b0,b1,b2])) i j k (tv t1' t2' t3' t4'++ [(67,.dat F)]))= .ok (.ret (.dat (.bool true))) aE:=by
 obtain⟨_,Qm,hx⟩:=M3 (Qp l i) x17 (m:=5) rfl (Dn rfl) (Dn rfl);obtain⟨h,rfl,hh,bad⟩:=M4 hl hi _ Qm;obtain⟨d,os,d1,d2,hC⟩:=Xi n l hl hh bad JS JT b0 b1 b2 hb (TG x18);have hf:=oH JS JT
 have i1:=gm (n+5) (List.replicate l (some (p.pk,p.pv))++ [none,none,none]) (fun e he=>by
  rcases cG.mp he with he|he
  ·exact Rw (NL.mp he).2 hf
  ·intro q hq;simp only[cL,eF,jr,or_self]at he
   rw[he]at hq;exact nomatch hq) (by simp;exact O2 hl (Dn rfl) (Dn rfl))
 have i2:=gm (n+5) (E8 l++ [t0,t1,t2]) (fun e he=>(cG.mp he).elim (JU l e) (hS.te e)) (by rcases hl with rfl|rfl<;>exact Dn rfl)
 haveI i3:=gm (n+5) [some (p.pk,p.pv)] (fun e he=>Rw (dp.mp he) hf) (by simp)
 haveI hbn:=C9 (n+5) p.pk p.pv hk
 haveI r1:bp .NotEq (.list (Xh (Ul x18))) (.list (Xh (Ul x18)))=some false:=iD rfl (TH _)
 have r2:bp .NotEq (.list (d.bl.map dl)) (lr (List.replicate l (some (p.pk,p.pv))++ [none,none,none]))=some false:=iD (bz (fun z=>PyData.list (List.map dl z)) d1) ((jZ d).mono (Dn rfl))
 haveI r3:bp .NotEq (.int d.wr) (.int 5)=some false:=by rw[d2];kernel_rfl
 have r4:bp .NotEq (lr (E8 l++ [t0,t1,t2])) (lr (E8 l++ [t0,t1,t2]))=some false:=iD rfl (JG _)
 haveI r5:=fun b=>iD (rfl:dl b=dl b) ((IZ 0 b).mono (Dn rfl))
 have s1:ae v8 (n+7) 120 [.dat (dl [(l:Int)+1])] []= .ok (.dat (dl (if l=1 then QZ else HB))) []:=by rcases hl with rfl|rfl<;>kernel_rfl
 have s2:ae v8 (n+7) 120 [.dat (dl (if l=1 then [1,3]else [2,0,3]))] []= .ok (.dat (dl (if l=1 then X9 else Yb))) []:=by rcases hl with rfl|rfl<;>kernel_rfl
 clear Qm bad hh d1 d2 hf hS hi hk hb
 rcases hl with rfl|rfl<;>exact ort [398,400,402] [394166176,394011181,395014024] [120,126,121,123] (aC s1 (aC s2 (aC (MC (n+6) i) (aC (MD (n+6) i) (aV Xl (aV hx
  (aV td (aV td (aV td (aV td (aV td (aV td (aV td (aV td (aV td (aV td (aV td (aV td (aV td (aV td (aC (Jw (n+6) 14 (Ul x18)) (aC (Jw (n+6) 15 (Ul x18)) (aC hC (aR r1 (aC i1 (aR r2 (aR r3 (aC i2 (aR r4 (aC i3 (aR (r5 (cS p.pk p.pv)) (aC hbn (aR (r5 (bn p.pk p.pv k)) aN))))))))))))))))))))))))))))))))) (by kernel_rfl)
inductive U6(n:Nat):List Int->Prop
 |mk(x0 x1 x2 x3 x4 x5:Int)(b:List Int)(h:n<=b.length):U6 n (x0::x1::x2::x3::x4::x5::b)
theorem u6{n:Nat}{a:List Int}(h:n+6<=a.length):U6 n a:=by
 haveI h6:=aI (jm 6 n) h
 rcases a with _|⟨x0,_|⟨x1,_|⟨x2,_|⟨x3,_|⟨x4,_|⟨x5,b⟩⟩⟩⟩⟩⟩<;>first|exact .mk _ _ _ _ _ _ _ (Nat.le_of_add_le_add_right h)|exact absurd h6 (mi.mpr (Dn rfl))
noncomputable def bss:List (List Int):=[[-1,-1,-1],[1,-1,0],[-1,2,-1],[0,1,2],[3,2,1],[2,0,-1],[-1,3,0],[-1,-1,1]]
noncomputable def qM:List Int:=[-1,0,1,2,3]
def Yh(bs:List Int):Bool:=bs.length==3&&bs.all (fun b=>qM.contains b)&&(List.range 3).all fun i=>(List.range 3).all fun j=>i==j||bs.getD i 0 !=bs.getD j 0||decide (bs.getD i 0<0)
theorem TK:∀bs∈bss,Yh bs=true:=by decide+kernel
theorem Xm(x):∃bs,Yh bs=true/\bZ dD (.int (Int.fmod x 8))=some (.tuple (bs.map .int)):=by
 obtain⟨d,z1⟩:=wN (bss.map fun bs=>.tuple (bs.map .int)) x (m:=8) rfl (Dn rfl) (Dn rfl);obtain⟨bs,hb,rfl⟩:=bU.mp z1.1;exact⟨bs,TK bs hb,z1.2⟩
theorem JV:∀a∈qM,∀b∈qM,¬a<0->¬b<0->PS.getD a.toNat 0=PS.getD b.toNat 0->a=b:=by decide+kernel
theorem M5:∀a∈qM,0<=PS.getD a.toNat 0/\PS.getD a.toNat 0<4294967296:=by decide+kernel
theorem Bk(x)(h:a∈qM):mA (dI x a):=by
 intro p hp
 delta dI at hp
 split at hp
 ·exact nomatch hp
 ·cases hp;exact⟨M5 a h,Nn _ (by decide),NS _ (bR rfl)⟩
structure Bs(c0 c1 c2:Int):Prop where
 f0:c0∈qM
 f1:c1∈qM
 f2:c2∈qM
 n01:c0=c1->c0<0
 n02:c0=c2->c0<0
 n12:c1=c2->c1<0
theorem TL(h:Yh bs=true):∃c0 c1 c2,bs= [c0,c1,c2]/\Bs c0 c1 c2:=by
 delta Yh at h
 simp only[dg,fY]at h;obtain⟨⟨h1,h2⟩,h3⟩:=h;obtain⟨c0,c1,c2,rfl⟩:=mZ h1;simp only[ny,List.all_nil,Bool.and_true,dg,List.contains_iff_mem]at h2
 haveI h3 (i j:Nat) (hi:i<3) (hj:j<3) (ij:(i==j)=false) (e:[c0,c1,c2].getD i 0= [c0,c1,c2].getD j 0):[c0,c1,c2].getD i 0<0:=by
  haveI:=jL.mp (jL.mp h3 i (jn.mpr hi)) j (jn.mpr hj)
  rw[ij,e]at this;refine Rw e ?_;simpa using this
 exact⟨c0,c1,c2,rfl,h2.1,h2.2.1,h2.2.2,h3 0 1 (Dn rfl) (Dn rfl) rfl,h3 0 2 (Dn rfl) (Dn rfl) rfl,h3 1 2 (Dn rfl) (Dn rfl) rfl⟩
set_option tactic.hygienic true in
theorem lZ(x)(ha:a∈qM)(hb:b∈qM)(hn:a=b->a<0)(h1:dI x a=some p)(h2:dI x b=some q):p.1≠q.1:=by
 unfold dI at h1 h2;split at h1
 ·exact nomatch h1
 split at h2
 ·exact nomatch h2
 cases h1;cases h2;rename_i u v;exact fun e=>u (hn (JV a ha b hb u v e))
theorem aaE(x)(h:Bs c0 c1 c2):pG (vw [dI x c0,dI x c1,dI x c2] []):=by
 intro i j hi hj p q hp hq e;rcases uY hi with rfl|rfl|rfl<;>rcases uY hj with rfl|rfl|rfl
 ·rfl
 ·exact absurd e (lZ x h.f0 h.f1 h.n01 hp hq)
 ·exact absurd e (lZ x h.f0 h.f2 h.n02 hp hq)
 ·exact absurd e.symm (lZ x h.f0 h.f1 h.n01 hq hp)
 ·rfl
 ·exact absurd e (lZ x h.f1 h.f2 h.n12 hp hq)
 ·exact absurd e.symm (lZ x h.f0 h.f2 h.n02 hq hp)
 ·exact absurd e.symm (lZ x h.f1 h.f2 h.n12 hq hp)
 ·rfl
theorem hb5{a:Int}(h:a∈qM):a= -1\/a=0\/a=1\/a=2\/a=3:=by
 delta qM at h
 simpa only[cL,eF,jr] using h
theorem du8(hl:l=1\/l=2)(x)(h:Bs c0 c1 c2):Du l ⟨(E8 l).map eb,[dI x c0,dI x c1,dI x c2],[],0⟩ (E8 l):=by
 haveI hel:(E8 l).length=l:=by refine O2 hl ?_ ?_<;>rfl
 refine⟨⟨by exact O2 hl (Dn rfl) (Dn rfl),by rw[cn];exact hel,jl _,rfl,fun e he=>?_,fun ω z=>absurd z eF,List.Pairwise.nil,ft _⟩,rfl,hel,JU l,aaE x h⟩;simp only[cL,eF,jr]at he;refine O3 he ?_ ?_ ?_
 ·exact Bk x h.f0
 ·exact Bk x h.f1
 ·exact Bk x h.f2
theorem JW:∀a,a<8->∀b,b<8->PS.getD a 0=PS.getD b 0->a=b:=by decide+kernel
theorem key_ne(x y):Bh x≠Bh (x+1+Int.fmod y 7):=by
 intro h;obtain⟨e1,h1⟩:=oF x 8 (Dn rfl);obtain⟨e2,h2⟩:=oF (x+1+Int.fmod y 7) 8 (Dn rfl)
 haveI h1:=h1
 haveI h2:(Int.fmod (x+1+Int.fmod y 7) 8).toNat<8:=h2
 have k:=JW _ h1 _ h2 h
 haveI e2:Int.fmod (x+1+Int.fmod y 7) 8=(((Int.fmod (x+1+Int.fmod y 7) 8).toNat:Nat):Int):=e2
 obtain⟨m,z8⟩:=fV y 7 (Dn rfl)
 lia
theorem aaF(x):∃pk,inR pk/\bZ dy (.int (Int.fmod x 4))=some (.int pk):=by
 obtain⟨j,e,h⟩:=fV x 4 (Dn rfl)
 haveI e:=e
 refine Rw e ?_;rcases j with _|_|_|_|j
 ·exact⟨0,by delta inR;exact⟨by decide,by decide⟩,rfl⟩
 ·exact⟨7,by delta inR;exact⟨by decide,by decide⟩,rfl⟩
 ·exact⟨16909060,by delta inR;exact⟨by decide,by decide⟩,rfl⟩
 ·exact⟨4294967295,by delta inR;exact⟨by decide,by decide⟩,rfl⟩
 ·exact absurd h (mh.mpr (jm 4 _))
theorem Xn(x):∃w,w<12/\bZ dE (.int (Int.fmod x 12))=some (.tuple [.str (JB.getD w ""),.str (JC.getD w ""),.int (zk.getD w 0)]):=by
 obtain⟨w,z1⟩:=fV x 12 (Dn rfl);refine Rw z1.1 ?_;refine⟨w,z1.2,lM ((List.range 12).map fun w=>.tuple [.str (JB.getD w ""),.str (JC.getD w ""),.int (zk.getD w 0)]) w _ ?_ (Dn rfl)⟩;simp only[jK,Bo z1.2];rfl
theorem TM(h:dm a):∃av,bZ (bO a) (.int 2)=some (.int av):=by
 rcases h with⟨k,v,rfl⟩|⟨k,rfl⟩
 ·exact⟨v,rfl⟩
 ·exact⟨0,rfl⟩
theorem Xo(x):∃l,(l=1\/l=2)/\fE .add (.int 1) (.int (Int.fmod x 2))=some (.int ((l:Nat):Int)):=by
 obtain⟨j,z1⟩:=fV x 2 (Dn rfl)
 haveI e:=z1.1
 haveI e:Int.fmod x 2=(j:Int):=e
 refine⟨1+j,(Nd.mp z1.2).elim (fun h=>.inl (Rw (Nat.lt_one_iff.mp h) rfl)) fun e=>.inr (Rw e rfl),?_⟩;refine Rw e ?_;show some (PyData.int (1+(j:Int)))=_;refine Rw (show((1+j:Nat):Int)=1+(j:Int)by exact rfl) ?_;rfl
theorem aaG{l:Nat}(h:l=1\/l=2):fZ (.list [bE (some (3,4)),bE (some (5,6))]) none (some (.int (l:Int)))=some (.list ((E8 l).map bE)):=by
 refine O2 h ?_ ?_<;>kernel_rfl
theorem aaH(n)(p)(hl:p.l=1\/p.l=2)(hS:(s8 p).Ok p.l)(hk:inR p.pk/\inR p.pv){W G:D}(EW:bZ p.S (.int 15)=some (.int x15))(PV:bZ p.S (.int 16)=some (.int x16))(Xl:bZ p.S (.int 17)=some (.int x17))(td:bZ p.S (.int 18)=some (.int x18)):
  ∃st,execs v8 (ae v8 (n+7)) (aH.body.drop 31) (zY p W G O a b c sp (tc m pw C last sV named after))= .ok (.ret (.dat (.bool true))) st:=by
 obtain⟨t0,t1,t2,ht⟩:=mZ (a:=p.tab) hS.lt
 haveI e:p=p.w p.l [t0,t1,t2]:=Rw (p:=fun z=>p=p.w p.l z) ht.symm rfl
 have hS:l9 p.l ((E8 p.l).map eb) [t0,t1,t2] []:=Rl ht hS;obtain⟨W',i,j,k,_,A,hi,hk',v1,v2,v3,v4,F,rfl⟩:=Xj n p ⟨G,O,a,c,sp,m,pw,C,last,sV,named,after⟩ W b hl t0 t1 t2 hS hk.1 hk.2 EW PV;obtain⟨b0,b1,b2,z7⟩:=aaD (T:=((tq (p.w p.l [t0,t1,t2]) i j k).map eb).set i (bk p k)) (by delta tq;rw[km,cn,km];split<;>simp[bT.w]) (wR _ i (Jr p.pk p.pv hk'));obtain⟨aE,e2⟩:=Xk n p ⟨G,O,a,c,sp,m,pw,C,last,sV,named,after⟩ W' hl t0 t1 t2 hS hk.1 hk.2 (j:=j) hi hk' Xl td b0 b1 b2 z7.2 v1 v2 v3 v4 F;rw[<-z7.1]at e2;exact⟨aE,Rw (p:=fun q=>execs v8 (ae v8 (n+7)) (aH.body.drop 31) (S3 q ⟨G,O,a,c,sp,m,pw,C,last,sV,named,after⟩ W b)= .ok (.ret (.dat (.bool true))) aE) e (cg (a:=(aH.body.drop 31).take 18) (b:=aH.body.drop 49) A e2)⟩
theorem JX(n)(S){st:St}(h:execs v8 (ae v8 n) aH.body ⟨[],[(91,.dat S)],[],[]⟩= .ok (.ret (.dat (.bool true))) st):ae v8 (n+1) 36 [.dat S] []= .ok (.dat (.bool true)) st.objs:=by
 have e:ae v8 (n+1) 36 [.dat S] []=(match execs v8 (ae v8 n) aH.body ⟨[],[(91,.dat S)],[],[]⟩with
    |.ok .next st=>.ok (.dat .none) st.objs
    |.ok (.ret r) st=>.ok r st.objs
    |.ok .cont _=>.bad
    |.exc x st=>.exc x st.objs
    |.bad=>.bad):=by kernel_rfl
 rw[e,h]
theorem TN(n:Nat)(p:bT)(hl:p.l=1\/p.l=2)(hd:Du p.l (s8 p) (E8 p.l))(ha:dm p.a)(hb:dm p.b)(Tg:dm p.q)(hne:keyOf p.a≠keyOf p.q)(hk:inR p.pk/\inR p.pv){w:Nat}(hw:w<12)(oG:p.lf=JB.getD w "")(gq:p.rt=JC.getD w "")(hex:p.ex=zk.getD w 0){x14 x15 x16 x17 x18:Int}(JJ:bZ p.S (.int 14)=some (.int x14))(EW:bZ p.S (.int 15)=some (.int x15))(PV:bZ p.S (.int 16)=some (.int x16))(Xl:bZ p.S (.int 17)=some (.int x17))(td:bZ p.S (.int 18)=some (.int x18)):
  ∃st,execs v8 (ae v8 (n+7)) (aH.body.drop 12) ⟨p.loc (.own (MJ p.pk)),p.aW,[],[]⟩= .ok (.ret (.dat (.bool true))) st:=by
 obtain⟨W,G,O,u,v,c,sp,s2⟩:=JL n p hl hd ha hb Tg hne hk hw oG gq hex;obtain⟨W',m,pw,C,last,sV,named,after,s3⟩:=JN n p hl hd ha hb JJ W G O u v c sp;exact(aaH n p hl hd.ok hk EW PV Xl td).elim fun st s4=>⟨st,cg (a:=(aH.body.drop 12).take 11) (b:=(aH.body.drop 23).take 8++aH.body.drop 31) s2 (cg s3 s4)⟩
theorem TP(n:Nat){x0 x1 x2 x3 x4 x5 x6 x7 x8 x9 EG Jy EY Jz x14 x15 x16 x17 x18:Int}{r:List Int}{N:Nat}(hX:wd (Sx (x0::x1::x2::x3::x4::x5::x6::x7::x8::x9::EG::Jy::EY::Jz::x14::x15::x16::x17::x18::r))=some (.int (N:Int)))(Xp:19<=N):
  ∃os,ae v8 (n+8) 36 [.dat (Sx (x0::x1::x2::x3::x4::x5::x6::x7::x8::x9::EG::Jy::EY::Jz::x14::x15::x16::x17::x18::r))] []= .ok (.dat (.bool true)) os:=by
 refine Bc fun au=>?_;obtain⟨l,hl,h0⟩:=Xo x0;obtain⟨bs,hb,h2⟩:=Xm x2;obtain⟨c0,c1,c2,rfl,hB⟩:=TL hb;obtain⟨a,da,ka,ea⟩:=wO (n+6) x3 x4 x5 x6;obtain⟨b,db,O8⟩:=wO (n+6) x7 x8 x9 EG
 haveI eb':=O8.2
 obtain⟨q,O8⟩:=wO (n+6) x7 (x4+1+Int.fmod x8 7) x9 EG;obtain⟨pk,Qw⟩:=aaF Jy;obtain⟨av,hav⟩:=TM da;obtain⟨w,VI⟩:=Xn Jz;have D:=du8 hl x1 hB;have l2:l<=2:=O2 hl (Dn rfl) (Dn rfl)
 haveI hi:=gm (n+5) (E8 l++ [c0,c1,c2].map (dI x1)) (fun e he=>(cG.mp he).elim (JU l e) (D.ok.te e)) (by rw[cZ,D.el];exact aI (l4 l2 3) (Dn rfl))
 obtain⟨st,s⟩:=TN n ⟨Sx (x0::x1::x2::x3::x4::x5::x6::x7::x8::x9::EG::Jy::EY::Jz::x14::x15::x16::x17::x18::r),l,[c0,c1,c2].map (dI x1),a,b,q,pk,Int.fmod EY 4294967296,av,JB.getD w "",JC.getD w "",zk.getD w 0⟩ hl D da db O8.1 (fun h=>key_ne x4 x8 ((ka.symm.trans h).trans O8.2.1)) ⟨Qw.1,Nn _ (by decide),NS _ (by decide)⟩ VI.1 rfl rfl rfl (x14:=x14) (x15:=x15) (x16:=x16) (x17:=x17) (x18:=x18) rfl rfl rfl rfl rfl;exact au ⟨_,JX (n+7) _ (cg (a:=aH.body.take 12) (b:=aH.body.drop 12) (aay (n+6) r (N:Int) l [c0,c1,c2] a b q pk av _ _ _ hX (kn.mpr Xp) h0 h2 (Al (hb5 hB.f0) (Al (hb5 hB.f1) (Al (hb5 hB.f2) An))) rfl l2 (aaG hl) hi ea eb' O8.2.2 Qw.2 hav VI.2) s)⟩
theorem EM(n)(cY)(hl:cY.length<=1000):∃os,ae v8 (n+8) 36 [.dat (Sx cY)] []= .ok (.dat (.bool true)) os:=by
 have hX:wd (Sx cY)=some (.int (cY.length:Int)):=(lO (cY.map .int) (Rw (cn _) (aI hl (Dn rfl)))).trans (Rw (cn _) rfl);by_cases td:cY.length<19
 ·exact⟨[],bI [324] [324007018] [] (aV hX (aR (fL (a:=(cY.length:Int)) (b:=19) (bP (kc.mpr td))) aN)) (by kernel_rfl)⟩
 haveI Xp:=kl td
 haveI u:=u6 (n:=13) Xp
 generalize cY.length=N at hX Xp;clear td hl;obtain⟨x0,x1,x2,x3,x4,x5,b6,g6⟩:=u;obtain⟨x6,x7,x8,x9,EG,Jy,b12,g12⟩:=u6 (n:=7) g6;obtain⟨EY,Jz,x14,x15,x16,x17,b18,g18⟩:=u6 (n:=1) g12
 induction b18 using Lc with
 |nil=>exact absurd g18 (Nat.not_succ_le_zero _)
 |cons x18 r=>exact TP n hX Xp

end L
set_option tactic.hygienic true
theorem zy:∀{vs:List Value} {is:List Int},WellAll P h vs (ofPys (is.map PyData.int))->ak w V h vs (is.map PyData.int)
 | [],[],_=>.nil
 |_::_,[],x=>by cases x
 | [],_::_,x=>by cases x
 |v::vs,i::is,x=>by
  cases x with
  |cons a b=>
   cases a;exact .cons (.int _ _) (zy b)
theorem aaI{lo:List Str}{K:Frag}(X:K.In s.heap)(S:mI.Seen K)(T:Top pr lo LP mg mb s.heap)(hg:s.gens=#[]){cY:List Int}(hw:Well w.params s.heap (.ref l) (ofPy (.list (cY.map .int))))(hl:cY.length<=1000):
  wpAny (model PySem.Challenge.rw_sx_vvault_8.row.prog w) callerA (call (.ref 389) [.ref l]) (fun v s'=>v= .bool true/\(∀b o,s.heap.get? b=some o->s'.heap.get? b=some o)/\s'.os=s.os/\s'.gens=#[]) (fun ω ω=>False) s:=by
 obtain⟨os,e⟩:=L.EM 12 cY hl;have sp:=yR (aad (w:=w) (s:=s) X S T) (RB S) (aae X S T) aac 20;have e':ae (PC w s K).P 20 36 [.dat (L.Sx cY)] []= .ok (.dat (.bool true)) os:=e
 have DW:aU w (fun ω=>False) s.heap (.ref l) (.list (cY.map .int)):=by
  cases hw with
  |list h1 h2=>exact .list id ⟨_,h1⟩ (zy h2)
 have wi:qD (PC w s K) [] [] ⟨fun ω=>False,fun ω=>none,[],s.heap⟩ s:=by
  refine⟨rfl,hg,rfl,⟨fun ω ω z=>z,fun ω z=>z.elim,fun ω z=>z.elim,fun ω ω z=>(nomatch z),fun ω ω z=>(nomatch z),fun ω z=>(nomatch z),?_⟩,rfl,fun ω ω z=>(nomatch z),fun ω ω z=>(nomatch z)⟩;trivial
 refine bA (BV (sp 36 aH 389 rfl rfl [.dat (L.Sx cY)] [] (by rw[e'];exact fun z=>(nomatch z)) callerA [] ⟨fun ω=>False,fun ω=>none,[],s.heap⟩ s [.ref l] rfl rfl (by decide) (by decide) wi ⟨DW,trivial⟩)) (fun v s2 z=>?_) fun x s2 z=>?_
 ·obtain⟨r,WK,q,e1,m1,w1,r1⟩:=z;rw[e']at e1;cases e1;refine⟨?_,fun b o eb=>by rw[w1.heap];exact w1.ok.stays b o eb,w1.os,w1.gens⟩;cases r1;rfl
 ·obtain⟨y,WK,q,e1,_⟩:=z;rw[e']at e1;cases e1
theorem EN(args):WTm.value [] (.eq .res (.lit (.bool true))) {args:=args,res:=some (.bool true),after:=args}=some (.bool true):=by
 simp[WTm.value,W.same]
def d8:DefRec×List (Str×Expr):=(defOf Q8 "law").get (by rfl)
end
end Mine.Internal
set_option tactic.hygienic true
open PySem PySem.W PyProof.Rows
set_option maxHeartbeats 8000000 in
theorem PySem.Challenge.cw_sx_vvault_8_holds : PySem.Challenge.rw_sx_vvault_8.Holds := by
 w_on
 refine holds_law Mine.Internal.Ux fun aaP=>?_;refine holds_open (q:=Mine.Internal.Q8) (loose:=Mine.Internal.lo8) (Xt:=fun s=>xlAt Mine.Internal.Q8 [] s&&recOk [] s) (XP:=XL Mine.Internal.Q8 []) (Yf:=Hook.obs Mine.Internal.mI.hook) (Ya:=Hook.val Mine.Internal.mI.hook) (YP:=Hook.says Mine.Internal.mI.hook) (d:=Mine.Internal.d8.1) (kwd:=Mine.Internal.d8.2) (N:=5564) Mine.Internal.UI (Hook.of Mine.Internal.mI.hook) (Hook.keeps Mine.Internal.mI.hook) (fun s e=>xl_of s (Bool.and_eq_true_iff.mp e).1) XL.keeps (by rfl) (by rfl) (by rfl) (fun s e=>recFacts_of (Bool.and_eq_true_iff.mp e).2) (by rfl) (by assumption) (by decide+kernel) ⟨rfl,rfl,rfl,rfl,rfl,by decide+kernel⟩ ?hw ?hc
 case hw=>w_witness2
 intro w aaQ jR mg mb G Y fa o pm cd doc dV kV ho hd hcd hD hmg hg args vals as hpre hlay hrd hwl hlo;obtain⟨K,KX,KV⟩:=Y;have S:=Mine.Internal.Tab.seen KV;refine Ground.open G ?_;intro T B D TE TW
 wrow_args hpre hlay hrd hwl hlo
 rename_i cY hs aaJ QZ hr1 nQ ws3 ws4 l vs ws5 hL ra hw r0 hI hr2 aaK aa0
 have hfa:fa=389:=by
  have h1:=mg_of KX T.g (Mine.Internal.LU S);have h2:mg "law" =some (.ref fa):=hmg;rw[h1]at h2;cases h2;rfl
 subst hfa;have hlen:cY.length<=1000:=by omega
 refine wpAny_mono (Mine.Internal.aaI KX S T hg hw hlen) (fun v s' z=>?_) fun _ _ z=>z.elim;obtain⟨rfl,hk,O9,hg'⟩:=z;exact⟨.inl ⟨_,.bool true,[],rfl,fun _=>rfl,.bool true,postW_of (X:=true) rfl (Mine.Internal.EN _) rfl,fun _=>⟨List.nodup_nil,fun _ h=>(nomatch h)⟩⟩,.of_keep hk,O9,.of_eq hg'⟩
