import PyProof.Rows.All
import Wide.All
import OpenK.AllK
import Wide.FinOn
import KE.KSuper
import PyProof.ExcClass3
import PyProof.ExcBaseAll.Exception
import PyProof.InstStoreFacts
import PyProof.ExcAttrAll.Exception
import Lean
import PySem.Challenge.RW_nz0398_01
set_option Elab.async false
set_option linter.all false
set_option autoImplicit false
set_option tactic.hygienic false
set_option maxRecDepth 1000000
set_option maxHeartbeats 2000000
set_option bootstrap.genMatcherCode false
set_option genSizeOf false
set_option genCtorIdx false
set_option genInjectivity false
set_option backward.match.sparseCases false
noncomputable section
open Exists renaming elim->ze
open PySem renaming wpAny_bind->zf,wpAny_pure->zl,Value->zo,Shared->zt,model->zv,wpAny->zx,wpAny_mono->zI,Addr->zJ,strKind->zR,wpAny_holding->zT,NameKind->Zc,Env->Zj,codeAny->ZH,wpAny_callSpecial?_slot->ZJ,SetTable->ZL,call->ZP,Around->ZV,recursionLimit->yb,Heap->yi,Comprehension->yr,cLine->yA,sizeLine->yG,callWith_type->yI,DictEntry->yL,OsState->yO,Result->yX,Builtin->Yc,Expr->Ye,ClassData->Yl,eval->YJ,Fin->YQ,FuncData->YW,World->Y3,IsTupleKey->Y4,wpAny_Constant_str->Y6,MethodOnS->adf,methodCallPos->adj,IsPart->ado,isSubtype->adA,cameBackBy->adB,interactive->adQ,Operator->adU,seqIndex?->adV,CmpOp->ad4
open And renaming elim->zg,intro->aej
open Option.some renaming inj->zh,injEq->Yp
open Bool renaming false_ne_true->zi,or_eq_true_iff->zW,and_eq_true->zY,noConfusion->Zq,not_eq_true'->Yt,eq_false_iff->abG,and_eq_true_iff->adG,false_or->ad1
open PySem.Heap renaming get?_push_of_some->zj,get?_push_size->zq,lt_size->zZ,get?_update_self->Ze,size_push->Zp,get?_update_other->ZD,get?_update_ne->ZG,SameBut->ZN,ExtBut->yT,get?_none_of_le->adF,get?->ad0
open Nat renaming le_trans->zk,le_refl->zm,le_add_right->zu,succ_le_succ->zw,zero_le->zE,lt_of_lt_of_le->zF,add_le_add_left->zG,lt_of_le_of_lt->zM,le_succ->zN,le_of_eq->zO,le_succ_of_le->zQ,ne_of_lt->zU,add_le_add_right->zV,le_of_succ_le_succ->Za,add_assoc->Zb,le_add_left->Zf,le_of_lt_succ->Zg,lt_succ_self->Zl,succ_pos->Zu,not_lt_zero->Zw,le_of_lt->Zz,lt_trans->ZA,lt_succ_of_lt->ZK,le_of_not_lt->ZS,lt_succ_iff_lt_or_eq->ZY,succ_add_eq_add_succ->ZZ,le_of_succ_le->Z0,beq->Z2,not_succ_le_zero->Z6,le_of_ble_eq_true->yd,add_comm->yf,lt_succ_of_le->yk,add_right_comm->yt,zero_add->yu,lt_irrefl->yv,ne_of_gt->yD,not_lt_of_le->yK,add_le_add->yN,lt_of_succ_lt_succ->yP,le_antisymm->yS,add_left_cancel->y9,lt_add_of_pos_right->Yh,eq_or_lt_of_le->Yj,le_mul_of_pos_left->Ym,lt_of_succ_lt->Yq,add_sub_of_le->Yr,eq_of_beq_eq_true->Yx,mul_le_mul_right->YF,not_lt->YK,min_eq_left->YT,mul_le_mul_left->YU,lt_trichotomy->Y8,succ_lt_succ->adp,sub_succ_lt_self->adD,sub_le->ad7,mod_lt->ad9,lt_asymm->aea,decEq->aei
open Option renaming isSome_iff_exists->zp,map_eq_some_iff->Zk,isSome->Zv,map_some->yQ,bind_eq_some_iff->Yg,getD->aeh
open List renaming getElem?_eq_some_iff->zr,mem_of_getElem?->zy,contains_iff_mem->zz,length_map->zA,getElem?_eq_getElem->zB,all_eq_true->zC,mem_map->zH,mem_cons->zK,size_toArray->zS,mem_singleton->zX,getElem?_map->Zd,mem_append->Zi,mem_filter->Zn,map_cons->Zo,length_append->Zr,getElem?_eq_none->Zs,mem_map_of_mem->ZI,getD_eq_getElem?_getD->ZM,getElem?_set_self->ZQ,nodup_cons->ZR,not_mem_nil->ZT,range->ZW,getElem?_set_ne->Z5,all_cons->Z9,map_append->yc,map_map->ye,pairwise_cons->yg,length_cons->yh,length_range->yl,getElem?_toArray->yw,mem_cons_self->yx,replicate->yz,getElem?_cons_zero->yE,getElem?_cons_succ->yF,map_congr_left->yH,any_eq_true->yM,mem_append_right->yV,perm_ext_iff_of_nodup->yY,getElem?_of_mem->y3,mem_append_left->y4,mem_cons_of_mem->y5,getElem?_range->Yb,eraseIdxIfInBounds_toArray->Ys,take_append_drop->Yu,take_length->Yz,length_take->YB,perm_middle->YC,eq_nil_of_length_eq_zero->YD,mem_of_mem_take->YE,mem_zipIdx_iff_getElem?->YH,filterMap_cons->YL,append_nil->YM,length_nil->YO,of_mem_zip->YR,length_set->YS,getElem?_append_right->YV,mem_filterMap->YY,getElem?_append_left->YZ,pairwise_iff_getElem->Y0,getElem?_zip_eq_some->Y1,getElem?_inj->Y7,ext_getElem?->Y9,lookup_cons->adn,getElem_mem->ads,drop_eq_nil_of_le->adt,toArray->adw,cons_lt_cons_iff->adx,forIn_cons->ady,length_take_le'->adC,length_eraseIdx->adE,nodup_nil->adH,mem_range->adI,lt_irrefl->adJ,take_succ->adM,lookup->adS,filter_sublist->adT
open PySem.PyData renaming eqv->zD,strOk->Zh,keyHash->Zy,tuple->yq,int->Yn,str->Yo,eqvAll->YG,depthAll->adu,canLayAll0->ad6
open PySem.NameKind renaming cell->zL,free->ZE,globalImplicit->adi
open PySem.Value renaming ref->Zm,type->ZF,builtin->Z3,none->yp,isStrOf_shape->adP,int->aef
open PySem.SetTable renaming below->Zt,insertAt->Zx,toList_insertAt->yC,leap->YI,bits->adm,runEnd->adz,Probe->adL
open PySem.Around renaming under_plainId->ZC
open PySem.Obj renaming data_mapFields->ZO,isFreed_of_fields->Z1,putNameByArray->Z4,mapFields->ya,mapSeq->ym,cls_mapFields->abO,putName->adk
open PySem.Heap.SameBut renaming update->ZU
open Array renaming getElem?_toList->ZX,length_toList->yn,getElem?_eq_some_iff->yo,mem_toList_iff->yZ,getElem?_eq_getElem->y6,size_map->Y2,toList_map->adq,forIn_toList->ad3,mk->aem
open PySem.W renaming findIn->Z7,topFrame->y8,namesBound->ad5,Looks->ad8
open Ne renaming symm->Z8
open PySem.Builtin.Frozenset renaming updateFrom->yj
open List.cons renaming inj->yy,injEq->aeg
open Int renaming toNat_natCast->yB,ofNat_lt->yR,toNat_of_nonneg->YN,natCast_nonneg->YX,not_lt->Y5,le_of_lt->adv,le_trans->aeb,toNat_lt->aec
open PySem.Heap.IsTupleIter renaming typeIs->yJ
open ForInStep renaming yield->yU
open PySem.SetTable.probe renaming go->yW
open PySem.Builtin.SmallTypes renaming nextOf->y7
open PySem.Str renaming ofString->Yd,empty->adW
open PySem.W.KasT renaming kasWp_bind->Yi
open PySem.Code renaming quiet_builtin->Yk,builtin->aee
open PySem.Builtin.Dict renaming showsAll->Yv
open Nat.succ renaming inj->Yw
open Classical renaming em->Yy
open Or renaming elim->YA
open PySem.Builtin.List renaming listSameRef->adg
open PySem.Keeper renaming boundFrame->adh,machine->adN,frame->aed
open PySem.Builtin.Range renaming rangeSize->adl,small->adR
open PySem.Value.type renaming inj->adK
open PyProof.Rows renaming lt_int->adO
open PySem.ScopeKind renaming function->adX
open Prod renaming ext->adY
open PySem.W.Looks renaming of_pure->adZ
open PySem.Walks renaming range->aek
open PySem.W.WShape renaming has->ael
namespace Lw
open PySem
inductive c8.{u,v}{α:Sort u}{β:Sort v}(p:α->β->Prop):Prop
 |mk (a:α) (b:β) (h:p a b)
inductive mi.{u,v,w}{α:Sort u}{β:Sort v}{γ:Sort w}(p:α->β->γ->Prop):Prop
 |mk (a:α) (b:β) (c:γ) (h:p a b c)
inductive NN.{u,v,w,x}{α:Sort u}{β:Sort v}{γ:Sort w}{δ:Sort x}(p:α->β->γ->δ->Prop):Prop
 |mk (a:α) (b:β) (c:γ) (d:δ) (h:p a b c d)
inductive Ex5.{u,v,w,x,y}{α:Sort u}{β:Sort v}{γ:Sort w}{δ:Sort x}{ε:Sort y}(p:α->β->γ->δ->ε->Prop):Prop
 |mk (a:α) (b:β) (c:γ) (d:δ) (e:ε) (h:p a b c d e)
inductive Ex6.{u,v,w,x,y,z}{α:Sort u}{β:Sort v}{γ:Sort w}{δ:Sort x}{ε:Sort y}{ζ:Sort z}(p:α->β->γ->δ->ε->ζ->Prop):Prop
 |mk (a:α) (b:β) (c:γ) (d:δ) (e:ε) (f:ζ) (h:p a b c d e f)
inductive aF(p1 p2:Prop):Prop
 |mk (h1:p1) (h2:p2)
inductive aG(p1 p2 p3:Prop):Prop
 |mk (h1:p1) (h2:p2) (h3:p3)
inductive dQ(p1 p2 p3 p4:Prop):Prop
 |mk (h1:p1) (h2:p2) (h3:p3) (h4:p4)
inductive eX(p1 p2 p3 p4 p5:Prop):Prop
 |mk (h1:p1) (h2:p2) (h3:p3) (h4:p4) (h5:p5)
inductive DJ(p1 p2 p3 p4 p5 p6:Prop):Prop
 |mk (h1:p1) (h2:p2) (h3:p3) (h4:p4) (h5:p5) (h6:p6)
inductive IM(p1 p2 p3 p4 p5 p6 p7:Prop):Prop
 |mk (h1:p1) (h2:p2) (h3:p3) (h4:p4) (h5:p5) (h6:p6) (h7:p7)
inductive R7(p1 p2 p3 p4 p5 p6 p7 p8 p9:Prop):Prop
 |mk (h1:p1) (h2:p2) (h3:p3) (h4:p4) (h5:p5) (h6:p6) (h7:p7) (h8:p8) (h9:p9)
inductive L9(p1 p2 p3 p4 p5 p6 p7 p8 p9 p10 p11 p12 p13:Prop):Prop
 |mk (h1:p1) (h2:p2) (h3:p3) (h4:p4) (h5:p5) (h6:p6) (h7:p7) (h8:p8) (h9:p9) (h10:p10) (h11:p11) (h12:p12) (h13:p13)
abbrev D:=PyData
inductive AV where
 |d (p:D)
 |o (n:Nat)
 |w (i:Nat)
inductive Slot where
 |un
 |v (a:AV)
 |ol (l:List D)
 |ro (l:List D)
 |od (bT:List (D×D))
inductive bW where
 |list (l:List D)
 |dict (es:List (D×AV))
 |inst (c:Nat) (fs:List (Nat×AV))
noncomputable def AV.ctorIdx:AV->Nat
 |.d _=>0 |.o _=>1 |.w _=>2
noncomputable def Slot.ctorIdx:Slot->Nat
 |.un=>0 |.v _=>1 |.ol _=>2 |.ro _=>3 |.od _=>4
noncomputable def bW.ctorIdx:bW->Nat
 |.list _=>0 |.dict _=>1 |.inst _ _=>2
abbrev G:=List bW
abbrev Env:=List Slot
inductive R(α:Type) where
 |ok (a:α)
 |ex (aaR:D) (g:G)
 |no
noncomputable def R.ctorIdx{α:Type}:R α->Nat
 |.ok _=>0 |.ex _ _=>1 |.no=>2
theorem R.ok.inj{α:Type}{a b:α}(h:R.ok a=R.ok b):a=b:=by cases h;rfl
noncomputable def R.bind{α β:Type}(x:R α)(f:α->R β):R β:=match x with
 |.ok a=>f a
 |.ex s g=>.ex s g
 |.no=>.no
noncomputable instance:Monad R where
 pure:=.ok
 bind:=R.bind
inductive KC where
 |none
 |bool (b:Bool)
 |int (i:Int)
 |str (k:Nat)
set_option genCtorIdx true in
inductive BI where
 |len |sorted |tuple |list |dict |int |str |min
set_option genCtorIdx true in
inductive BM where
 |append |pop |hK |hM
mutual
inductive CE where
 |k (c:KC) (p:Pos)
 |neg (i:Int) (p' p:Pos)
 |not (a:CE) (p:Pos)
 |v (i:Nat) (x:Nat) (p:Pos)
 |gk (x:Nat) (p:Pos)
 |j6 (op:adU) (a b:CE) (p:Pos)
 |Iu (op:ad4) (a b:CE) (p:Pos)
 |NO (op:BoolOp) (es:cz) (p:Pos)
 |ite (t a b:CE) (p:Pos)
 |Rr (es:cz) (p:Pos)
 |sZ (es:cz) (p:Pos)
 |vc (ps:pT) (p:Pos)
 |nl (es:cz) (p:Pos)
 |nd (ps:pT) (p:Pos)
 |sub (a i:CE) (p:Pos)
 |Ma (a:CE) (lo hi st:CO) (p' p:Pos)
 |eY (a:CE) (x:Nat) (p:Pos)
 |cf (f:Nat) (x:Nat) (es:cz) (pf p:Pos)
 |cb (b:BI) (e:CE) (pf p:Pos)
 |bm (a:CE) (m:BM) (es:cz) (pa p:Pos)
 |cm (a:CE) (f:Nat) (m:Nat) (es:cz) (pa p:Pos)
 |new (c:Nat) (x:Nat) (es:cz) (pf p:Pos)
 |s9 (f:Nat) (es:cz) (p1 p2 p3 p4:Pos)
 |Ru (a:CE) (t:Bool) (pt pf p:Pos)
 |comp (gs:fQ) (sc:List (Nat×Zc)) (p:Pos)
 |fs (ps:qN) (p:Pos)
 |j7 (i:Nat) (x:Nat) (p:Pos)
 |Bv (len:Bool) (e:CE) (pf pg p' p:Pos)
 |Bw (e:CE) (pa p1 pf p:Pos)
 |iK (e:Ye)
inductive cz where
 |nil
 |cons (e:CE) (r:cz)
inductive pT where
 |nil
 |cons (k v:CE) (r:pT)
inductive CO where
 |n
 |s (e:CE)
inductive qN where
 |nil
 |lit (s:Nat) (p:Pos) (r:qN)
 |val (e:CE) (p:Pos) (r:qN)
inductive CI where
 |e (a:CE)
 |zip (a b:CE) (pf p:Pos)
 |Bx (a:CE) (pf p:Pos)
 |Rv (a:CE) (pf p:Pos)
inductive fQ where
 |el (a:CE)
 |cons (ts:List (Nat×Nat×Pos)) (tp:Option Pos) (it:CI) (ifs:cz) (r:fQ)
end
inductive CT where
 |n (i:Nat) (x:Nat) (p:Pos)
 |own (i:Nat) (x:Nat) (p:Pos)
 |eY (a:CE) (x:Nat) (p:Pos)
 |sub (a k:CE) (p:Pos)
mutual
inductive CS where
 |expr (e:CE) (p:Pos)
 |ret (e:CE) (p:Pos)
 |Iv (t:CT) (e:CE) (p:Pos)
 |Bz (ts:List CT) (tp:Pos) (e:CE) (p:Pos)
 |lK (ts:List CT) (tp:Pos) (es:cz) (ep:Pos) (p:Pos)
 |ite (t:CE) (a b:aK) (p:Pos)
 |while (t:CE) (a:aK) (p:Pos)
 |for (ts:List (Nat×Nat×Pos)) (tp:Option Pos) (it:CI) (a:aK) (p:Pos)
 |mj (x:Nat) (msg aaR:CE) (pf pc p:Pos)
 |vp (a:aK) (x y s:Nat) (px py pa pr ph p:Pos)
 |iK (s:Stmt)
inductive aK where
 |nil
 |cons (s:CS) (r:aK)
end
variable{α β:Type}
noncomputable def lim:Nat:=4096
theorem ag{P:Prop}(h:∀R:Prop,(P->R)->R):P:=h P id
@[elab_as_elim] theorem gR{α:Sort _}{a:α}{P:α->Prop}{b:α}(h:a=b)(q:P b):P a:=h.symm▸q
@[elab_as_elim] theorem gL{α:Sort _}{a:α}{P:α->Prop}{b:α}(h:b=a)(q:P b):P a:=h▸q
theorem NP{M:Model}{A:ZV}{E:zo->zt->Prop}{s:zt}{c:Prop}[d:Decidable c]{m n:Sem α}{Q:α->zt->Prop}(e:c)(h:zx M A m Q E s):zx M A (@ite _ c d m n) Q E s:=(if_pos e).symm▸h
theorem iT{M:Model}{A:ZV}{E:zo->zt->Prop}{s:zt}{c:Prop}[d:Decidable c]{m n:Sem α}{Q:α->zt->Prop}(e:¬c)(h:zx M A n Q E s):zx M A (@ite _ c d m n) Q E s:=(if_neg e).symm▸h
theorem ns{a:α}{P:Prop}(h:none=some a):P:=nomatch h
theorem qO{b:Bool}{x y:α}(h:(if b=true then some x else none)=some y):b=true/\x=y:=match b,h with
 |true,h=>⟨rfl,zh h⟩
 |false,h=>ns h
theorem DK{p:Prop}[Decidable p]{x y:α}(h:(if p then some x else none)=some y):p/\x=y:=by
 by_cases q:p
 ·exact⟨q,zh ((if_pos q).symm.trans h)⟩
 ·exact ns ((if_neg q).symm.trans h)
theorem aa{a b:Bool}(h:(a&&b)=true):a=true/\b=true:=(zY _ _).mp h
theorem bind_some{o:Option α}{f:α->Option β}{b:β}(h:o.bind f=some b):∃a,o=some a/\f a=some b:=Yg.mp h
theorem map_some{o:Option α}{f:α->β}{b:β}(h:o.map f=some b):∃a,o=some a/\f a=b:=Zk.mp h
inductive O(α:Type) where
 |n
 |s (a:α)
 |c (b:Bool) (x:O α)
namespace O
noncomputable def bind(x:O α)(f:α->O β):O β:=match x with
 |.n=>.n
 |.s a=>f a
 |.c t x=>.c t (x.bind f)
noncomputable def of:Option α->O α
 |some a=>.s a
 |none=>.n
noncomputable def is:O α->α->Prop
 |.n,_=>False
 |.s a,b=>a=b
 |.c t x,b=>aF (t=true) (x.is b)
theorem iz{f:α->O β}{b:β}{P:Prop}{x:O α}(h:(x.bind f).is b)(k:∀a,x.is a->(f a).is b->P):P:=by
 induction x with
 |n=>exact h.elim
 |s a=>exact k a rfl h
 |c t x ih=>exact ih h.2 λa p=>k a ⟨h.1,p⟩
theorem of_is{o:Option α}{a:α}(h:(of o).is a):o=some a:=by
 cases o with
 |none=>exact h.elim
 |some b=>exact congrArg _ h
theorem cV{o:Option α}{f:α->O β}{b:β}{P:Prop}(h:((of o).bind f).is b)(k:∀a,o=some a->(f a).is b->P):P:=iz h λa p=>k a (of_is p)
end O
inductive W(α:Type) where
 |ok (a:α)
 |ex (p:D) (g:G)
 |no
 |ask (f:Nat) (vs:List AV) (g:G) (k:R (AV×G)->W α)
 |bO (b:Bool) (x:W α)
 |br (p:Nat) (b:Bool) (x y:W α)
abbrev Call:=Nat->List AV->G->R (AV×G)
namespace W
noncomputable def bind(x:W α)(f:α->W β):W β:=match x with
 |.ok a=>f a
 |.ex p g=>.ex p g
 |.no=>.no
 |.ask n vs g k=>.ask n vs g λr=>(k r).bind f
 |.bO b x=>.bO b (x.bind f)
 |.br p b x y=>.br p b (x.bind f) (y.bind f)
noncomputable def eY(x:W α)(f:R α->W β):W β:=match x with
 |.ok a=>f (.ok a)
 |.ex p g=>f (.ex p g)
 |.no=>.no
 |.ask n vs g k=>.ask n vs g λr=>(k r).eY f
 |.bO b x=>.bO b (x.eY f)
 |.br p b x y=>.br p b (x.eY f) (y.eY f)
noncomputable def of:R α->W α
 |.ok a=>.ok a
 |.ex p g=>.ex p g
 |.no=>.no
noncomputable def run(c:Call):W α->R α
 |.ok a=>.ok a
 |.ex p g=>.ex p g
 |.no=>.no
 |.ask n vs g k=>(k (c n vs g)).run c
 |.bO b x=>match b with
  |true=>x.run c
  |false=>.no
 |.br _ b x y=>match b with
  |true=>x.run c
  |false=>y.run c
theorem hO{c:Call}{f:α->W β}{x:W α}:(x.bind f).run c=(x.run c).bind λa=>(f a).run c:=by
 induction x with
 |ask n vs g k ih=>exact ih _
 |bO b x ih=>cases b with
  |true=>exact ih
  |false=>rfl
 |br p b x y Mb Mc=>cases b with
  |true=>exact Mb
  |false=>exact Mc
 |_=>rfl
theorem bind_assoc{δ:Type}{f:α->W β}{g:β->W δ}{x:W α}:(x.bind f).bind g=x.bind λa=>(f a).bind g:=by
 induction x with
 |ask n vs s k ih=>exact congrArg (W.ask n vs s) (funext ih)
 |bO b x ih=>exact congrArg (W.bO b) ih
 |br p b x y Mb Mc=>exact congr (congrArg (W.br p b) Mb) Mc
 |_=>rfl
theorem xv{c:Call}{f:R α->W β}(hf:(f .no).run c=.no){x:W α}:(x.eY f).run c=(f (x.run c)).run c:=by
 induction x with
 |no=>exact hf.symm
 |ask n vs g k ih=>exact ih _
 |bO b x ih=>cases b with
  |true=>exact ih
  |false=>exact hf.symm
 |br p b x y Mb Mc=>cases b with
  |true=>exact Mb
  |false=>exact Mc
 |_=>rfl
end W
def IP(f:Nat)(vs:List AV)(g:G):W (AV×G):=.ask f vs g W.of
noncomputable def opt{α:Type}:Option α->W α
 |some a=>.ok a
 |none=>.no
noncomputable def fH{α:Type}:O α->W α
 |.s a=>.ok a
 |.n=>.no
 |.c b x=>.bO b (fH x)
noncomputable def intD:D->Option Int
 |.int i=>some i
 |_=>none
noncomputable def BA:D->Option Str
 |.str x=>some x
 |_=>none
noncomputable def BB:D->Option (List D)
 |.tuple x=>some x
 |_=>none
noncomputable def vq:D->Option (List D)
 |.list x=>some x
 |_=>none
noncomputable def R8:D->Bool
 |.none=>true
 |_=>false
noncomputable def NQ:D->Option (List (D×D))
 |.dict l=>some l
 |_=>none
noncomputable def R9:D->Option Bool
 |.bool b=>some b
 |_=>none
theorem dR{d:D}{i:Int}(h:intD d=some i):d=.int i:=by
 cases d with
 |int j=>exact congrArg _ (zh h)
 |_=>exact ns h
theorem fU{d:D}{i:Str}(h:BA d=some i):d=.str i:=by
 cases d with
 |str j=>exact congrArg _ (zh h)
 |_=>exact ns h
theorem fV{d:D}{i:List D}(h:BB d=some i):d=.tuple i:=by
 cases d with
 |tuple j=>exact congrArg _ (zh h)
 |_=>exact ns h
theorem eT{d:D}{i:List D}(h:vq d=some i):d=.list i:=by
 cases d with
 |list j=>exact congrArg _ (zh h)
 |_=>exact ns h
theorem pU{d:D}{i:List (D×D)}(h:NQ d=some i):d=.dict i:=by
 cases d with
 |dict j=>exact congrArg _ (zh h)
 |_=>exact ns h
theorem BC{d:D}{i:Bool}(h:R9 d=some i):d=.bool i:=by
 cases d with
 |bool j=>exact congrArg _ (zh h)
 |_=>exact ns h
theorem DL{d:D}(h:R8 d=true):d=.none:=by
 cases d with
 |none=>rfl
 |_=>exact absurd h zi
theorem vt{o:Option α}{p:α->Bool}(h:o.any p=true):∃a,o=some a/\p a=true:=by
 cases o with
 |none=>exact absurd h zi
 |some a=>exact⟨a,rfl,h⟩
mutual
noncomputable def BD:D->D->Bool
 |.none,b=>R8 b
 |.bool x,b=>decide (R9 b=some x)
 |.int x,b=>decide (intD b=some x)
 |.str x,b=>decide (BA b=some x)
 |.list x,b=>(vq b).any λy=>jq x y
 |.tuple x,b=>(BB b).any λy=>jq x y
 |.dict x,b=>(NQ b).any λy=>xw x y
noncomputable def jq:List D->List D->Bool
 |[],b=>b.isEmpty
 |a::r,b=>match b with
  |[]=>false
  |b::t=>BD a b&&jq r t
noncomputable def xw:List (D×D)->List (D×D)->Bool
 |[],b=>b.isEmpty
 |(a,x)::r,b=>match b with
  |[]=>false
  |(b,y)::t=>BD a b&&(BD x y&&xw r t)
end
mutual
noncomputable def nodict:D->Bool
 |.list xs |.tuple xs=>bK xs
 |.dict _=>false
 |.none |.bool _ |.int _ |.str _=>true
noncomputable def bK:List D->Bool
 |[]=>true
 |x::r=>nodict x&&bK r
end
noncomputable def isStr:D->Bool
 |.str _=>true
 |_=>false
noncomputable def hV:D->Bool
 |.str _ |.int _=>true
 |_=>false
def i7:D->Bool
 |.tuple xs=>xs.all hV
 |_=>false
noncomputable def Sd:List Nat->List Nat->Bool
 |_,[]=>false
 |[],_::_=>true
 |a::r,b::t=>if a==b then Sd r t else decide (a<b)
def cE(a b:D):Bool:=match a with
 |.str x=>match b with
  |.str y=>Sd x.cps.toList y.cps.toList
  |_=>false
 |.int x=>match b with
  |.int y=>decide (x<y)
  |_=>false
 |_=>false
noncomputable def jr:List D->List D->Bool
 |_,[]=>false
 |[],_::_=>true
 |a::r,b::t=>if zD a b then jr r t else cE a b
def d4(a b:D):Bool:=match a with
 |.tuple xs=>match b with
  |.tuple ys=>jr xs ys
  |_=>false
 |a=>cE a b
noncomputable def aT:List D->List D
 |[]=>[]
 |x::r=>vv x (aT r)
where vv (x:D):List D->List D
 |[]=>[x]
 |y::r=>if d4 y x then y::vv x r else x::y::r
noncomputable def dedup:List D->List D
 |[]=>[]
 |x::r=>x::(dedup r).filter (λy=>!PyData.eqv y x)
def j8:D->Bool
 |.tuple (x::xs)=>isStr x&&xs.all isStr
 |_=>false
noncomputable def isInt:D->Bool
 |.int _=>true
 |_=>false
def ml(p:D):Bool:=(BB p).any λl=>match l with
 |[]=>false
 |a::r=>isInt a&&match r with
  |[]=>false
  |b::r=>isStr b&&r.isEmpty
noncomputable def eZ:List D->Bool
 |[]=>true
 |x::r=>r.all (λy=>d4 x y||d4 y x)&&eZ r
def sortable(l:List D):Bool:=(l.all isStr||l.all j8||l.all ml)&&eZ l
noncomputable def e6{α:Type}(k:D):List (D×α)->Option α
 |[]=>none
 |(a,v)::r=>if zD a k then some v else e6 k r
noncomputable def dw{α:Type}(k:D)(v:α)(es:List (D×α)):List (D×α):=
 if es.any (λe=>zD e.1 k) then es.map (λe=>if zD e.1 k then(e.1,v) else e) else es++[(k,v)]
noncomputable def tm{α:Type}(k:D):List (D×α)->List (D×α)
 |[]=>[]
 |(a,x)::r=>if zD a k then r else(a,x)::tm k r
def d6{α:Type}(k:D)(es:List (D×α)):Bool:=(isStr k&&es.all λe=>isStr e.1)||(i7 k&&es.all λe=>i7 e.1)
def NR{α:Type}(k:D)(es:List (D×α)):Bool:=isStr k&&es.all λe=>isStr e.1
noncomputable def BE{α:Type}(x:Nat):List (Nat×α)->Option α
 |[]=>none
 |(a,v)::r=>if a==x then some v else BE x r
noncomputable def BF{α:Type}(x:Nat)(v:α)(fs:List (Nat×α)):List (Nat×α):=
 if fs.any (λe=>e.1==x) then fs.map (λe=>if e.1==x then(e.1,v) else e) else fs++[(x,v)]
noncomputable def IQ(p:D):List D->Option (List D)
 |[]=>none
 |x::r=>if zD x p then some r else(IQ p r).map (x::·)
noncomputable def aaS:Slot->Option D
 |.ol l=>some (.list l)
 |.ro l=>some (.list l)
 |.od bT=>some (.dict bT)
 |_=>none
noncomputable def NS:bW->Option D
 |.list l=>some (.list l)
 |_=>none
def mm(e:Env)(g:G):AV->Option D
 |.d p=>some p
 |.w i=>e[i]?.bind aaS
 |.o n=>g[n]?.bind NS
noncomputable def dA:AV->Option D
 |.d p=>some p
 |_=>none
def one:List AV->Option D
 |[a]=>dA a
 |_=>none
theorem bL{a:AV}{p:D}(h:dA a=some p):a=.d p:=by
 cases a with
 |d q=>exact congrArg _ (zh h)
 |_=>exact ns h
noncomputable def bQ:D->Option (List D)
 |.list l |.tuple l=>some l
 |_=>none
noncomputable abbrev BG(i:Int)(n:Nat):Option Nat:=adV i n
noncomputable def cut(lo hi:Option Int)(l:List D):List D:=(l.drop (lo.elim 0 (clipAt l.length))).take (hi.elim l.length (clipAt l.length) - lo.elim 0 (clipAt l.length))
def qP(p q:D):Bool:=nodict p&&nodict q&&(decide (p.depth<=50)||decide (q.depth<=50))
def vw(xs:List D)(p:D):Bool:=bK xs&&nodict p&&(decide (adu xs<=50)||decide (p.depth<=50))
noncomputable def small(i:Int):Bool:=decide (i.natAbs<2 ^ 62)
noncomputable def fp(i:Int):Bool:=decide (i.natAbs<2 ^ 31)
noncomputable def Se:D->Int
 |.int i=>i
 |_=>0
def DM(p:D):O Int:=.c (isInt p) (.s (Se p))
theorem xx{p:D}{i:Int}(h:(DM p).is i):p=.int i:=by
 cases p with
 |int j=>exact congrArg _ h.2
 |_=>exact absurd h.1 zi
def Sf(a b:D):O D:=match a with
 |.int i=>(O.of (intD b)).bind λj=>.s (.int (i+j))
 |.str x=>(O.of (BA b)).bind λy=>.c (decide (x.length+y.length<=lim)) (.s (.str (x++y)))
 |.tuple x=>(O.of (BB b)).bind λy=>.c (decide (x.length+y.length<=lim)) (.s (.tuple (x++y)))
 |.list x=>(O.of (vq b)).bind λy=>.c (decide (x.length+y.length<=lim)) (.s (.list (x++y)))
 |_=>.n
def binI(op:adU)(i j:Int):O D:=match op with
 |.Sub=>.s (.int (i - j))
 |.Mult=>.c (fp i&&fp j) (.s (.int (i*j)))
 |.Mod=>.c (decide (0<j)) (.s (.int (i%j)))
 |_=>.n
def Sg(op:adU)(a b:D):O D:=match op with
 |.Add=>Sf a b
 |op=>(DM a).bind λi=>(DM b).bind λj=>binI op i j
noncomputable def ltI(op:ad4)(i j:Int):Option Bool:=match op with
 |.Lt=>some (decide (i<j)) |.LtE=>some (decide (i<=j)) |.Gt=>some (decide (j<i)) |.GtE=>some (decide (j<=i))
 |_=>none
def DN(p:D):D->O Bool
 |.list xs=>.c (vw xs p) (.s (xs.any λy=>zD y p))
 |.tuple xs=>.c (vw xs p) (.s (xs.any λy=>zD y p))
 |.dict es=>.c (NR p es) (.s (e6 p es).isSome)
 |_=>.n
def Sh(p:D):bW->O Bool
 |.dict es=>.c (d6 p es) (.s (e6 p es).isSome)
 |.list xs=>DN p (.list xs)
 |_=>.n
def DO(e:Env)(g:G)(a b:AV):O Bool:=(O.of (dA a)).bind λp=>match b with
 |.o n=>(O.of g[n]?).bind (Sh p)
 |b=>(O.of (mm e g b)).bind (DN p)
def NT(op:ad4):AV->AV->Option Bool
 |.d (.int i),.d (.int j)=>ltI op i j
 |_,_=>none
def isNone(a b:AV):Option Bool:=match a,b with
 |.d p,.d .none=>some (R8 p)
 |_,_=>none
def aaT(op:ad4)(p q:D):O Bool:=match op with
 |.Eq=>.c (qP p q) (.s (zD p q))
 |.NotEq=>.c (qP p q) (.s (!PyData.eqv p q))
 |_=>.n
def NU(e:Env)(g:G)(op:ad4)(a b:AV):O Bool:=match op with
 |.In=>DO e g a b
 |.NotIn=>(DO e g a b).bind λb=>.s !b
 |.Is=>.of (isNone a b)
 |.IsNot=>(O.of (isNone a b)).bind λb=>.s !b
 |.Lt |.LtE |.Gt |.GtE=>.of (NT op a b)
 |op=>(O.of (mm e g a)).bind λp=>(O.of (mm e g b)).bind λq=>aaT op p q
def NV(k:Int)(l:List D):O AV:=match k with
 |.ofNat j=>.c (small k&&decide (j<l.length)) (.s (.d (l.getD j .none)))
 |.negSucc _=>.c (small k) ((O.of (BG k l.length)).bind λj=>(O.of l[j]?).bind λx=>.s (.d x))
def Si(k:Int):D->O AV
 |.list l |.tuple l=>NV k l
 |.str x=>.c (small k) ((O.of (BG k x.cps.size)).bind λj=>(O.of x.cps[j]?).bind λc=>.s (.d (.str ⟨#[c]⟩)))
 |_=>.n
def Sj(p:D):bW->O AV
 |.dict es=>.c (d6 p es) (.of (e6 p es))
 |_=>.n
def Me(p:D):D->O AV
 |.dict bT=>.c (NR p bT) ((O.of (e6 p bT)).bind λx=>.s (.d x))
 |_=>.n
def Sk(e:Env)(g:G)(a:AV)(p:D):O AV:=match a with
 |.o n=>(O.of g[n]?).bind (Sj p)
 |a=>(O.of (mm e g a)).bind (Me p)
def aaU(e:Env)(g:G)(a:AV)(p:D):Option Int->O AV
 |some k=>(O.of (mm e g a)).bind (Si k)
 |none=>Sk e g a p
def Sl(e:Env)(g:G)(a i:AV):O AV:=(O.of (dA i)).bind λp=>aaU e g a p (intD p)
def Sm(lo hi:Option Int):D->O D
 |.list l=>.c (decide (l.length<=lim)) (.s (.list (cut lo hi l)))
 |.tuple l=>.c (decide (l.length<=lim)) (.s (.tuple (cut lo hi l)))
 |_=>.n
def aaV(e:Env)(g:G)(a:AV)(lo hi:Option Int):O D:=(O.of (mm e g a)).bind (Sm lo hi)
def asI(a:AV):O Int:=(O.of (dA a)).bind λp=>(O.of (intD p)).bind λi=>.c (small i) (.s i)
noncomputable def BH:List Int->Option Int
 |[]=>none
 |x::r=>some (r.foldl (λm y=>if y<m then y else m) x)
noncomputable def digits(n:Nat):Str:=Yd (toString (n:Int))
def Rx(b:BI)(p:D):O D:=match b with
 |.len=>(O.of (bQ p)).bind λl=>.c (decide (l.length<=lim)) (.s (.int l.length))
 |.tuple=>(O.of (bQ p)).bind λl=>.c (decide (l.length<=lim)) (.s (.tuple l))
 |.list=>(O.of (bQ p)).bind λl=>.c (decide (l.length<=lim)) (.s (.list l))
 |.dict=>(O.of (NQ p)).bind λbT=>.c (bT.all (λp=>isStr p.1)&&decide (bT.length<=lim)) (.s (.dict bT))
 |.int=>.n
 |.str=>(O.of (intD p)).bind λi=>.c (decide (0<=i)&&decide (i<10)) (.s (.str (digits i.toNat)))
 |.min=>(O.of (vq p)).bind λl=>(O.of (l.mapM intD)).bind λl=>(O.of (BH l)).bind λi=>.s (.int i)
 |.sorted=>(O.of (vq p)).bind λl=>.c (sortable l&&decide (l.length<64)) (.s (.list (aT l)))
def Mf:bW->O D
 |.dict es=>.c (sortable (es.map (·.1))&&decide (es.length<64)) (.s (.list (aT (es.map (·.1)))))
 |.list l=>Rx .sorted (.list l)
 |_=>.n
def cbA(e:Env)(g:G)(b:BI)(a:AV):O D:=match b,a with
 |.sorted,.o n=>(O.of g[n]?).bind Mf
 |b,a=>(O.of (mm e g a)).bind (Rx b)
def ssD(len:Bool)(p:D):O D:=(O.of (bQ p)).bind λl=>match len with
 |false=>.c (l.all j8&&(sortable (dedup l)&&decide ((dedup l).length<=2))) (.s (.list (aT (dedup l))))
 |true=>.c (l.all isStr&&decide (l.length<=1000)) (.s (.int (dedup l).length))
noncomputable def bh(e:Env)(i:Nat)(s:Slot):Env:=e.set i s
def bmW(m:BM)(vs:List AV)(l:List D):O (AV×List D):=match m with
 |.append=>(O.of (one vs)).bind λp=>.c (decide (l.length<lim)) (.s (.d .none,l++[p]))
 |.pop=>.c (decide (0<l.length)&&decide (l.length<=lim)) (.s (.d (l.getLast?.getD .none),l.dropLast))
 |.hK=>(O.of (one vs)).bind λp=>(O.of (bQ p)).bind λl'=>.c (decide (l.length+l'.length<=lim)) (.s (.d .none,l++l'))
 |.hM=>(O.of (one vs)).bind λp=>(O.of (BA p)).bind λx=>.c (decide (l.length<=lim)&&l.all isStr) ((O.of (IQ (.str x) l)).bind λl'=>.s (.d .none,l'))
noncomputable def Sn:bW->Option (List D)
 |.list l=>some l
 |_=>none
noncomputable def IS:bW->Option (List (D×AV))
 |.dict l=>some l
 |_=>none
def bmO(m:BM)(vs:List AV)(o:bW):O (AV×bW):=match m with
 |.append=>(O.of (Sn o)).bind λl=>(O.of (one vs)).bind λp=>.c (decide (l.length<lim)) (.s (.d .none,.list (l++[p])))
 |.pop=>(O.of (IS o)).bind λes=>(O.of (one vs)).bind λp=>(O.of (BA p)).bind λx=>.c ((es.all λe=>isStr e.1)&&decide (es.length<=lim)) ((O.of (e6 (.str x) es)).bind λv=>.s (v,.dict (tm (.str x) es)))
 |_=>.n
noncomputable def DP:Slot->Option (List D)
 |.ol l=>some l
 |_=>none
def So(e:Env)(g:G)(a:AV)(m:BM)(vs:List AV):O (AV×Env×G):=match a with
 |.w i=>(O.of (e[i]?.bind DP)).bind λl=>(bmW m vs l).bind λr=>.s (r.1,bh e i (.ol r.2),g)
 |.o n=>(O.of g[n]?).bind λo=>(bmO m vs o).bind λr=>.s (r.1,e,g.set n r.2)
 |.d _=>.n
noncomputable instance:BEq BM:=⟨λa b=>match a,b with
 |.append,.append |.pop,.pop |.hK,.hK |.hM,.hM=>true
 |_,_=>false⟩
def IT(m:BM)(z:Bool):bW->Bool
 |.list _=>m== .append
 |.dict es=>m== .pop&&(!z&&es.all λe=>isStr e.1)
 |_=>false
def Ss(e:Env)(g:G)(a:AV)(m:BM)(z:Bool):Bool:=match a with
 |.w i=>(e[i]?.bind DP).isSome&&(m== .pop)==z
 |.o n=>(g[n]?.map (IT m z)).getD false
 |.d _=>false
noncomputable def cz.Su:cz->Bool
 |.nil=>true
 |_=>false
noncomputable def fX:AV->Bool
 |.w _=>false
 |_=>true
noncomputable def odS:Slot->Option (List (D×D))
 |.od bT=>some bT
 |_=>none
noncomputable def lend(e:Env):List AV->Option (List AV)
 |[]=>some []
 |.w i::r=>e[i]?.bind λs=>(odS s).bind λbT=>(lend e r).map (.d (.dict bT)::·)
 |a::r=>(lend e r).map (a::·)
def qQ:AV->Bool
 |.d p=>nodict p
 |.o _=>true
 |.w _=>false
def gT:bW->Bool
 |.list l=>bK l
 |.dict es=>es.all λe=>nodict e.1&&qQ e.2
 |.inst _ fs=>fs.all λe=>qQ e.2
def IU(g:G):Bool:=g.all gT
noncomputable def qR:List AV->Option (List D)
 |[]=>some []
 |.d p::r=>(qR r).map (p::·)
 |_=>none
def Sv(g:G):AV->O Int
 |.o n=>(O.of (g[n]?.bind IS)).bind λes=>.c (es.all λe=>isStr e.1) (.of (((qR (es.map (·.2))).bind λl=>l.mapM intD).bind BH))
 |_=>.n
noncomputable def kD(nm:Nat->Str):KC->D
 |.none=>.none
 |.bool b=>.bool b
 |.int i=>.int i
 |.str k=>.str (nm k)
structure Fn where
 own:Option Nat
 np:Nat
 ns:Nat
 body:aK
 vs:List Nat
 sc:List (Nat×Zc)
structure Tb where
 nm:Nat->Str
 gk:Nat->Option D
 fn:Nat->Option Fn
 init:Nat->Option Nat
 eY:Nat->Nat->Bool
 jt:Nat->Nat->Bool
noncomputable def NW:Slot->Slot
 |.ol l=>.ro l
 |.od _=>.un
 |s=>s
noncomputable def BJ:fQ->Env->Env
 |.el _,e=>e
 |.cons ts _ _ _ r,e=>BJ r (ts.foldl (λe t=>bh e t.1 .un) e)
def gU(ts:List (Nat×Nat×Pos))(tp:Option Pos)(x:D)(e:Env):O Env:=match tp with
 |none=>match ts with
  |[(i,_,_)]=>.s (bh e i (.v (.d x)))
  |_=>.n
 |some _=>(O.of (BB x)).bind λl=>.c (Z2 l.length ts.length) (.s ((ts.zip l).foldl (λe p=>bh e p.1.1 (.v (.d p.2))) e))
def stays(e:Env)(g:G)(src:AV)(l:List D):Bool:=match src with
 |.d _=>true
 |src=>((mm e g src).bind vq).any λl'=>jq l' l
noncomputable def mr(fin:G->Bool)(f:D->List D->G->W (List D×G)):List D->List D->G->W (List D×G)
 |[],acc,g=>.bO (fin g) (.ok (acc,g))
 |x::r,acc,g=>.bO (fin g) ((f x acc g).bind λy=>mr fin f r y.1 y.2)
inductive Fl where
 |gV |brk
 |ret (v:AV)
noncomputable def ll(fin:Env->G->Bool)(f:D->Env->G->W (Fl×Env×G)):List D->Env->G->W (Fl×Env×G)
 |[],e,g=>.bO (fin e g) (.ok (.gV,e,g))
 |x::r,e,g=>.bO (fin e g) ((f x e g).bind λy=>match y.1 with
  |.gV=>ll fin f r y.2.1 y.2.2
  |.brk=>.ok (.gV,y.2)
  |fl=>.ok (fl,y.2))
noncomputable def pV(k:Nat)(t:Env->G->W (Bool×Env×G))(b:Env->G->W (Fl×Env×G)):Nat->Env->G->W (Fl×Env×G)
 |0,_,_=>.no
 |n+1,e,g=>(t e g).bind λy=>.br k y.1 ((b y.2.1 y.2.2).bind λz=>match z.1 with
   |.gV=>pV k t b n z.2.1 z.2.2
   |.brk=>.ok (.gV,z.2)
   |fl=>.ok (fl,z.2)) (.ok (.gV,y.2))
noncomputable def fuel:Nat:=3000
def fsD:D->O Str
 |.str s=>.s s
 |.int i=>.c (decide (0<=i)&&decide (i<100)) (.s (digits i.toNat))
 |_=>.n
def fsP(a:AV):O Str:=(O.of (dA a)).bind fsD
noncomputable def Sw(t:Bool):D->Bool
 |.tuple _=>t
 |.list _=>!t
 |_=>false
noncomputable def oA:AV->Option Nat
 |.o n=>some n
 |_=>none
noncomputable def Sx:bW->Option (Nat×List (Nat×AV))
 |.inst c fs=>some (c,fs)
 |_=>none
def pW(g:G)(a:AV):Option (Nat×Nat×List (Nat×AV)):=(oA a).bind λn=>(g[n]?.bind Sx).map λx=>(n,x.1,x.2)
theorem gj{g:G}{a:AV}{x:Nat×Nat×List (Nat×AV)}(h:pW g a=some x):a=.o x.1/\g[x.1]? =some (.inst x.2.1 x.2.2):=by
 refine ze (bind_some h) λn j9=>(ze (map_some j9.2) λy qT=>(zg (λh2 lL=>?_) qT));refine gL lL ?_;refine ze (bind_some h2) λo j4=>⟨?_,j4.1.trans ?_⟩
 ·cases a with
  |o k=>exact congrArg _ (zh j9.1)
  |_=>exact ns j9.1
 ·cases o with
  |inst c fs=>exact congrArg (λy:Nat×List (Nat×AV)=>some (bW.inst y.1 y.2)) (zh j4.2)
  |_=>exact ns j4.2
noncomputable def Mg:Slot->Option AV
 |.v a=>some a
 |_=>none
noncomputable def Sy:AV->Bool
 |.d .none=>true
 |_=>false
noncomputable def aaW:Slot->Option D
 |.ol l=>some (.list l)
 |.od bT=>some (.dict bT)
 |_=>none
noncomputable def DQ:AV->Option Bool
 |.d (.bool b)=>some b
 |_=>none
noncomputable def NX(ts:List (Nat×Nat×Pos)):cz->Nat
 |.nil=>0
 |_=>match ts with
  |t::_=>t.2.2.line
  |[]=>0
noncomputable def Mh(i:Nat):Slot->Option AV
 |.v a=>some a
 |.un=>none
 |_=>some (.w i)
noncomputable def okR{α β:Type}(f:α->W β):R α->W β
 |.ok y=>f y
 |_=>.no
section
variable(tb:Tb)
mutual
noncomputable def cC:CE->Env->G->W (AV×Env×G)
 |.k c _,e,g=>.ok (.d (kD tb.nm c),e,g)
 |.neg i _ _,e,g=>.ok (.d (.int (-i)),e,g)
 |.not a _,e,g=>(cC a e g).bind λy=>(opt (DQ y.1)).bind λb=>.ok (.d (.bool !b),y.2)
 |.v i _ _,e,g=>(opt (e[i]?.bind (Mh i))).bind λa=>.ok (a,e,g)
 |.gk x _,e,g=>(opt (tb.gk x)).bind λp=>.ok (.d p,e,g)
 |.j6 op a b _,e,g=>(cC a e g).bind λy=>(cC b y.2.1 y.2.2).bind λz=>
   (opt (mm z.2.1 z.2.2 y.1)).bind λp=>(opt (mm z.2.1 z.2.2 z.1)).bind λq=>(fH (Sg op p q)).bind λr=>.ok (.d r,z.2)
 |.Iu op a b _,e,g=>(cC a e g).bind λy=>(cC b y.2.1 y.2.2).bind λz=>(fH (NU z.2.1 z.2.2 op y.1 z.1)).bind λr=>.ok (.d (.bool r),z.2)
 |.NO op es p,e,g=>Sz p.line op es e g
 |.ite t a b p,e,g=>(cC t e g).bind λy=>(opt (DQ y.1)).bind λc=>.br p.line c (cC a y.2.1 y.2.2) (cC b y.2.1 y.2.2)
 |.Rr es _,e,g=>(ka es e g).bind λy=>(opt (qR y.1)).bind λps=>.ok (.d (.tuple ps),y.2)
 |.sZ es _,e,g=>(ka es e g).bind λy=>(opt (qR y.1)).bind λps=>.ok (.d (.list ps),y.2)
 |.vc .nil _,e,g=>.ok (.d (.dict []),e,g)
 |.vc (.cons _ _ _) _,_,_=>.no
 |.nl es _,e,g=>(ka es e g).bind λy=>(opt (qR y.1)).bind λps=>.ok (.o y.2.2.length,y.2.1,y.2.2++[.list ps])
 |.nd ps _,e,g=>(evP ps e g).bind λy=>.bO ((y.1.map (·.1)).all isStr&&decide (y.1.length<=15)&&y.1.all (λp=>fX p.2))
   (.ok (.o y.2.2.length,y.2.1,y.2.2++[.dict (y.1.foldl (λm kv=>dw kv.1 kv.2 m) [])]))
 |.sub a i _,e,g=>(cC a e g).bind λy=>(cC i y.2.1 y.2.2).bind λz=>(fH (Sl z.2.1 z.2.2 y.1 z.1)).bind λv=>.ok (v,z.2)
 |.Ma a lo hi .n _ _,e,g=>(cC a e g).bind λy=>(evO lo y.2.1 y.2.2).bind λl=>(evO hi l.2.1 l.2.2).bind λh=>
   (fH (aaV h.2.1 h.2.2 y.1 l.1 h.1)).bind λp=>.ok (.d p,h.2)
 |.Ma _ _ _ (.s _) _ _,_,_=>.no
 |.eY a x _,e,g=>(cC a e g).bind λy=>(opt (pW y.2.2 y.1)).bind λs=>.bO (tb.eY s.2.1 x) ((opt (BE x s.2.2)).bind λv=>.ok (v,y.2))
 |.cf f _ es _ _,e,g=>(ka es e g).bind λy=>.bO (y.1.all fX) ((IP f y.1 y.2.2).bind λz=>.ok (z.1,y.2.1,z.2))
 |.cb b a _ _,e,g=>(cC a e g).bind λy=>(fH (cbA y.2.1 y.2.2 b y.1)).bind λp=>.ok (.d p,y.2)
 |.bm a m es _ _,e,g=>(cC a e g).bind λy=>.bO (Ss y.2.1 y.2.2 y.1 m es.Su) ((ka es y.2.1 y.2.2).bind λz=>fH (So z.2.1 z.2.2 y.1 m z.1))
 |.cm a f m es _ _,e,g=>(cC a e g).bind λy=>(opt (pW y.2.2 y.1)).bind λs=>.bO ((BE m s.2.2).isNone&&decide ((tb.fn f).bind (·.own)=some s.2.1))
   ((ka es y.2.1 y.2.2).bind λz=>match z.1.all fX with
   |true=>(IP f (.o s.1::z.1) z.2.2).bind λr=>.ok (r.1,z.2.1,r.2)
   |false=>(opt (lend z.2.1 z.1)).bind λvs=>(IP f (.o s.1::vs) z.2.2).bind λr=>.bO (qQ r.1&&IU r.2) (.ok (r.1,z.2.1,r.2)))
 |.new c _ es _ _,e,g=>(ka es e g).bind λy=>.bO (y.1.all fX) ((opt (tb.init c)).bind λf=>(IP f (.o y.2.2.length::y.1) (y.2.2++[.inst c []])).bind λr=>
   .bO (Sy r.1) (.ok (.o y.2.2.length,y.2.1,r.2)))
 |.s9 f es _ _ _ _,e,g=>(opt (e[0]?.bind Mg)).bind λa=>(opt (pW g a)).bind λs=>.bO (tb.jt f s.2.1)
   ((ka es e g).bind λy=>.bO (y.1.all fX) ((IP f (.o s.1::y.1) y.2.2).bind λr=>.ok (r.1,y.2.1,r.2)))
 |.Ru a t _ _ _,e,g=>(cC a e g).bind λy=>(opt (dA y.1)).bind λp=>.ok (.d (.bool (Sw t p)),y.2)
 |.comp gs _ _,e,g=>(IV gs (BJ gs (e.map NW)) [] g).eY (okR λy=>.ok (.d (.list y.1),e,y.2))
 |.fs ps _,e,g=>(SA ps adW e g).bind λy=>.ok (.d (.str y.1),y.2)
 |.j7 i _ _,e,g=>(opt (e[i]?.bind aaW)).bind λp=>.ok (.d p,bh e i .un,g)
 |.Bv len a _ _ _ _,e,g=>(cC a e g).bind λy=>(fH ((O.of (mm y.2.1 y.2.2 y.1)).bind (ssD len))).bind λp=>.ok (.d p,y.2)
 |.Bw a _ _ _ _,e,g=>(cC a e g).bind λy=>(fH (Sv y.2.2 y.1)).bind λi=>.ok (.d (.int i),y.2)
 |.iK _,_,_=>.no
noncomputable def ka:cz->Env->G->W (List AV×Env×G)
 |.nil,e,g=>.ok ([],e,g)
 |.cons a r,e,g=>(cC a e g).bind λy=>(ka r y.2.1 y.2.2).bind λz=>.ok (y.1::z.1,z.2)
noncomputable def evP:pT->Env->G->W (List (D×AV)×Env×G)
 |.nil,e,g=>.ok ([],e,g)
 |.cons k v r,e,g=>(cC k e g).bind λy=>(cC v y.2.1 y.2.2).bind λz=>(evP r z.2.1 z.2.2).bind λu=>(opt (dA y.1)).bind λp=>.ok ((p,z.1)::u.1,u.2)
noncomputable def Sz(k:Nat):BoolOp->cz->Env->G->W (AV×Env×G)
 |op,.cons a .nil,e,g=>(cC a e g).bind λy=>(opt (DQ y.1)).bind λb=>.ok (.d (.bool b),y.2)
 |op,.cons a r,e,g=>(cC a e g).bind λy=>(opt (DQ y.1)).bind λb=>match op with
  |.And=>.br k b (Sz k op r y.2.1 y.2.2) (.ok (.d (.bool false),y.2))
  |.Or=>.br k b (.ok (.d (.bool true),y.2)) (Sz k op r y.2.1 y.2.2)
 |_,.nil,_,_=>.no
noncomputable def evO:CO->Env->G->W (Option Int×Env×G)
 |.n,e,g=>.ok (none,e,g)
 |.s a,e,g=>(cC a e g).bind λy=>(fH (asI y.1)).bind λi=>.ok (some i,y.2)
noncomputable def SA:qN->Str->Env->G->W (Str×Env×G)
 |.nil,acc,e,g=>.ok (acc,e,g)
 |.lit s _ r,acc,e,g=>.bO (decide (acc.length+(tb.nm s).length<=lim)) (SA r (acc++tb.nm s) e g)
 |.val a _ r,acc,e,g=>(cC a e g).bind λy=>(fH (fsP y.1)).bind λz=>.bO (decide (acc.length+z.length<=lim)) (SA r (acc++z) y.2.1 y.2.2)
noncomputable def evI:CI->Env->G->W ((AV×List D)×Env×G)
 |.e a,e,g=>(cC a e g).bind λy=>(opt ((mm y.2.1 y.2.2 y.1).bind bQ)).bind λl=>.ok ((y.1,l),y.2)
 |.zip a b _ _,e,g=>(cC a e g).bind λy=>(cC b y.2.1 y.2.2).bind λz=>(opt (dA y.1)).bind λp=>(opt (dA z.1)).bind λq=>
   (opt (bQ p)).bind λl=>(opt (bQ q)).bind λl'=>.ok ((.d .none,(l.zip l').map λx=>.tuple [x.1,x.2]),z.2)
 |.Bx a _ _,e,g=>(cC a e g).bind λy=>(opt ((dA y.1).bind vq)).bind λl=>.ok ((.d .none,(l.zipIdx).map λ(x:D×Nat)=>yq [.int (x.2:Int),x.1]),y.2)
 |.Rv a _ _,e,g=>(cC a e g).bind λy=>(opt ((dA y.1).bind intD)).bind λn=>.bO (decide (0<=n)&&decide (n<=lim))
   (.ok ((.d .none,(ZW n.toNat).map λ(i:Nat)=>Yn (i:Int)),y.2))
noncomputable def IV:fQ->Env->List D->G->W (List D×G)
 |.el a,e,acc,g=>(cC a e g).bind λz=>(opt (dA z.1)).bind λp=>.bO (decide (acc.length<lim)) (.ok (acc++[p],z.2.2))
 |.cons ts tp it ifs r,e,acc,g=>(evI it e g).bind λy=>mr (λg=>stays e g y.1.1 y.1.2) (λx acc g=>
   (fH (gU ts tp x e)).bind λe1=>(evT ifs e1 g).bind λc=>.br (NX ts ifs) c.1 (IV r c.2.1 acc c.2.2) (.ok (acc,c.2.2))) y.1.2 acc y.2.2
noncomputable def evT:cz->Env->G->W (Bool×Env×G)
 |.nil,e,g=>.ok (true,e,g)
 |.cons a .nil,e,g=>(cC a e g).bind λy=>(opt (DQ y.1)).bind λb=>.ok (b,y.2)
 |_,_,_=>.no
end
noncomputable def DS:AV->Option Slot
 |.d (.list l)=>some (.ol l)
 |.d (.dict bT)=>some (.od bT)
 |_=>none
def NY(e:Env)(g:G)(a:AV)(p:D)(v:AV):O (Env×G):=match a with
 |.o n=>(O.of (g[n]?.bind IS)).bind λes=>.c (d6 p es&&(decide (es.length<lim)&&fX v)) (.s (e,g.set n (.dict (dw p v es))))
 |.w i=>(O.of (e[i]?.bind odS)).bind λbT=>(O.of (dA v)).bind λq=>.c (isStr p&&decide (bT.length<lim)&&d6 p bT) (.s (bh e i (.od (dw p q bT)),g))
 |.d _=>.n
def aaX(a:AV):Option (List D):=(dA a).bind BB
def store(t:CT)(v:AV)(e:Env)(g:G):W (Env×G):=match t with
 |.n i _ _=>.bO (fX v) (.ok (bh e i (.v v),g))
 |.own i _ _=>(opt (DS v)).bind λs=>.ok (bh e i s,g)
 |.eY a x _=>(cC tb a e g).bind λy=>(opt (pW y.2.2 y.1)).bind λs=>.bO (tb.eY s.2.1 x&&(decide (s.2.2.length<lim)&&fX v))
   (.ok (y.2.1,y.2.2.set s.1 (.inst s.2.1 (BF x v s.2.2))))
 |.sub a k _=>(cC tb a e g).bind λy=>(cC tb k y.2.1 y.2.2).bind λz=>(opt (dA z.1)).bind λp=>fH (NY z.2.1 z.2.2 y.1 p v)
noncomputable def storeAll:List CT->List AV->Env->G->W (Env×G)
 |[],[],e,g=>.ok (e,g)
 |t::ts,v::vs,e,g=>(store tb t v e g).bind λy=>storeAll ts vs y.1 y.2
 |_,_,_,_=>.no
noncomputable def vy(e:Env):R (Fl×Env×G)->W (Fl×Env×G)
 |.ex p g'=>.ok (.ret (.d p),e,g')
 |.ok y=>.ok y
 |.no=>.no
mutual
noncomputable def SD:CS->Env->G->W (Fl×Env×G)
 |.expr a _,e,g=>(cC tb a e g).bind λy=>.ok (.gV,y.2)
 |.ret a _,e,g=>(cC tb a e g).bind λy=>.bO (fX y.1) (.ok (.ret y.1,y.2))
 |.Iv t a _,e,g=>(cC tb a e g).bind λy=>(store tb t y.1 y.2.1 y.2.2).bind λz=>.ok (.gV,z)
 |.Bz ts _ a _,e,g=>(cC tb a e g).bind λy=>(opt (aaX y.1)).bind λl=>.bO (Z2 l.length ts.length)
   ((storeAll tb ts (l.map .d) y.2.1 y.2.2).bind λz=>.ok (.gV,z))
 |.lK ts _ es _ _,e,g=>(ka tb es e g).bind λy=>.bO (y.1.all fX) ((storeAll tb ts y.1 y.2.1 y.2.2).bind λz=>.ok (.gV,z))
 |.ite t a b p,e,g=>(cC tb t e g).bind λy=>(opt (DQ y.1)).bind λc=>.br p.line c (aY a y.2.1 y.2.2) (aY b y.2.1 y.2.2)
 |.while t a p,e,g=>pV p.line (λe g=>(cC tb t e g).bind λy=>(opt (DQ y.1)).bind λc=>.ok (c,y.2)) (λe g=>aY a e g) fuel e g
 |.for ts tp it a _,e,g=>(evI tb it e g).bind λy=>.bO (fX y.1.1) (ll (λe g=>stays e g y.1.1 y.1.2) (λx e g=>(fH (gU ts tp x e)).bind λe1=>aY a e1 g) y.1.2 y.2.1 y.2.2)
 |.mj _ m s _ _ _,e,g=>(cC tb m e g).bind λy=>(cC tb s y.2.1 y.2.2).bind λz=>(opt ((dA y.1).bind BA)).bind λ_=>(opt (dA z.1)).bind λp=>.ex p z.2.2
 |.vp a _ _ _ _ _ _ _ _ _,e,g=>(aY a e g).eY (vy e)
 |.iK _,_,_=>.no
noncomputable def aY:aK->Env->G->W (Fl×Env×G)
 |.nil,e,g=>.ok (.gV,e,g)
 |.cons s r,e,g=>(SD s e g).bind λy=>match y.1 with
  |.gV=>aY r y.2.1 y.2.2
  |fl=>.ok (fl,y.2)
end
end
noncomputable def aR{α:Type}:R (Fl×α×G)->R (AV×G)
 |.ok (.ret v,_,g)=>.ok (v,g)
 |.ok (.gV,_,g)=>.ok (.d .none,g)
 |.ok (.brk,_,_)=>.no
 |.ex s g=>.ex s g
 |.no=>.no
noncomputable def aC(tb:Tb):Nat->Call
 |0,_,_,_=>.no
 |n+1,f,vs,g=>match tb.fn f with
  |none=>.no
  |some F=>match Z2 vs.length F.np with
   |true=>aR ((aY tb F.body (vs.map .v++yz (F.ns - F.np) .un) g).run (aC tb n))
   |false=>.no
variable{P:Prop}
noncomputable def mu:BI->Str
 |.len=>"len" |.sorted=>"sorted" |.tuple=>"tuple" |.list=>"list" |.dict=>"dict" |.int=>"int" |.str=>"str" |.min=>"min"
noncomputable def vz:BM->Str
 |.append=>"append" |.pop=>"pop" |.hK=>"extend" |.hM=>"remove"
section
variable(nm:Nat->Str)
noncomputable def j5(l:List (Nat×Zc)):Scope:={kind:=.function,names:=l.map λx=>(nm x.1,x.2),isGenerator:=false,isCoroutine:=false}
noncomputable def toK:KC->Const
 |.none=>.none
 |.bool b=>.bool b
 |.int i=>.int i
 |.str k=>.str (nm k)
noncomputable def oO(ts:List (Nat×Nat×Pos))(tp:Option Pos):Expr:=match tp with
 |none=>match ts with
  |[(_,x,p)]=>.Name (nm x) p
  |_=>.Tuple [] 0 default
 |some q=>.Tuple (ts.map λt=>.Name (nm t.2.1) t.2.2) 0 q
mutual
noncomputable def aH:CE->Ye
 |.k c p=>.Constant (toK nm c) 0 p
 |.neg i p' p=>.UnaryOp .USub (.Constant (.int i) 0 p') p
 |.not a p=>.UnaryOp .Not (aH a) p
 |.v _ x p=>.Name (nm x) p
 |.gk x p=>.Name (nm x) p
 |.j6 op a b p=>.BinOp (aH a) op (aH b) p
 |.Iu op a b p=>.Compare (aH a) [op] [aH b] p
 |.NO op es p=>.BoolOp op (cn es) p
 |.ite t a b p=>.IfExp (aH t) (aH a) (aH b) p
 |.Rr es p=>.Tuple (cn es) 0 p
 |.sZ es p=>.List (cn es) p
 |.vc ps p=>.Dict (DT ps) (DU ps) p
 |.nl es p=>.List (cn es) p
 |.nd ps p=>.Dict (DT ps) (DU ps) p
 |.sub a i p=>.Subscript (aH a) (aH i) p
 |.Ma a lo hi st p' p=>.Subscript (aH a) (.Slice (lT lo) (lT hi) (lT st) p') p
 |.eY a x p=>.Attribute (aH a) (nm x) p
 |.cf _ x es pf p=>.Call (.Name (nm x) pf) (cn es) [] p
 |.cb b e pf p=>.Call (.Name (mu b) pf) [aH e] [] p
 |.bm a m es pa p=>.Call (.Attribute (aH a) (vz m) pa) (cn es) [] p
 |.cm a _ m es pa p=>.Call (.Attribute (aH a) (nm m) pa) (cn es) [] p
 |.new _ x es pf p=>.Call (.Name (nm x) pf) (cn es) [] p
 |.s9 _ es p1 p2 p3 p4=>.Call (.Attribute (.Call (.Name "super" p1) [] [] p2) "__init__" p3) (cn es) [] p4
 |.Ru a t pt pf p=>.Call (.Name "isinstance" pf) [aH a,.Name (if t then "tuple" else "list") pt] [] p
 |.comp gs sc p=>.ListComp (tn gs) (toG gs) (j5 nm sc) p
 |.fs ps p=>.JoinedStr (toF ps) p
 |.j7 _ x p=>.Name (nm x) p
 |.Bv len e pf pg p' p=>.Call (.Name (if len then "len" else "sorted") pf) [.Call (.Name "set" pg) [aH e] [] p'] [] p
 |.Bw e pa p1 pf p=>.Call (.Name "min" pf) [.Call (.Attribute (aH e) "values" pa) [] [] p1] [] p
 |.iK e=>e
noncomputable def cn:cz->List Ye
 |.nil=>[]
 |.cons e r=>aH e::cn r
noncomputable def DT:pT->List (Option Ye)
 |.nil=>[]
 |.cons k _ r=>some (aH k)::DT r
noncomputable def DU:pT->List Ye
 |.nil=>[]
 |.cons _ v r=>aH v::DU r
noncomputable def lT:CO->Option Ye
 |.n=>none
 |.s e=>some (aH e)
noncomputable def toF:qN->List Ye
 |.nil=>[]
 |.lit s p r=>.Constant (.str (nm s)) 0 p::toF r
 |.val e p r=>.FormattedValue (aH e) (-1) none p::toF r
noncomputable def Dx:CI->Ye
 |.e a=>aH a
 |.zip a b pf p=>.Call (.Name "zip" pf) [aH a,aH b] [] p
 |.Bx a pf p=>.Call (.Name "enumerate" pf) [aH a] [] p
 |.Rv a pf p=>.Call (.Name "range" pf) [aH a] [] p
noncomputable def tn:fQ->Ye
 |.el a=>aH a
 |.cons _ _ _ _ r=>tn r
noncomputable def toG:fQ->List yr
 |.el _=>[]
 |.cons ts tp it ifs r=>⟨oO nm ts tp,Dx it,cn ifs,0⟩::toG r
end
def toT:CT->Ye
 |.n _ x p=>.Name (nm x) p
 |.own _ x p=>.Name (nm x) p
 |.eY a x p=>.Attribute (aH nm a) (nm x) p
 |.sub a k p=>.Subscript (aH nm a) (aH nm k) p
mutual
noncomputable def toS:CS->Stmt
 |.expr e p=>.Expr (aH nm e) p
 |.ret e p=>.Return (some (aH nm e)) p
 |.Iv t e p=>.Assign [toT nm t] (aH nm e) p
 |.Bz ts tp e p=>.Assign [.Tuple (ts.map (toT nm)) 0 tp] (aH nm e) p
 |.lK ts tp es ep p=>.Assign [.Tuple (ts.map (toT nm)) 0 tp] (.Tuple (cn nm es) 0 ep) p
 |.ite t a b p=>.If (aH nm t) (eC a) (eC b) p
 |.while t a p=>.While (aH nm t) (eC a) [] p
 |.for ts tp it a p=>.For (oO nm ts tp) (Dx nm it) (eC a) [] p
 |.mj x m s pf pc p=>.Raise (some (.Call (.Name (nm x) pf) [aH nm m,aH nm s] [] pc)) none p
 |.vp a x y s px py pa pr ph p=>.Try (eC a) [.ExceptHandler (some (.Name (nm x) px)) (some (nm y)) [.Return (some (.Attribute (.Name (nm y) py) (nm s) pa)) pr] ph] [] [] p
 |.iK s=>s
noncomputable def eC:aK->List Stmt
 |.nil=>[]
 |.cons s r=>toS s::eC r
end
end
structure Iw where
 names:List Str
 gk:List (Nat×D)
 Dy:List (Nat×Fn)
 sup:List (Nat×Nat)
 sx:List (Nat×Nat×zJ×zJ×zJ)
 s9:List (Nat×Nat)
 eY:List (Nat×Nat)
 jt:List (Nat×Nat)
 cls:List (Nat×zJ)
 fa:List zJ
 xA:List (Nat×Nat)
 BK:List (Nat×Nat)
 vA:List (Nat×Nat×Nat)
 Kl:List zJ
 xn:Nat
 sn:Nat
 C:zJ
 D1:zJ
 D2:zJ
 f1:zJ
 f2:zJ
 e7:Str
 bo:Str
namespace Iw
variable(L:Iw)
noncomputable def nm(k:Nat):Str:=match L.names[k]? with
 |some s=>s
 |none=>⟨#[1114112+k]⟩
def tb:Tb:=⟨L.nm,λx=>L.gk.lookup x,λf=>L.Dy.lookup f,λc=>L.s9.lookup c,λc x=>L.eY.contains (c,x),λf c=>L.jt.contains (f,c)⟩
end Iw
end Lw
namespace Lw
open PySem PySem.Calls PyProof.Rows PySem.W
structure Txt where
 top:yi
 os:yO
 tb:Tb
 cls:Nat->zJ
 fa:Nat->zJ
 xA:List (Nat×Nat)
 BK:List (Nat×Nat)
 vA:List (Nat×Nat×Nat)
 SE:(top.get? sysModules).isSome=true
 K:PySem.W.Frag
 Ry:∀a o,K.lookup a=some o->top.get? a=some o
noncomputable def xB(h:yi)(l:List zJ):Frag:=l.filterMap λa=>(h.get? a).map λo=>(a,o)
theorem pX(f:zJ->Option Obj)(a:zJ):∀l:List Nat,(l.filterMap λa=>(f a).map λo=>(a,o)).lookup a=if a∈l then f a else none
 |[]=>rfl
 |b::r=>by
  refine gR (YL ..) ?_;have ih:=pX f a r;cases hb:f b with
  |none=>
   simp only[Option.map_none];refine gR (ih ..) ?_;by_cases e:a=b
   ·refine gR e ?_;simp only[zK,true_or,if_true,hb];split <;> rfl
   ·simp[e]
  |some o=>
   refine gR (yQ ..) ?_;refine gR (adn ..) ?_;by_cases e:a=b
   ·subst e;simp[hb]
   ·have:(a==b)=false:=by simpa using e
    simp only[this,ih];simp[e]
theorem DV{h:yi}{l:List zJ}(a:zJ)(o:Obj)(e:(xB h l).lookup a=some o):h.get? a=some o:=by
 unfold xB at e;rw[pX h.get? a] at e
 split at e
 ·exact e
 ·exact nomatch e
noncomputable def dc:List (Str×zo):=[("len",.builtin "len"),("sorted",.builtin "sorted"),("tuple",.type "tuple"),("list",.type "list"),("dict",.type "dict"),("int",.type "int"),("str",.type "str"),("min",.builtin "min"),
 ("zip",.type "zip"),("enumerate",.type "enumerate"),("range",.type "range"),("set",.type "set"),("isinstance",.builtin "isinstance"),("super",.type "super")]
namespace Iw
variable(L:Iw)
noncomputable def gY(c:Nat):Addr:=(L.cls.lookup c).getD 0
noncomputable def i8(f:Nat):Addr:=(L.fa[f]?).getD 0
def txt(h:yi)(os:yO)(e:(h.get? sysModules).isSome=true):Txt:=⟨h,os,L.tb,L.gY,L.i8,L.xA,L.BK,L.vA,e,xB h L.Kl,DV⟩
end Iw
noncomputable def codeOf(l:List Nat):Nat:=l.foldr (λc n=>c+1+1114113*n) 0
noncomputable def lU:Nat->List Str->Bool
 |_,[]=>true
 |n,s::r=>s.cps.toList.all (λc=>Nat.blt c 1114112)&&Nat.blt n (codeOf s.cps.toList+1)&&lU (codeOf s.cps.toList+1) r
noncomputable def mw(e7 x1 atn y:Str)(p:Nat->Pos):List Stmt:=
 [.Expr (.Call (.Attribute (.Call (.Name "super" (p 0)) [] [] (p 1)) "__init__" (p 2)) [.Name x1 (p 3)] [] (p 4)) (p 5),.Assign [.Attribute (.Name e7 (p 6)) atn (p 7)] (.Name y (p 8)) (p 9)]
noncomputable def ju:List zo->Bool
 |.ref _::r=>ju r
 |l=>l==[.type "Exception",.type "BaseException",.type "object"]
def jv(K:Frag)(C:zJ):Bool:=(clsIn K C).any λcd=>ju cd.mro&&cd.hasDict
section
variable(L:Iw)(h:yi)
def K:Frag:=xB h L.Kl
noncomputable def DW:zo->Option Str
 |.str x _=>if Zh x=true then some x else none
 |_=>none
noncomputable def vB:List zo->Option (List Str)
 |[]=>some []
 |v::r=>(DW v).bind λx=>(vB r).map (x::·)
noncomputable def SG:Obj->Option (List zo)
 |⟨.type c,none,.seq vs 0,⟨[]⟩⟩=>if c="tuple" then some vs.toList else none
 |_=>none
def xD(v:zo):Option D:=match v with
 |.ref a=>((h.get? a).bind SG).bind λvs=>(vB vs).map λ(l:List Str)=>yq (l.map Yo)
 |v=>(DW v).map Yo
noncomputable def BL(a:zJ):Option (Obj×YW):=(h.get? a).bind λo=>(match o.data with
 |.func fd=>some fd
 |_=>none).map λfd=>(o,fd)
noncomputable def DX(a:zJ)(i:Nat):Option Value:=(h.get? a).bind λo=>match o.data with
 |.fields vs=>vs[i]?
 |_=>none
noncomputable def SH:zo->zJ
 |.ref a=>a
 |_=>0
noncomputable def NZ:zo->Option Str
 |.str x _=>some x
 |_=>none
noncomputable def Mi:Data->Option (Option zo)
 |.cell v=>some v
 |_=>none
noncomputable def SI(a:zJ):Bool:=(h.get? a).any λo=>match o.data with
 |.cls _=>true
 |_=>false
def Mj(x:YW):Bool:=decide (x.code=.ref (SH x.code))&&decide ((DX h (SH x.code) 1).bind NZ=some x.qualname)
def N0(a:zJ)(ns:List Str)(sc:List (Str×Zc)):=(BL h a).map λx=>((x.2.body,x.2.scope.isCoroutine,x.2.scope.isGenerator,x.2.scope.kind,x.2.globals,x.2.builtins),Mj h x.2,sc.map (λy=>x.2.scope.names.lookup y.1),(λv:Nat->zo=>bindArgs x.2 ⟨(ZW ns.length).map v,[]⟩),x.2.closure)
noncomputable def N1(b:List Stmt)(ns:List Str)(sc:List (Str×Zc))(cl:List (Str×zJ)):=some ((FuncBody.stmts b,false,false,adX,mainGlobals,builtinsNs),true,sc.map (λy=>some y.2),(λv:Nat->zo=>(pure (ns.zip ((ZW ns.length).map v)):Sem (List (Str×zo)))),cl)
def N2(a:zJ)(x:zJ×zJ×zJ)(f2:zJ):=((BL h a).map λy=>(y.2.scope.names.all (λp=>decide (p.2≠zL)),(y.2.params.posonlyargs++y.2.params.args).head?.map (·.arg),y.2.code,y.2.scope.names.lookup ("super":Str),y.2.scope.names.lookup ("__class__":Str)),
 (DX h x.2.1 2).bind NZ,(h.get? x.2.2).map (λo=>Mi o.data),SI h x.1,(h.get? f2).map (·.cls),fnIn (K L h) f2)
noncomputable def N3(s0:Str)(file:Str)(x:zJ×zJ×zJ)(c2:Option zo)(b:Bool):=(some (true,some s0,Zm x.2.1,some adi,some ZE),some file,some (some (some (Zm x.1))),true,c2,b)
def Mk(C D:zJ):=(mroIn (K L h) C (.ref D),(clsIn (K L h) C).map λcd=>alongIn (K L h) "__init__" ((cd.mro.dropWhile (· != .ref D)).drop 1))
noncomputable def Ml(v:zo):=(some true,some (some (some v)))
def SJ(p:Nat×Nat):=((clsIn (K L h) (L.gY p.1)).map (·.hasDict),Z7 (K L h) (.ref (L.gY p.1)) (L.nm p.2),Z7 (K L h) (.ref (L.gY p.1)) "__getattribute__",Z7 (K L h) (.ref (L.gY p.1)) "__setattr__",plainOver (K L h) (L.gY p.1))
noncomputable def N4:=(some true,some (none:Option zo),some (some (Z3 "object.__getattribute__")),some (some (Z3 "object.__setattr__")),true)
def nwO(p:Nat×Nat):=(h.nsMap mainGlobals (L.nm p.2),keepIn (K L h) (.ref (L.gY p.1)),makesIn (K L h) (L.gY p.1),(L.s9.lookup p.1).map λf=>(Z7 (K L h) (.ref (L.gY p.1)) "__init__",typeIn (K L h) (.ref (L.i8 f))))
def nwG(p:Nat×Nat):=(some (Zm (L.gY p.1)),true,true,(L.s9.lookup p.1).map λf=>(some (some (Zm (L.i8 f))),some (ZF "function")))
def mtO(p:Nat×Nat×Nat):=(Z7 (K L h) (.ref (L.gY p.1)) (L.nm p.2.1),typeIn (K L h) (.ref (L.i8 p.2.2)),Z7 (K L h) (.ref (L.gY p.1)) "__getattribute__",Z7 (K L h) (.ref (L.gY p.1)) "__getattr__",keepIn (K L h) (.ref (L.i8 p.2.2)))
def mtG(p:Nat×Nat×Nat):=(some (some (Zm (L.i8 p.2.2))),some (ZF "function"),some (some (Z3 "object.__getattribute__")),some (none:Option zo),true)
def tq(F:Fn):List Str:=(F.vs.take F.np).map L.nm
def vC(F:Fn):List (Str×Zc):=F.sc.map λq=>(L.nm q.1,q.2)
def spS:Str:=L.nm L.sn
noncomputable def SM(f:Nat):List (Str×zJ):=match L.sx.lookup f with
 |some x=>[("__class__",x.2.2.2)]
 |none=>[]
noncomputable def kfO:Obj:=excClassObj "KindFault" "KindFault" 88 87 [.ref 76] [.ref 76,.ref 47,.type "Exception",.type "BaseException",.type "object"] true [] [] false none none (some (.ref 79)) none (some (.str "KindFault" 269)) (some (.str "KindFault" 277)) (some (.bool true)) "Exception.__new__"
noncomputable def x1:zJ×zJ×Addr:=(47,36,25)
noncomputable def x2:zJ×zJ×Addr:=(76,65,54)
end
variable{h h':yi}
noncomputable def btL:List Obj->Nat->BT->BT
 |[],_,t=>t
 |o::r,i,t=>btL r (i+1) (t.ins i o)
noncomputable def DY:List Obj->Nat->BT->Bool
 |[],_,_=>true
 |o::r,i,t=>((t.ins i o).get i).isSome&&DY r (i+1) (t.ins i o)
theorem DZ:∀l n t pre life,DY l n t=true->absHeap t n life=⟨pre.toArray,life⟩->absHeap (btL l n t) (n+l.length) life=⟨(pre++l).toArray,life⟩
 |[],n,t,pre,life,_,e=>gR (YM ..) e
 |o::r,n,t,pre,life,h,e=>by
  refine zg (λh1 h2=>?_) (aa h);have:=DZ r (n+1) (t.ins n o) (pre++[o]) life h2 (by
   refine gR (absHeap_ins h1 ..) (gR e ?_);refine(?_:Heap.mk _ _=_)
   congr 1
   simp)
  rw[List.append_assoc] at this;rw[show n+(o::r).length=n+1+r.length from(yt n 1 r.length).symm];exact this
def St(s:zt):SharedT:=⟨btL s.heap.objs.toList 0 .nil,s.heap.objs.toList.length,s.heap.life,s.gens,s.drawn,s.toks,s.os⟩
theorem N5{s:zt}(h:DY s.heap.objs.toList 0 .nil=true):(St s).abs=s:=by obtain⟨⟨objs,life⟩,g,d,t,os⟩:=s;have:=DZ objs.toList 0 .nil [] life h rfl;rw[yu] at this;refine(?_:Shared.mk (absHeap (btL objs.toList 0 .nil) objs.toList.length life) g d t os=_);refine gR this ?_;simp
section
variable{p q:Program}{loose:List Str}{Xt:zt->Bool}{α:Type}{Yf:zt->α}{Ya:Y3->α}
theorem IW{env:Zj}{c:Code}{p0 pos:Pos}{a k m n₀:Nat}{ann:Option zo}{Sa Sb:Y3->yO->zt}(hN:Nat.ble 600 (a+(k+(m+2)))=true)
  (SN:opening p=plainProg p.main.scope.names) (fence:∀s,fenceModules? p s=some s)
  (size:∀w:Y3,((boot_heap w.params).isNs mainGlobals,(boot_heap w.params).objs.size,(boot_heap w.params).nsMap mainGlobals "__annotations__")=(true,n₀,ann))
  (hc:c=.body (behindTheImports p) env)
  (pre:∀w os,topGo treeTable p w n₀ ann a ⟨boot_heap w.params,aem [],boot_drawn,boot_toks,os⟩ (topStub p)=some (Sa w os,⟨denote treeTable c,c,p0,[y8 p0]⟩))
  (block:∀w os,segRun treeTable p w n₀ ann 1 k (Sa w os) (blockOf (behindTheImports p) env c p0 [y8 p0])=some (.next,Sb w os,c,p0))
  (tree:∀w os,DY (Sb w os).heap.objs.toList 0 .nil=true)
  (fin:∀w s,topRun treeTable p w n₀ ann 2 s ⟨doneF .next,c,pos,[y8 p0]⟩=some s)
  (run:∀w os,(segRunT treeTable p w n₀ ann 1 m (St (Sb w os)) (piecesOf (behindTheImports p) env c p0 [y8 p0])).map (λr=>(r.1,r.2.2,((staticsOk (importedModules p.main.body) (boot_heap w.params) r.2.1.abs.heap&&ad5 p r.2.1.abs.heap&&gensDone r.2.1.abs&&laidKept (boot_heap w.params) r.2.1.abs.heap),
    openSeen q loose (importedModules p.main.body) Xt true r.2.1.abs,Yf r.2.1.abs)))=some (.next,(c,pos),(true,openGood q loose,Ya w))):LeftO p q loose Xt Yf Ya (a+(k+(m+2))):=λw=>by
 refine ze (Zk.mp (boot_open SN hN fence w)) λN6 tu=>?_;obtain⟨h,gs,d,t,os⟩:=N6;obtain⟨rfl,rfl,rfl,rfl⟩:h=boot_heap w.params/\gs=aem []/\d=boot_drawn/\t=boot_toks:=by simpa using tu.2
 obtain⟨z1,z2,z3⟩:_/\_/\_:=by simpa only[Prod.mk.injEq] using size w
 refine ze (Zk.mp (run w os)) λjw tv=>?_;obtain⟨f,s',c',SO⟩:=jw;obtain⟨e1,e2⟩:=tv;simp only[Prod.mk.injEq] at e2;obtain⟨rfl,⟨rfl,rfl⟩,l1,l2,l3⟩:=e2;have r:=segRun_of e1;replace r:=(N5 (tree w os))▸r;have k1:=piece_app r (piece_nil (fin w s'.abs));rw[YM] at k1;subst hc;have tt:topFrom treeTable p w (a+(k+(m+2))) ⟨boot_heap w.params,aem [],boot_drawn,boot_toks,os⟩=some s'.abs:=by unfold topFrom;dsimp only;refine gR z1 (gR z2 ?_);refine gR z3 (gR ((go_top (pre w os) (piece_block (block w os) k1)) ..) ?_);refine(?_:(match staticsOk (importedModules p.main.body) (boot_heap w.params) s'.abs.heap&&ad5 p s'.abs.heap&&gensDone s'.abs&&laidKept (boot_heap w.params) s'.abs.heap with |true=>_ |false=>_)=_);exact gR l1 rfl
 unfold openEnds;refine gR tu.1 (?_:(topFrom treeTable p w _ _).map _=_);exact gR tt (gR (yQ ..) (gR l2 (gR l3 rfl)))
end
end Lw
namespace Lq
open PySem Lw
def Q(α:Type):=Nat->α×Nat
noncomputable def qr{α:Type}(a:α):Q α:=λs=>(a,s)
noncomputable def qb{α β:Type}(m:Q α)(f:α->Q β):Q β:=λs=>f (m s).1 (m s).2
noncomputable def rd(k:Nat):Q Nat:=λs=>(s%k,s/k)
noncomputable def px:Ye->List Ye×Pos
 |.BoolOp _ l p=>(l,p)
 |.JoinedStr l p=>(l,p)
 |.List l p=>(l,p)
 |.Tuple l _ p=>(l,p)
 |.BinOp a _ b p=>([a,b],p)
 |.Subscript a b p=>([a,b],p)
 |.UnaryOp _ a p=>([a],p)
 |.Attribute a _ p=>([a],p)
 |.FormattedValue a _ _ p=>([a],p)
 |.IfExp a b c p=>([a,b,c],p)
 |.Dict k v p=>(k.filterMap id++v,p)
 |.ListComp e g _ p=>(e::g.map λg=>.Tuple (g.target::g.iter::g.ifs) 0 p,p)
 |.Compare a _ l p=>(a::l,p)
 |.Call a l _ p=>(a::l,p)
 |.Slice a b c p=>([a,b,c].filterMap id,p)
 |.Name _ p=>([],p)
 |.Constant _ _ p=>([],p)
 |_=>([],default)
def kx(e:Ye)(i:Nat):Expr:=(px e).1.getD i e
def pp(e:Ye):Pos:=(px e).2
def rx:Q Nat:=rd 512
def ri:Q Nat:=rd 32
section
variable(f:Ye->Q CE)
def D0(l:List Ye):Q cz:=l.foldr (λa q=>qb (f a) λx=>qb q λy=>qr (.cons x y)) (qr .nil)
def dO(b:Nat)(e:Ye):Q CO:=bif b==0 then qr .n else qb (f e) λx=>qr (.s x)
def dT(t:Ye):Q (List (Nat×Nat×Pos)×Option Pos):=bif (px t).1.isEmpty then qb ri λi=>qb rx λx=>qr ([(i,x,pp t)],none)
 else qb ((px t).1.foldr (λa q=>qb ri λi=>qb rx λx=>qb q λr=>qr ((i,x,pp a)::r)) (qr [])) λr=>qr (r,some (pp t))
def dI(e:Ye):Q CI:=qb (rd 4) λo=>([qb (f e) λa=>qr (.e a),qb (f (kx e 1)) λa=>qb (f (kx e 2)) λb=>qr (.zip a b (pp (kx e 0)) (pp e)),
 qb (f (kx e 1)) λa=>qr (.Bx a (pp (kx e 0)) (pp e)),qb (f (kx e 1)) λa=>qr (.Rv a (pp (kx e 0)) (pp e))]:List (Q CI)).getD o (qr (.e (.iK e)))
def dG(e:Ye):Q fQ:=(px e).1.tail.foldr (λg q=>qb (dT (kx g 0)) λt=>qb (dI f (kx g 1)) λi=>qb (D0 f ((px g).1.drop 2)) λu=>qb q λr=>qr (.cons t.1 t.2 i u r)) (qb (f (kx e 0)) λa=>qr (.el a))
def dF(e:Ye):Q qN:=(px e).1.foldr (λa q=>qb (rd 2) λo=>bif o==0 then qb rx λx=>qb q λr=>qr (.lit x (pp a) r) else qb (f (kx a 0)) λx=>qb q λr=>qr (.val x (pp a) r)) (qr .nil)
def dP(l:List Ye):Q pT:=(l.zip (l.drop (l.length/2))).foldr (λa q=>qb (f a.1) λx=>qb (f a.2) λy=>qb q λr=>qr (.cons x y r)) (qr .nil)
def dN(b:Nat):Q (List (Nat×Zc)):=qb (rd b) λn=>(ZW n).foldr (λ_ q=>qb rx λx=>qb (rd 8) λk=>qb q λr=>qr ((x,[.local,.cell,.free,.globalImplicit].getD k .globalExplicit)::r)) (qr [])
def sE(e:Ye):Q CE:=qb ri λo=>([
 qr (.iK e),
 qb (rd 3) λc=>qr (.k ([.none,.bool true].getD c (.bool false)) (pp e)),
 qb (rd 1024) λi=>qr (.k (.int (.ofNat i)) (pp e)),
 qb rx λx=>qr (.k (.str x) (pp e)),
 qb (rd 1024) λi=>qr (.neg (.ofNat i) (pp (kx e 0)) (pp e)),
 qb (f (kx e 0)) λa=>qr (.not a (pp e)),
 qb ri λi=>qb rx λx=>qr (.v i x (pp e)),
 qb rx λx=>qr (.gk x (pp e)),
 qb (rd 4) λo=>qb (f (kx e 0)) λa=>qb (f (kx e 1)) λb=>qr (.j6 ([.Add,.Sub,.Mult].getD o .Mod) a b (pp e)),
 qb ri λo=>qb (f (kx e 0)) λa=>qb (f (kx e 1)) λb=>qr (.Iu ([.Eq,.NotEq,.Lt,.LtE,.Gt,.GtE,.Is,.IsNot,.In].getD o .NotIn) a b (pp e)),
 qb (rd 2) λo=>qb (D0 f (px e).1) λl=>qr (.NO (bif o==0 then .And else .Or) l (pp e)),
 qb (f (kx e 0)) λt=>qb (f (kx e 1)) λa=>qb (f (kx e 2)) λb=>qr (.ite t a b (pp e)),
 qb (D0 f (px e).1) λl=>qr (.Rr l (pp e)),
 qb (D0 f (px e).1) λl=>qr (.sZ l (pp e)),
 qr (.vc .nil (pp e)),
 qb (D0 f (px e).1) λl=>qr (.nl l (pp e)),
 qb (dP f (px e).1) λl=>qr (.nd l (pp e)),
 qb (f (kx e 0)) λa=>qb (f (kx e 1)) λb=>qr (.sub a b (pp e)),
 qb (rd 2) λi=>qb (rd 2) λj=>qb (rd 2) λk=>qb (f (kx e 0)) λa=>qb (dO f i (kx (kx e 1) 0)) λx=>qb (dO f j (kx (kx e 1) i)) λy=>qb (dO f k (kx (kx e 1) (i+j))) λz=>qr (.Ma a x y z (pp (kx e 1)) (pp e)),
 qb rx λx=>qb (f (kx e 0)) λa=>qr (.eY a x (pp e)),
 qb rx λh=>qb rx λx=>qb (D0 f (px e).1.tail) λl=>qr (.cf h x l (pp (kx e 0)) (pp e)),
 qb (rd 8) λo=>qb (f (kx e 1)) λa=>qr (.cb ([.len,.sorted,.tuple,.list,.dict,.int,.str].getD o .min) a (pp (kx e 0)) (pp e)),
 qb (rd 4) λo=>qb (f (kx (kx e 0) 0)) λa=>qb (D0 f (px e).1.tail) λl=>qr (.bm a ([.append,.pop,.hK].getD o .hM) l (pp (kx e 0)) (pp e)),
 qb rx λh=>qb rx λx=>qb (f (kx (kx e 0) 0)) λa=>qb (D0 f (px e).1.tail) λl=>qr (.cm a h x l (pp (kx e 0)) (pp e)),
 qb rx λh=>qb rx λx=>qb (D0 f (px e).1.tail) λl=>qr (.new h x l (pp (kx e 0)) (pp e)),
 qb rx λh=>qb (D0 f (px e).1.tail) λl=>qr (.s9 h l (pp (kx (kx (kx e 0) 0) 0)) (pp (kx (kx e 0) 0)) (pp (kx e 0)) (pp e)),
 qb (rd 2) λo=>qb (f (kx e 1)) λa=>qr (.Ru a (o==1) (pp (kx e 2)) (pp (kx e 0)) (pp e)),
 qb (dG f e) λg=>qb (dN 16) λs=>qr (.comp g s (pp e)),
 qb (dF f e) λl=>qr (.fs l (pp e)),
 qb ri λi=>qb rx λx=>qr (.j7 i x (pp e)),
 qb (rd 2) λo=>qb (f (kx (kx e 1) 1)) λa=>qr (.Bv (o==1) a (pp (kx e 0)) (pp (kx (kx e 1) 0)) (pp (kx e 1)) (pp e)),
 qb (f (kx (kx (kx e 1) 0) 0)) λa=>qr (.Bw a (pp (kx (kx e 1) 0)) (pp (kx e 1)) (pp (kx e 0)) (pp e))]:List (Q CE)).getD o (qr (.iK e))
def dC(t:Ye):Q CT:=qb (rd 4) λo=>([
 qb ri λi=>qb rx λx=>qr (.n i x (pp t)),
 qb ri λi=>qb rx λx=>qr (.own i x (pp t)),
 qb rx λx=>qb (f (kx t 0)) λa=>qr (.eY a x (pp t))]:List (Q CT)).getD o (qb (f (kx t 0)) λa=>qb (f (kx t 1)) λb=>qr (.sub a b (pp t)))
def dCs(l:List Ye):Q (List CT):=l.foldr (λa q=>qb (dC f a) λx=>qb q λr=>qr (x::r)) (qr [])
end
def dE(n:Nat):Ye->Q CE:=Nat.rec (λe=>qr (.iK e)) (λ_ f=>sE f) n
noncomputable def hx:ExceptHandler->List Ye
 |.ExceptHandler (some t) _ [.Return (some e) r] q=>[t,e,.Name "" r,.Name "" q]
 |_=>[]
def ps:Stmt->List Ye×List Stmt×List Stmt×Pos
 |.Expr e p=>([e],[],[],p)
 |.Return e p=>(e.toList,[],[],p)
 |.Assign t e p=>(e::t,[],[],p)
 |.If e a b p=>([e],a,b,p)
 |.While e a _ p=>([e],a,[],p)
 |.For t e a _ p=>([t,e],a,[],p)
 |.Raise e _ p=>(e.toList,[],[],p)
 |.Try a h _ _ p=>(h.flatMap hx,a,[],p)
 |_=>([],[],[],default)
def kS(s:Stmt)(i:Nat):Expr:=(ps s).1.getD i (.Name "" default)
def sS(f:List Stmt->Q aK)(s:Stmt):Q CS:=qb ri λo=>([
 qr (.iK s),
 qb (dE 30 (kS s 0)) λa=>qr (.expr a (ps s).2.2.2),
 qb (dE 30 (kS s 0)) λa=>qr (.ret a (ps s).2.2.2),
 qb (dC (dE 30) (kS s 1)) λt=>qb (dE 30 (kS s 0)) λa=>qr (.Iv t a (ps s).2.2.2),
 qb (dCs (dE 30) (px (kS s 1)).1) λt=>qb (dE 30 (kS s 0)) λa=>qr (.Bz t (pp (kS s 1)) a (ps s).2.2.2),
 qb (dCs (dE 30) (px (kS s 1)).1) λt=>qb (D0 (dE 30) (px (kS s 0)).1) λa=>qr (.lK t (pp (kS s 1)) a (pp (kS s 0)) (ps s).2.2.2),
 qb (dE 30 (kS s 0)) λt=>qb (f (ps s).2.1) λa=>qb (f (ps s).2.2.1) λb=>qr (.ite t a b (ps s).2.2.2),
 qb (dE 30 (kS s 0)) λt=>qb (f (ps s).2.1) λa=>qr (.while t a (ps s).2.2.2),
 qb (dT (kS s 0)) λt=>qb (dI (dE 30) (kS s 1)) λi=>qb (f (ps s).2.1) λa=>qr (.for t.1 t.2 i a (ps s).2.2.2),
 qb rx λx=>qb (dE 30 (kx (kS s 0) 1)) λa=>qb (dE 30 (kx (kS s 0) 2)) λb=>qr (.mj x a b (pp (kx (kS s 0) 0)) (pp (kS s 0)) (ps s).2.2.2),
 qb rx λx=>qb rx λy=>qb rx λz=>qb (f (ps s).2.1) λa=>qr (.vp a x y z (pp (kS s 0)) (pp (kx (kS s 1) 0)) (pp (kS s 1)) (pp (kS s 2)) (pp (kS s 3)) (ps s).2.2.2)]:List (Q CS)).getD o (qr (.iK s))
def dS(n:Nat):List Stmt->Q aK:=Nat.rec (λ_=>qr .nil) (λ_ f l=>l.foldr (λs q=>qb (sS f s) λx=>qb q λr=>qr (.cons x r)) (qr .nil)) n
noncomputable def fb(l:List Stmt)(i:Nat):List Stmt:=match(l[i]?) with
 |some (.FunctionDef _ _ b _ _ _ _ _ _ _)=>b
 |some (.ClassDef _ _ _ b _ _ _ _ _ _ _)=>b
 |_=>[]
def dB(l:List Stmt)(i n:Nat):aK:=(dS 12 (fb l i) n).1
def bY(o:Option Nat)(a b:Nat)(t:aK)(n:Nat):Fn:=⟨o,a,b,t,(dN 32 n).1.filterMap λx=>match x.2 with |.local |.cell=>some x.1 |_=>none,(dN 32 n).1⟩
end Lq
namespace aZ
open PySem Lw
noncomputable def D4:List Str:=(["","!","#","&","*","+","-",".","<","=",">","A","B","^","a","b","e","f","k","p","q","~",": ","a ","&&","++",".0","<:","!=","<=",">=",":>","=>","AB","if","in","un","no","op","pq","at","||","<=>","OWN","bad","one","sig","mul","num","sum","len","!in","bin","min","fun","run","own","lap","zip","top","str","has","let","set","law","box","way","key","pred","told","kind","wide","node","able","name","some","line","lone","none","here","base","case","else","self","decl","call","item","iden","seen","open","sign","join","warn","deep","ends","sigs","args","this","asks","tops","dots","plus","fact","dict","meet","left","mult","spot","kept","part","last","rest","list","next","text","prev","univ","body","many"," and "," has ","TRUTH","ahead","field","bound","found","place","range","alike","tuple","state","above","truth","check","block","usual","plain","begun","known","group","order","other","inner","super","compr","Kinds","kinds","nodes","names","boxes","decls","calls","cells","items","pairs","facts","wants","parts","nexts","minus","prevs","right","split","fault","quant","first","arrow","entry","arity","NUMBER","called","opened","joined","turned","shared","wanted","sorted","behind"," twice","before","common","either","fields","stands","places","params","begins","orders","others","supers","direct","result","parent","script","assert","narrow","surely","ordered","limited","closure","kind_of","waiting","is_disj","entries","columns","asserts","product",": arity ","__init__","declared","compared","sig_kind","bin_kind","box_kind","is_bound","_law_due","order_of","take_sig","want_all","is_plain","is_under","narrower","own_sigs","warnings","note_new","__class__","_law_told","name_kind","call_kind","_law_kind","enumerate","all_above","_law_leaf","_law_expr","own_names","is_subset","KindFault","_law_spot","kind_text","_law_draw","_law_body","the field ",": arities ","field_kind","bound_kind","order_kind","arrow_kind","isinstance","_law_state","look_above","want_truth","check_item","_law_drawn","take_order","all_fields","own_fields","Signatures","signatures","wanted_set","_law_right","the fields ","_law_called","_law_joined","fields_kind"," is unknown","want_number","look_fields","begun_calls","_law_params","sig_columns","of_two_sets","the type of ","binding_kind","reached_from","_law_written","begun_fields","known_fields","check_command"," needs itself"," calls itself","order_columns","parents_first","the signature "," has the field ","a set of arity "," is wanted, not "," arguments, not "," is surely empty"," is no expression"," is declared twice","a name comes twice","nothing is taken off"," have unlike arities","this is surely empty","a set is wanted, not ","no expression is known","a truth is wanted, not ",": a set is wanted, not "," wants a set of arity 1"," of what is surely empty",": numbers are wanted, not ",": one side is surely empty"," is called like a signature","a join: a set is wanted, not ","a join of two sets of arity 1"," stands in declarations alone",": this is none of what is wanted",": a set of arity 2 is wanted, not ",": the sides have nothing in common","++: a set of arity 2 or more is wanted",": a set of arity 1 and a set are wanted"," stands above itself, or below such ones"," is a part of others, so nothing extends it","higher order: a variable stands for one atom","a signature that is a part of others is not abstract","a multiplicity stands in declarations and behind in alone"]:List String).map Yd
def N7(k:Nat):Str:=match D4[k]? with
 |some x=>x
 |none=>⟨#[1114112+k]⟩
noncomputable def bZ:List Stmt:=PySem.Challenge.pw_nz0398_01.main.body
def tb0:aK:=Lq.dB bZ 9 25582273839414724718261733445160956907292855018464610
def tb1:aK:=Lq.dB (Lq.fb bZ 10) 0 9043694867349699
def tb2:aK:=Lq.dB (Lq.fb bZ 10) 1 1028469382502313937694485516163034478008892149058
def tb3:aK:=Lq.dB (Lq.fb bZ 10) 2 1379811884821431924648568075260201761311608422493935568171669916390
def tb4:aK:=Lq.dB (Lq.fb bZ 10) 3 3057989168485589634641931452608187199616208029348692892543472496043671706681677142118126571907
def tb5:aK:=Lq.dB (Lq.fb bZ 10) 4 402405682478696601450133698068549859135634817008726534169325321797817676871103410853387613120405115260510206742992701790583830384564683011
def tb6:aK:=Lq.dB (Lq.fb bZ 10) 5 374679667297537381609382591729809460439038983019146411852528289726844596205527301102201178483796268242502568996369416915294848294
def tb7:aK:=Lq.dB (Lq.fb bZ 10) 6 15280715812854240495889764527674042257270014124997876321571136246034794338
def tb8:aK:=Lq.dB (Lq.fb bZ 10) 7 55378148402563519108500904251727461833728415580034786
def tb9:aK:=Lq.dB (Lq.fb bZ 10) 8 21790822130709215256513396262945983898750175545305247763490849394802461463293878102899826674841602384716791363311625556355
def aaY:aK:=Lq.dB (Lq.fb bZ 10) 9 1463969126940470223866799194013837358892259981812670052784537506381294700648140015241408929358321909144302359838520206648415970
def aaZ:aK:=Lq.dB (Lq.fb bZ 11) 0 184538806694073188056106459265887373131122738977
def aa0:aK:=Lq.dB (Lq.fb bZ 11) 1 321311110622967479571184099
def aa1:aK:=Lq.dB (Lq.fb bZ 11) 2 183307396163038241591062924674
def aa2:aK:=Lq.dB (Lq.fb bZ 11) 4 230402932065580312342961976897073339593515978003397830692277090
def aa3:aK:=Lq.dB (Lq.fb bZ 11) 11 90547780380676945681850265310887113878622346662671122910915673448093715327072620480467049513371708053075701182542693818883
def aa4:aK:=Lq.dB (Lq.fb bZ 11) 12 40552144403003091333569081954705047641494216874706579159486728021226646200220808771398333567385707651730322731743924595803997544017285342966951881737478895743066401110130364133712224355622
def aa5:aK:=Lq.dB (Lq.fb bZ 11) 13 153756037163834761
def aa6:aK:=Lq.dB (Lq.fb bZ 12) 0 9349907834041664409045950790698762734441393119021822146654979697930491284684574131954634039773510
def aa7:aK:=Lq.dB (Lq.fb bZ 12) 1 12735979402095470095868296620796711537294070857300450443675486335956998857480967007641627706172641165758889461802081676394113383043430452747647052085772956820103817291575435156860324088808352413328154850100892636871106313468783678884077989707631312006969050987915332194165990930674787832003334184725296705006294029464239867783233399075910149728254121368390730092261348953905766741897496717796047442048003304807774265939917331043396595107824714083111309620321123785810670681316528414472927435859889111576750407655050870431289372379807394609497734687771974
def aa8:aK:=Lq.dB (Lq.fb bZ 12) 2 10701939460379330124648643394659419968475984310320410475358569546155878900385061039214420878255517582364438255596757419779101990404988728455811111080
def aa9:aK:=Lq.dB (Lq.fb bZ 12) 4 1209806206781326789760718941516868113376773626540486184491137405340471597681394460323274098614346635670028622162171266947541552740625695288439093594029200225610085733588140213086817838321993336039265116653513672405251332232
def aba:aK:=Lq.dB (Lq.fb bZ 12) 6 2856303751218695486564770952502264737109929277901130174215004179218981816031128090522716658475289530464391678209184911882085950323725118572241584384524374810339779439220057161455734615288736224122949058126624171587921986612282661080262025577466604802069378182061054734629656795684646721563706986379727263281580286246
def abb:aK:=Lq.dB (Lq.fb bZ 13) 0 20813139976904709481341564117640369865365721493946901673261678369
def abc:aK:=Lq.dB (Lq.fb bZ 13) 1 1804747955897570358544758077398716278619093213423896477685523131411043032103691267363199869901945219712545349377383448945048567477125230155673447794276243111147257881280565052470907692468141423064747246435999387107509874220721616846884239207087793466147785507430242277235263619662169377910968128679291373357081514266148742084228556005964738773861261892752694738187172096236811399023810318032214436919840083970499821808838522006416572445579718799840612630640807647167876486897731775722387146842908997481752493004612843736067190659142357554153543434908378118897954621576722190232094036651476967396627663554699597059460000040629773161503939038969543365947994311943896321399507069578533282958051406909293644239197174088760189982645172273768211428851792179099408162778367778600728521761157
def abd:aK:=Lq.dB (Lq.fb bZ 13) 2 1930284573933564849350462182073456601363953424934123085764944573531383161219
def abe:aK:=Lq.dB (Lq.fb bZ 13) 4 1520260168565406007283788059169231379867184653879302531723739924860702207747794009233761941493672964897516194318579541784350011706018675357265317011083829321612383009060390214134302048748931168871394526569919861927662432714534977993106688157137243135405948321288438688525706564153568864484654230244099269329119363157966305788974297742069208941884836214052197505307054640220486
def abf:aK:=Lq.dB (Lq.fb bZ 13) 5 6070711063527435864112319035393294620225266073376673586577869106968857298960055350657807731448352548660962781362719975740928222642729578870841326505584971889398554413209693105149981261027140612358360558914686045679289414000278416868686254348471484786561500709445954760046622884201513194696729546005901798425133083694566371062460618411010443856947631068764720005643679290215996593686010805909852688122986328935349437372796395908
def abg:aK:=Lq.dB (Lq.fb bZ 13) 7 248770901868461939634857107682403391782203576636770047601683951750962414982176493502215816955745613411554480624564025712580956657126414466537307495221055654383804441573639037227135559651359070621976387376925825550215606763997494896531388264367995966296010715710800087561940098408997
def abh:aK:=Lq.dB (Lq.fb bZ 13) 9 6084682285336206617354107005598695756939107152005102552217360844784940485291752951773325948122297380533981119971525088022758580612
def abi:aK:=Lq.dB (Lq.fb bZ 13) 10 258986902201242671184318316063599282127351389114470817302798367319053785215684940273845696332111619925917924101662841769474404087031112538209245779887312196832188859096484631868802035507218923835564670870975021635865696792223092032345543519727602325722705444580462005877729450113115725128436669762886
def abj:aK:=Lq.dB (Lq.fb bZ 13) 11 2359243891345635675898110085545916625990406755444048274932356311134881773576368290702610979194930420589285665215963992216267906473406471109782070549136424522562697325431465632394917789220701470227558424975783291809576412401455622270671676205305377566912105146574233304058260198459745193157839919595475220978758288263407798280248088834970326119941130330916389582574937469548400963155315687423851122958499072326
def abk:aK:=Lq.dB (Lq.fb bZ 13) 12 782701168098316981040367017197466744913459989000168376573869620506336916540470758712029607503535495738654173524388612505498913564471148582828800558861525283542060677871192011908879022843898390280897004157297495861850143424450030459277940201729893857844487591570127535745611158028806454481323423250336721156166354690399746925493272946563076251459030970578663596675
def oP:aK:=Lq.dB (Lq.fb bZ 13) 13 713924626126928340102018607444970814667029639000984159225362103994235683793178388589851466526773487170335930143531535757986951584333167917887406347457661811569164836908205191732145541727191912628837972714108020716295811282217810981336764589560151311145127903533097221231559580507092508755917930340991047852819147910368832905135591676693377498612951059578087195976566670230624328449009923655893569949858450430566776326587876304250881522170292027332273268785422390667156215540424998
def abl:aK:=Lq.dB (Lq.fb bZ 14) 0 1377072975671857729951140253066517819036236642580657671279875782017822337155349860312712902076006738663056436160048848681963231655310981896098772648705312960282194015891260179660698969557329686992941725687612770168626688762303263823870323515507538843130809341896626415335092938261049868456613941509952746086039176148018527353668730129185
def abm:aK:=Lq.dB (Lq.fb bZ 14) 1 101591870417718578895800058716919243706287035260744402862603438667930842202173361478
def qU:aK:=Lq.dB (Lq.fb bZ 14) 2 9019785278685942043058457105064637813562633887148112922250090917956815194824002095141443339550739646906044191070792772329959022661669050706445544655132085295228238329242719340590183019700788919460526778273319722470679411474785505160749432675267138710999664897078626274585887354519719767720321422538189873079130826186359930906559507496
def abn:aK:=Lq.dB (Lq.fb bZ 14) 3 1814251279512475427452446660889708369609012917389077995513103229835334980551676913705432918277220530896574777608005600810947921275677496048236513816557908714133996012766581103250358694752898177603716020476415946248542702153638190293028547482089136522627829067136689164560379286462145901811686226091896175876582444052880339468355006801631896228020147043109604187112080692969723084605764794193396491349494525883851145476172833029
def abo:aK:=Lq.dB (Lq.fb bZ 14) 4 12301049460363718972833098273069801576
def abp:aK:=Lq.dB (Lq.fb bZ 14) 6 10838615900031784085750097299468373830876530532550365135075944345170844774442623293588076983161071508522742253936090608712362217765
def abq:aK:=Lq.dB (Lq.fb bZ 17) 0 547319524975217944881599105390791197681874333236134335575578476543989545453464973482243681582029656350704461296612814353113082840800722102721871708169314522949808494956357266583954845438715987347537895724891641818204915092710693754267075
def abr:aK:=Lq.dB (Lq.fb bZ 17) 1 245950522787121928085270074316140207395337656753680056601062336521012579222113701722892080711458565676185014474669477478108576984637574105197455224061169172922574920
def abt:aK:=Lq.dB (Lq.fb bZ 17) 2 629184092127324755054569016030314161111552686954811719802513143564149495754438206299967282021037794087560500352966475176720927037290461754298384197224860572027426252116680492593335907400
def abu:aK:=Lq.dB (Lq.fb bZ 17) 3 3992081576974589078478853468320040314469374467692980862646321402786050
def abv:aK:=Lq.dB (Lq.fb bZ 17) 4 234721821740405807855943654782052678381344750064267193861767903195076164824863726641375067509100765463765016673137779303891407445126483969224436521810755685756234975601739958389488155430526173713464874537425883938356067245500421480974047901708057064744931493
def abw:aK:=Lq.dB (Lq.fb bZ 17) 5 531391372619110620924968838939536065500774565365655806744073354997096760335210420701875143751146091013536775254196017297710531354370188502078121805680010278874811411635209671204336554149
def abx:aK:=Lq.dB (Lq.fb bZ 17) 6 619400582510971483244284090263770253915420115116436982604225052312750607673396445264549930558499779628806451477286181364864759426552607749260823818637853998245677547659355871786802756341077752774787
def aby:aK:=Lq.dB (Lq.fb bZ 17) 8 11408290246306
def abz:aK:=Lq.dB (Lq.fb bZ 17) 9 23924921999784354082
def abA:aK:=Lq.dB (Lq.fb bZ 17) 11 23928320109045087847970
def abB:aK:=Lq.dB (Lq.fb bZ 17) 12 7334575767530171663788706
def abC:aK:=Lq.dB (Lq.fb bZ 17) 13 2542811806042409698777123950882
def abD:aK:=Lq.dB (Lq.fb bZ 17) 15 1854020480866475526081123941651534211593864986062862208558016331349373308704903459
def abE:aK:=Lq.dB (Lq.fb bZ 17) 16 7090104897960745219518397696250325917936215284058783549158
def abF:aK:=Lq.dB (Lq.fb bZ 17) 20 11408305450658
def abH:aK:=Lq.dB (Lq.fb bZ 17) 21 9752427406759430013201058
def abI:aK:=Lq.dB bZ 19 137262951473788487987690927173982319096838068897857468733268839589829818067643787438944695373453653416827660177337693757426617934292740227712084179984251479561722978155790595
def abJ:aK:=Lq.dB bZ 20 2397737233273174830905611264631148306891619
def abK:aK:=Lq.dB bZ 21 1915149497080453492432026520272657345934545586312850730316187145755271417475331
def abL:aK:=Lq.dB bZ 22 8367334981325802122444497063218742415253796454227623640833285775867416357853329488748013415848426516826846353917892222399849857165967683339674410216721322733292942685124843391288459861138917124318243723945681733039621201918863440689070188969275708172253376387578639617558977989968516908596857040859877609172094112368222550846053324433119340639877377310687961031933963456749882617961290852562493923562561772901036807253386781294981
def abM:aK:=Lq.dB bZ 23 131479005646828819705228631835082433746676566657569877676512589771706377154210050165610915311934997597350224834124040104742881806236396630498187735062582197284486595871185556255658483277635971
def abN:aK:=Lq.dB bZ 24 5254029678075211065834310708392285214233468284824735108123105665772113344119110976400884723405757239452630407962938468100167503553589627002803955332668455530415857302791497521083268497860100632997590560977875506976073561285030740212629138970362245
def abP:aK:=Lq.dB bZ 25 149950845455543053196362425110375567090426206508510863848777010534244394779696444051268733558301742738583403779161792287317751273573395646151786755
def abQ:aK:=Lq.dB bZ 26 3524749558651110251078539210408519867112727468232695392088453632276907587532038977687039419551956960738101678371
def abR:aK:=Lq.dB bZ 27 19997123984270985317297925562415803166135331630550150842689305646439327707323212902679515438435888048208373436285416069872271293604704014178649456273626917006646203324281581337230378086691
def abS:aK:=Lq.dB bZ 28 3219312787304791280875984006732891092589238116421180580246214035898466313282676874739316576255831196495429745010084848593415606994452885125532107069059525468733250542155243632384056802773132661265368566292689219259024016569538040846132828650294360400730303577477109744744853546976459576735519314634025114590123800252508879402467764398137012013046243051938264854438074218455221946694
def abT:aK:=Lq.dB bZ 29 20709408211578051529945381891688930512618615645552318658279634474323791475194147405503955969036460220681073545766685958583578854005821124682096497460582411186364523798488657835882286186369879004038461432196
def abU:aK:=Lq.dB bZ 30 15716709084006939298402916959446093453129223583880320096578868367094763772675378502
def abV:aK:=Lq.dB bZ 31 11908027711321281645105737918466042680062367633473445821912973959844205756882133179122622268558289197955263198553532763841527545718550124097110031748581109184839891502787360707198735429809059309676894001509259563510286944015789546148220201723525397661982323356919385294528928707341427335469526127200271212016097798182975941858097869836131199312767550195351667306783355481778270114919915536570512892444539412974161054180234660959634691255560997620740167733451743621390077496789977805458959640715515406377342050543914508443386913027
def oQ:aK:=Lq.dB bZ 32 144577463190436298085835530246778190603476660863885542198115413529958240471251130333616138971817389175363549956312584889466434686371229555159326174154947284840429064570822144981219003169336401587272243183634437301178148018067581882785492345907342501927498237224368379579336016590601643642272816851368653565948015761371382342381929485273759065776022691912
def abW:aK:=Lq.dB bZ 33 516029818083867360766095469220779842738447194400172617136756855574237131056016317834
def oR:aK:=Lq.dB bZ 34 62939953115030976700625981366465333928734887116492722466775999710572976664075156907072524277055289393860651610608432437235895330018353381173130446434358746270418001991736481943002629607306595265011406435804427801852054931260964268473030941646233279352202606747231698067715370357168499015190628750500232723079642252093478951991346339257099136292530450314110927084457029306534613912597374417641295316668508542461874380351020369071109137689790241783463201202167096050499099903997763490228966486028308554175177772091175099723904142779478584059286932859886119679199100142653965259616610916679152079457759224885918552483976847441962685713710040964889072976493066774622612858811324556854618517447896771884012437422153791872678696674852947906020211652319567574870052816870544938765373110535655395766032267458466376025829376662120735344968059853735165225158999275109451199929890508719281330339921137519188617398341896119658556697335341280155115421185256212419348578721552262252792738151428227
def tfn:List (Nat×Fn):=[
 (0,Lq.bY none 1 1 tb0 2241)
 ,(1,Lq.bY (some 4) 2 2 tb1 33688162)
 ,(2,Lq.bY (some 4) 3 3 tb2 75704699491)
 ,(3,Lq.bY (some 4) 3 3 tb3 75704699491)
 ,(4,Lq.bY (some 4) 3 6 tb4 58823217368698805963366)
 ,(5,Lq.bY (some 4) 2 5 tb5 61442064042121821047398)
 ,(6,Lq.bY (some 4) 2 4 tb6 9718370)
 ,(7,Lq.bY (some 4) 1 2 tb7 19041)
 ,(8,Lq.bY (some 4) 1 2 tb8 2657)
 ,(9,Lq.bY (some 4) 3 7 tb9 275253726431844)
 ,(10,Lq.bY (some 4) 3 5 aaY 375819487843)
 ,(15,Lq.bY (some 4) 2 2 aaZ 3692830631529060)
 ,(16,Lq.bY (some 4) 3 3 aa0 61217311331)
 ,(17,Lq.bY (some 4) 2 2 aa1 9701986)
 ,(19,Lq.bY (some 4) 2 3 aa2 83233378)
 ,(23,Lq.bY (some 4) 4 5 aa3 268144676391515864416914023)
 ,(24,Lq.bY (some 4) 3 5 aa4 1270114130431314533)
 ,(25,Lq.bY (some 4) 3 3 aa5 3896748675172964)
 ,(26,Lq.bY (some 4) 4 5 aa6 235379786254948)
 ,(27,Lq.bY (some 4) 4 7 aa7 70116594348576726537590631114285847415403)
 ,(28,Lq.bY (some 4) 5 6 aa8 1098320594498685194923765140072)
 ,(30,Lq.bY (some 4) 4 5 aa9 268144676391280565166934631)
 ,(32,Lq.bY (some 4) 5 5 aba 4202092409811171774876028421540457)
 ,(34,Lq.bY (some 4) 2 2 abb 3692830631529060)
 ,(35,Lq.bY (some 4) 3 9 abc 70499391071282441612954075155660624890475)
 ,(36,Lq.bY (some 4) 3 4 abd 268144690685624422342068839)
 ,(37,Lq.bY (some 4) 4 7 abe 1097053491706086430303823596136)
 ,(38,Lq.bY (some 4) 3 10 abf 70482449590401710130418590640340743490155)
 ,(40,Lq.bY (some 4) 4 13 abg 321264540030231705964974284327856658545377406006923101236628081)
 ,(42,Lq.bY (some 4) 3 9 abh 114131896431977912725630989896297)
 ,(43,Lq.bY (some 4) 3 6 abi 14285725960746830437)
 ,(44,Lq.bY (some 4) 3 5 abj 251666200144438400256051815)
 ,(45,Lq.bY (some 4) 5 7 abk 70498695474322403471625560253620103154283)
 ,(46,Lq.bY (some 4) 5 13 oP 78189376361819642218153182474131252664378793583588501883504)
 ,(47,Lq.bY (some 4) 3 4 abl 61955416780584020740710)
 ,(48,Lq.bY (some 4) 4 4 abm 15960992448987269733)
 ,(49,Lq.bY (some 4) 1 9 qU 276918235014019160877142191773575124176210540)
 ,(50,Lq.bY (some 4) 2 5 abn 1279257610073934437)
 ,(51,Lq.bY (some 4) 3 4 abo 158409150564964)
 ,(52,Lq.bY (some 4) 2 5 abp 239732706102319427307702887)
 ,(53,Lq.bY (some 5) 2 4 abq 162773911865956)
 ,(54,Lq.bY (some 5) 2 3 abr 14289314726967773797)
 ,(55,Lq.bY (some 5) 2 3 abt 3896744917338724)
 ,(56,Lq.bY (some 5) 2 2 abu 9701986)
 ,(57,Lq.bY (some 5) 1 6 abv 267835596960867129082137191)
 ,(58,Lq.bY (some 5) 1 10 abw 1277487634524333059622243906906360426)
 ,(59,Lq.bY (some 5) 1 9 abx 18401857630169698246660648360706312810)
 ,(60,Lq.bY (some 5) 1 1 aby 216009314)
 ,(61,Lq.bY (some 5) 2 2 abz 9701986)
 ,(63,Lq.bY (some 5) 2 2 abA 9701986)
 ,(64,Lq.bY (some 5) 2 2 abB 893899770467)
 ,(65,Lq.bY (some 5) 2 2 abC 851486968419)
 ,(66,Lq.bY (some 5) 2 3 abD 67118565987)
 ,(67,Lq.bY (some 5) 2 2 abE 9701986)
 ,(69,Lq.bY (some 5) 1 1 abF 216009314)
 ,(70,Lq.bY (some 5) 2 2 abH 893899770467)
 ,(72,Lq.bY none 2 3 abI 3487672367450660)
 ,(73,Lq.bY none 1 1 abJ 2593)
 ,(74,Lq.bY none 2 3 abK 15991677602858011173)
 ,(75,Lq.bY none 3 8 abL 1188470893751559073839908753188257839409200892461)
 ,(76,Lq.bY none 3 5 abM 4534216247499067311129777197025833)
 ,(77,Lq.bY none 3 8 abN 315421738448189596848110148128137250491075116)
 ,(78,Lq.bY none 2 5 abP 65427151630514437507622)
 ,(79,Lq.bY none 2 5 abQ 17294831939587527711638754182915426858)
 ,(80,Lq.bY none 2 5 abR 4222374203923047880013887592204841)
 ,(81,Lq.bY none 2 4 abS 58529141276241715792422)
 ,(82,Lq.bY none 3 8 abT 1188494421680698523402715472195017670494804773421)
 ,(83,Lq.bY none 3 3 abU 57463670179)
 ,(84,Lq.bY none 2 7 abV 1283385835513576587148036542164475706154589096493)
 ,(85,Lq.bY none 2 14 oQ 276913684478954937243689100870356860173421100)
 ,(86,Lq.bY none 1 3 abW 4341455987278562076276642731922217)
 ,(87,Lq.bY none 1 12 oR 27872863127470584884507777391271885777552074287483736747025830619846438469765505185427101753)
]
noncomputable def abX:List (Nat×Nat):=[(0,238),(72,239),(73,237),(74,232),(75,274),(76,233),(77,252),(78,259),(79,268),(80,240),(81,248),(82,261),(83,262),(84,229),(85,215),(86,226),(87,64)]
noncomputable def abY:List (Nat×Nat×Nat):=[(4,(220,2)),(4,(221,3)),(4,(180,4)),(4,(136,5)),(4,(269,6)),(4,(99,7)),(4,(154,8)),(4,(104,9)),(4,(91,10)),(4,(206,11)),(4,(177,12)),(4,(122,13)),(4,(199,14)),(4,(92,16)),(4,(211,17)),(4,(234,18)),(4,(203,19)),(4,(243,20)),(4,(263,21)),(4,(222,22)),(4,(258,23)),(4,(244,24)),(4,(196,26)),(4,(173,27)),(4,(128,28)),(4,(270,29)),(4,(172,30)),(4,(198,31)),(4,(210,32)),(4,(181,33)),(4,(200,35)),(4,(250,36)),(4,(227,37)),(4,(212,38)),(4,(246,39)),(4,(209,40)),(4,(272,41)),(4,(213,42)),(4,(184,43)),(4,(137,44)),(4,(228,45)),(4,(170,46)),(4,(208,47)),(4,(224,48)),(4,(133,49)),(4,(251,50)),(4,(218,51)),(4,(273,52)),(5,(208,53)),(5,(217,54)),(5,(249,55)),(5,(190,56)),(5,(281,57)),(5,(254,58)),(5,(266,59)),(5,(148,60)),(5,(61,61)),(5,(107,62)),(5,(192,63)),(5,(189,64)),(5,(235,65)),(5,(131,66)),(5,(59,67)),(5,(231,68)),(5,(182,69)),(5,(155,70)),(5,(187,71))]
noncomputable def abZ:List (Nat×Nat):=[(4,257),(4,276),(4,275),(4,223),(4,151),(4,267),(4,98),(4,126),(4,153),(4,205),(5,203),(5,183),(5,171),(5,197),(5,255)]
noncomputable def ab0:List (Nat×Nat):=[(4,145),(5,256)]
noncomputable def tgk:List (Nat×D):=[(121,.tuple [.str (Yd "truth")]),(169,.tuple [.str (Yd "number")]),(43,.str (Yd "this/"))]
noncomputable def txn:Nat:=236
noncomputable def tsn:Nat:=107
noncomputable def eE:Nat:=87
def L:Iw where
 names:=D4
 gk:=tgk
 Dy:=tfn
 sup:=[(15,1),(34,15),(47,34)]
 sx:=[(15,1,291,206,195),(34,15,461,372,361),(47,34,524,478,467)]
 s9:=[(4,47),(5,53)]
 eY:=abZ
 jt:=[(1,4),(15,4),(34,4)]
 cls:=[(4,524),(5,693)]
 fa:=[99,113,120,127,132,137,142,147,152,157,162,167,172,177,184,207,214,221,228,233,238,243,248,274,281,288,305,310,317,324,331,338,345,352,373,378,385,397,404,411,418,425,432,437,444,451,458,479,486,493,500,507,521,540,547,554,561,566,573,580,592,599,606,613,620,627,641,648,655,676,683,690,704,711,718,725,732,739,744,751,758,765,772,779,786,791,798,803]
 xA:=abX
 BK:=ab0
 vA:=abY
 Kl:=[2,524,461,355,291,187,693,88,76,47,523,460,354,290,186,692,87,75,46,99,113,120,127,132,137,142,147,152,157,162,167,172,177,184,207,214,221,228,233,238,243,248,274,281,288,305,310,317,324,331,338,345,352,373,378,385,397,404,411,418,425,432,437,444,451,458,479,486,493,500,507,521,540,547,554,561,566,573,580,592,599,606,613,620,627,641,648,655,676,683,690,704,711,718,725,732,739,744,751,758,765,772,779,786,791,798,803,37,66]
 xn:=txn
 sn:=tsn
 C:=88
 D1:=47
 D2:=76
 f1:=37
 f2:=66
 e7:="self"
 bo:="what"
end aZ
namespace aZ
open PySem PySem.W PySem.Calls PyProof.Rows Lw
noncomputable abbrev pw:Program:=PySem.Challenge.pw_nz0398_01
def q1:Program:=view pw [34]
noncomputable def my:List Str:=(["_wall","FinderError","SpotFault","KindFault","TRUTH","NUMBER","OWN","kind_text","Columns","NameKinds","SetKinds","ExprKinds","Kinds","ORDERING","Signatures","_law_draw","_law_spot","_law_leaf","_law_written","_law_expr","_law_drawn","_law_right","_law_params","_law_body","_law_state","_law_called","_law_joined","_law_kind","_law_due","_law_told"]:List String).map Yd
def S0(w:Y3)(os:yO):Shared:=⟨boot_heap w.params,aem [],boot_drawn,boot_toks,os⟩
def qV:PySem.Env:={scope:=pw.main.scope,locals:=mainNs,globals:=mainNs,cells:=[],code:=.ref 13,frame:=some 14}
def hC:Code:=.body (behindTheImports pw) qV
noncomputable def p0:Pos:=⟨0,0,0,0⟩
noncomputable def ann:Option Value:=some (.ref 6)
theorem N8{α β:Type}{x:Option (α×β)}{d:α}{b:β}(h:x.map (·.2)=some b):x=some ((x.map (·.1)).getD d,b):=by obtain⟨⟨a,b'⟩,rfl,e⟩:=Zk.mp h;cases e;rfl
theorem N9{α β γ:Type}{x:Option (α×β×γ)}{d:β}{a:α}{c:γ}(h:x.map (λr=>(r.1,r.2.2))=some (a,c)):x=some (a,(x.map (λr=>r.2.1)).getD d,c):=by obtain⟨⟨a',b',c'⟩,rfl,e⟩:=Zk.mp h;cases e;rfl
def Sa(w:Y3)(os:yO):Shared:=((topGo treeTable pw w 11 ann 12 (S0 w os) (topStub pw)).map (·.1)).getD (S0 w os)
theorem Oa(w:Y3)(os:yO):(topGo treeTable pw w 11 ann 12 (S0 w os) (topStub pw)).map (·.2)=some ⟨denote treeTable hC,hC,p0,[y8 p0]⟩:=by kernel_rfl
def Sb(w:Y3)(os:yO):Shared:=((segRun treeTable pw w 11 ann 1 1 (Sa w os) (blockOf (behindTheImports pw) qV hC p0 [y8 p0])).map (λr=>r.2.1)).getD (S0 w os)
theorem D5(w:Y3)(os:yO):(segRun treeTable pw w 11 ann 1 1 (Sa w os) (blockOf (behindTheImports pw) qV hC p0 [y8 p0])).map (λr=>(r.1,r.2.2))=some (.next,hC,p0):=by kernel_rfl
theorem IX(w:Y3)(os:yO):DY (Sb w os).heap.objs.toList 0 .nil=true:=by kernel_rfl
theorem IY(w:Y3):((boot_heap w.params).isNs mainGlobals,(boot_heap w.params).objs.size,(boot_heap w.params).nsMap mainGlobals "__annotations__")=(true,11,ann):=by kernel_rfl
theorem IZ:opening pw=plainProg pw.main.scope.names:=by kernel_rfl
theorem D6(s:zt):fenceModules? pw s=some s:=by kernel_rfl
noncomputable def SP(l:List Pos)(n:Nat):Pos:=(l[n]?).getD ⟨0,0,0,0⟩
def ab1:Nat->Pos:=SP [⟨8,8,8,13⟩,⟨8,8,8,15⟩,⟨8,8,8,24⟩,⟨8,25,8,29⟩,⟨8,8,8,30⟩,⟨8,8,8,30⟩,⟨9,8,9,12⟩,⟨9,8,9,17⟩,⟨9,20,9,24⟩,⟨9,8,9,24⟩]
def ab2:Nat->Pos:=SP [⟨16,8,16,13⟩,⟨16,8,16,15⟩,⟨16,8,16,24⟩,⟨16,25,16,29⟩,⟨16,8,16,30⟩,⟨16,8,16,30⟩,⟨17,8,17,12⟩,⟨17,8,17,17⟩,⟨17,20,17,24⟩,⟨17,8,17,24⟩]
noncomputable def I6:Pos:=⟨762,0,786,52⟩
theorem Ob(w:Y3)(s:zt):topRun treeTable pw w 11 ann 2 s ⟨doneF .next,hC,I6,[y8 p0]⟩=some s:=by kernel_rfl
def oA(h:yi):=((h.get? sysModules).isSome,h.isNs mainGlobals,h.isNs builtinsNs,h.isNs cStatics,h.nsMap cStatics "sys.recursionlimit",nsIn (K L h) cStatics "thirdparty.any")
def oB(h:yi):=(dc.map (λp=>(h.nsMap mainGlobals p.1,h.nsMap builtinsNs p.1)),L.gk.map (λp=>(h.nsMap mainGlobals (L.nm p.1)).bind (xD h)))
def oC(h:yi):=(L.eY.map (SJ L h),L.xA.map (λp=>(h.nsMap mainGlobals (L.nm p.2),keepIn (K L h) (.ref (L.i8 p.1)))),L.BK.map (nwO L h),L.vA.map (mtO L h))
def fD(h:yi)(p:Nat×Fn):=N0 h (L.i8 p.1) (tq L p.2) (vC L p.2)
def oD1(h:yi):=L.Dy.map (fD h)
def oD2(h:yi):=L.sx.map (λx=>(N2 L h (L.i8 x.1) x.2.2 (L.i8 x.2.1),L.jt.map λp=>if p.1=x.2.1 then some (Mk L h (L.gY p.2) x.2.2.1) else none))
def oE(h:yi):=(h.get? L.C,(jv (K L h) L.C,mroIn (K L h) L.C (.type "Exception"),keepIn (K L h) (.ref L.C),h.nsMap mainGlobals (L.nm L.xn)),
  (Z7 (K L h) (.ref L.C) "__setattr__",Z7 (K L h) (.ref L.C) "__init__",Z7 (K L h) (.ref L.C) L.bo,Z7 (K L h) (.ref L.C) (spS L),Z7 (K L h) (.ref L.C) "__getattribute__",Z7 (K L h) (.ref L.C) "__getattr__"),(typeIn (K L h) (.ref L.f2),Mk L h L.C x1.1,Mk L h L.C x2.1))
def oF(h:yi):=((N0 h L.f1 [L.e7,L.bo] [(L.e7,.local),(L.bo,.local)],N2 L h L.f1 x1 L.f1),(N0 h L.f2 [L.e7,L.bo,spS L] [(L.e7,.local),(L.bo,.local),(spS L,.local)],N2 L h L.f2 x2 L.f1))
def vD(h:yi):=(oA h,oB h,oC h,(oD1 h,oD2 h),oE h,oF h)
def SQ(s:zt):=vD s.heap
noncomputable def gA:=(true,true,true,true,(none:Option zo),some (none:Option zo))
def gB:=(dc.map (λp=>((none:Option zo),some p.2)),L.gk.map (λp=>some p.2))
def gC:=(L.eY.map (λ_=>N4),L.xA.map (λp=>(some (Zm (L.i8 p.1)),true)),L.BK.map (nwG L),L.vA.map (mtG L))
def fG(p:Nat×Fn):=N1 (eC L.nm p.2.body) (tq L p.2) (vC L p.2) (SM L p.1)
def gD1:=L.Dy.map fG
def gD2:=L.sx.map (λx=>(N3 L.e7 pw.main.file x.2.2 (some (ZF "function")) true,L.jt.map λp=>if p.1=x.2.1 then some (Ml (.ref (L.i8 p.1))) else none))
def gE:=(some kfO,(true,some true,true,some (Zm L.C)),
  (some (some (Z3 "object.__setattr__")),some (some (Zm L.f2)),some (none:Option zo),some (none:Option zo),some (some (Z3 "BaseException.__getattribute__")),some (none:Option zo)),(some (ZF "function"),Ml (.builtin "Exception.__init__"),Ml (.ref L.f1)))
def gF:=((N1 (mw L.e7 L.bo L.bo L.bo ab1) [L.e7,L.bo] [(L.e7,.local),(L.bo,.local)] [("__class__",x1.2.2)],N3 L.e7 pw.main.file x1 (some (ZF "function")) true),
  (N1 (mw L.e7 L.bo (spS L) (spS L) ab2) [L.e7,L.bo,spS L] [(L.e7,.local),(L.bo,.local),(spS L,.local)] [("__class__",x2.2.2)],N3 L.e7 pw.main.file x2 (some (ZF "function")) true))
def lp:=(gA,gB,gC,(gD1,gD2),gE,gF)
variable{α β:Type}
section
variable{γ δ ε ζ:Type}{x:Option α}{f:α->β}{g:α->γ}{a:β}{b:γ}
theorem pY(h1:x.map f=some a)(h2:x.map g=some b):x.map (λr=>(f r,g r))=some (a,b):=by
 cases x with
 |none=>exact nomatch h1
 |some r=>exact congrArg some (congr (congrArg Prod.mk (zh h1)) (zh h2))
theorem tw(h:x.map (λr=>(f r,g r))=some (a,b)):x.map f=some a:=by
 cases x with
 |none=>exact nomatch h
 |some r=>exact congrArg some (congrArg Prod.fst (zh h))
theorem lq(h:x.map (λr=>(f r,g r))=some (a,b)):x.map g=some b:=by
 cases x with
 |none=>exact nomatch h
 |some r=>exact congrArg some (congrArg Prod.snd (zh h))
theorem SR{l:List β}{F:α->β->γ}{G:β->γ}(n:Nat)(h1:x.map (λr=>(l.take n).map (F r))=some ((l.take n).map G))(h2:x.map (λr=>(l.drop n).map (F r))=some ((l.drop n).map G)):x.map (λr=>l.map (F r))=some (l.map G):=by
 cases x with
 |none=>exact nomatch h1
 |some r=>
  have e:=congr (congrArg HAppend.hAppend (zh h1)) (zh h2);rw[←yc,←yc,Yu] at e;exact congrArg some e
theorem SS{h:α->δ}{k:α->ε}{y:α->ζ}{c:δ}{d:ε}{e:ζ}(h1:x.map (λr=>(f r,g r,h r,k r))=some (a,b,c,d))(h2:x.map y=some e):x.map (λr=>(f r,g r,h r,k r,y r))=some (a,b,c,d,e):=by
 cases x with
 |none=>exact nomatch h1
 |some r=>exact(congrArg (λp:β×γ×δ×ε=>some (p.1,p.2.1,p.2.2.1,p.2.2.2,y r)) (zh h1)).trans (congrArg (λz=>some (a,b,c,d,z)) (zh h2))
end
theorem xE(w:Y3)(os:yO):(PySem.W.Fast.tw10110043849684766642 PySem.W.Fast.tw14364793385576792824 pw w 11 ann 1 5423 (St (Sb w os)) (piecesOf (behindTheImports pw) qV hC p0 [y8 p0])).map (λr=>((r.1,r.2.2,((staticsOk (importedModules pw.main.body) (boot_heap w.params) r.2.1.abs.heap&&ad5 pw r.2.1.abs.heap&&gensDone r.2.1.abs&&laidKept (boot_heap w.params) r.2.1.abs.heap),openSeen q1 my (importedModules pw.main.body) (λ_=>true) true r.2.1.abs)),oA r.2.1.abs.heap,oB r.2.1.abs.heap,oE r.2.1.abs.heap))=some ((.next,(hC,I6),true,openGood q1 my),gA,gB,gE):=by kernel_rfl
theorem Mm(w:Y3)(os:yO):(PySem.W.Fast.tw10110043849684766642 PySem.W.Fast.tw14364793385576792824 pw w 11 ann 1 5423 (St (Sb w os)) (piecesOf (behindTheImports pw) qV hC p0 [y8 p0])).map (λr=>(oC r.2.1.abs.heap,oD2 r.2.1.abs.heap))=some (gC,gD2):=by kernel_rfl
theorem Mn(w:Y3)(os:yO):(PySem.W.Fast.tw10110043849684766642 PySem.W.Fast.tw14364793385576792824 pw w 11 ann 1 5423 (St (Sb w os)) (piecesOf (behindTheImports pw) qV hC p0 [y8 p0])).map (λr=>((L.Dy.take 36).map (fD r.2.1.abs.heap),oF r.2.1.abs.heap))=some ((L.Dy.take 36).map fG,gF):=by kernel_rfl
theorem SU(w:Y3)(os:yO):(PySem.W.Fast.tw10110043849684766642 PySem.W.Fast.tw14364793385576792824 pw w 11 ann 1 5423 (St (Sb w os)) (piecesOf (behindTheImports pw) qV hC p0 [y8 p0])).map (λr=>(L.Dy.drop 36).map (fD r.2.1.abs.heap))=some ((L.Dy.drop 36).map fG):=by kernel_rfl
theorem Oc(w:Y3)(os:yO):(PySem.W.Fast.tw10110043849684766642 PySem.W.Fast.tw14364793385576792824 pw w 11 ann 1 5423 (St (Sb w os)) (piecesOf (behindTheImports pw) qV hC p0 [y8 p0])).map (λr=>(r.1,r.2.2,((staticsOk (importedModules pw.main.body) (boot_heap w.params) r.2.1.abs.heap&&ad5 pw r.2.1.abs.heap&&gensDone r.2.1.abs&&laidKept (boot_heap w.params) r.2.1.abs.heap),
    openSeen q1 my (importedModules pw.main.body) (λ_=>true) true r.2.1.abs,SQ r.2.1.abs)))=some (.next,(hC,I6),(true,openGood q1 my,lp)):=
 SS (tw (xE w os)) (pY (tw (lq (xE w os))) (pY (tw (lq (lq (xE w os)))) (pY (tw (Mm w os)) (pY (pY (SR 36 (tw (Mn w os)) (SU w os)) (lq (Mm w os))) (pY (lq (lq (lq (xE w os)))) (lq (Mn w os)))))))
end aZ
section
set_option autoImplicit false
set_option maxRecDepth 1000000
namespace aZ
open PySem PySem.W PySem.Calls PyProof.Rows Lw
theorem Mo:LeftO pw q1 my (λ_=>true) SQ (λ_=>lp) (12+(1+(5423+2))):=
 IW (env:=qV) (c:=hC) (p0:=p0) (pos:=I6) (a:=12) (k:=1) (m:=5423) (n₀:=11) (ann:=ann) (Sa:=Sa) (Sb:=Sb) rfl IZ D6 IY rfl (λw os=>N8 (Oa w os)) (λw os=>N9 (D5 w os)) IX Ob
  (λw os=>by rw[PySem.W.Fast.te10110043849684766642,PySem.W.Fast.te14364793385576792824];exact Oc w os)
end aZ
namespace Lw
open PySem PySem.W PySem.Calls PyProof.Rows aZ
structure SV where
 w:Y3
 h:yi
 os:yO
 ok:vD h=lp
theorem D7:Nonempty SV:=by let w:World:=aWorld 0;obtain⟨s,_,e⟩:=Zk.mp (Mo w);exact⟨w,s.heap,s.os,congrArg (·.2) e⟩
def Claim(x:SV):Prop:=∀(s:zt) (l:zJ) (ts:List (Int×Tok)) (E:zo->zt->Prop),s.os=x.os->(∀b o,x.h.get? b=some o->s.heap.get? b=some o)->s.gens=#[]->
 s.heap.get? l=some {cls:=.type "list",data:=.seq (ts.map λp=>aef p.1 p.2).toArray 0}->ts.length<=63->
 zx (zv pw x.w) callerA (call (.ref (L.i8 eE)) [.ref l]) (λv s'=>v=.bool true/\(∀b o,s.heap.get? b=some o->s'.heap.get? b=some o)/\s'.os=s.os/\s'.gens=#[]) E s
@[irreducible] def it:SV:=@Classical.epsilon SV D7 λx=>¬Claim x
theorem Od(h:Claim it)(x:SV):Claim x:=Classical.byContradiction λhx=>by
 unfold it at h;exact Classical.epsilon_spec (p:=λx=>¬Claim x) ⟨x,hx⟩ h
@[irreducible] def prog:Program:=pw
@[irreducible] def w:World:=it.w
theorem dU:vD it.h=lp:=it.ok
theorem D8:(it.h.get? sysModules).isSome=true:=congrArg (·.1.1) dU
@[irreducible] def T:Txt:=L.txt it.h it.os D8
end Lw
end
namespace aZ
open PySem PySem.W
noncomputable abbrev oM:OpenLaw:=PySem.Challenge.rw_nz0398_01
theorem lk3:namesResolve oM.prog=true:=by rw[PySem.W.Fast.te8377067652309620493];kernel_rfl
theorem lk5:noRoadLSs {strict:=!(importedModules oM.prog.main.body).all cThrough.contains,foot:=none,bare:=(["vars","dir","locals"]:List Str).filter (readsOut oM.prog oM.prog.main.body)} oM.prog.main.body=true:=by kernel_rfl
theorem lk6:(namesMeet oM.prog oM.prog.main.body λ_ n=>attrL n)=true:=by kernel_rfl
theorem Oe:looksOpen oM.prog=true:=by
 unfold looksOpen;rw[lk3,lk5,lk6]
 kernel_rfl
theorem SW:oM.row.partSaid=true:=by
 unfold OpenRow.partSaid;rw[show looksOpen oM.row.prog=true from Oe]
 kernel_rfl
theorem SX:oM.wellSaid=true:=by
 unfold OpenLaw.wellSaid OpenRow.wellSaid;rw[SW]
 kernel_rfl
end aZ
namespace aZ
open PySem PySem.W PySem.Calls PyProof.Rows Lw
variable{α β:Type}
theorem SY:oM.row.prog.bare:=⟨rfl,rfl,rfl,rfl,rfl,by decide+kernel⟩
theorem ok1:(chainsOk q1&&opensWell oM.row.prog&&(frees oM.row.toRowW&&oM.row.toRowW.within.isEmpty))=true:=by kernel_rfl
end aZ
namespace Lw
open PySem PySem.Calls PyProof.Rows PySem.W
variable{h h':yi}{s s' az:zt}{env:Zj}{pos p pf pa p1:Pos}{m x n' i j cl ep:Nat}{ov:Option zo}{α β:Type}{xl:List Str}
section
set_option genInjectivity true
inductive Role where
 |free |sys |aM |fr |exc
 |own (i:Nat)
 |g (n:Nat) (k:Bool)
noncomputable def Role.ctorIdx:Role->Nat
 |.free=>0 |.sys=>1 |.aM=>2 |.fr=>3 |.exc=>4 |.own _=>5 |.g _ _=>6
deriving instance DecidableEq for Role
abbrev Role.Rz:=Role.ctorIdx
theorem bA{R:zJ->Role}{a:zJ}{x y:Role}(r:R a=x)(h:(x.Rz==y.Rz)=false):R a≠y:=λe=>by rw[←r,e,beq_self_eq_true] at h;exact nomatch h
theorem rno{R:zJ->Role}{a:zJ}{x y:Role}{P:Prop}(r:R a=x)(q:R a=y)(h:(x.Rz==y.Rz)=false):P:=absurd q (bA r h)
abbrev cT:=zJ->Option Obj
noncomputable def lk(R:zJ->Role)(h:yi):cT:=λa=>if R a=.free then h.get? a else none
abbrev Sub(L L':cT):Prop:=∀b o,L b=some o->L' b=some o
theorem aw{R:zJ->Role}{a:zJ}{o:Obj}(e:lk R h a=some o):R a=.free/\h.get? a=some o:=by
 unfold lk at e;by_cases q:R a=.free
 ·rw[if_pos q] at e;exact⟨q,e⟩
 ·rw[if_neg q] at e;exact nomatch e
theorem aB{R:zJ->Role}{a:zJ}{o:Obj}(q:R a=.free)(e:h.get? a=some o):lk R h a=some o:=by unfold lk;exact gR (if_pos q ..) e
theorem cM(R:zJ->Role)(h:yi):Sub (lk R h) h.get?:=λ_ _ e=>(aw e).2
inductive aA where
 |i (n:Int)
 |s (x:Str)
noncomputable def aA.ctorIdx:aA->Nat
 |.i _=>0 |.s _=>1
deriving instance DecidableEq for aA
noncomputable def mz:aA->zo->Bool
 |.i n,.int m _=>n==m
 |.s x,.str y _=>x==y
 |_,_=>false
noncomputable def aV:aA->D
 |.i n=>.int n
 |.s x=>.str x
section
noncomputable abbrev fJ(vs:List zo)(n:Nat):Obj:={cls:=.type "tuple",data:=.seq vs.toArray n}
noncomputable abbrev aO(vs:List zo)(n:Nat):Obj:={cls:=.type "list",data:=.seq vs.toArray n}
def xF(L:cT)(a:zJ)(ps:List (Str×zo)):Prop:=
 ∃o es ep,L a=some o/\o.ExactDict/\o.data=.dict es ep/\KeysOf (strKind prog w) es/\Pairs (strKind prog w) es.toList ps/\(ps.map (·.1)).Nodup
mutual
noncomputable def DR(L:cT):D->zo->Prop
 |.none,v=>v=.none
 |.bool b,v=>v=.bool b
 |.int i,v=>∃t,v=.int i t
 |.str x,v=>Zh x=true/\∃t,v=.str x t
 |.tuple xs,v=>mi λa vs n=>aG (v=.ref a) (L a=some (fJ vs n)) (aU L xs vs)
 |.list xs,v=>mi λa vs n=>aG (v=.ref a) (L a=some (aO vs n)) (aU L xs vs)
 |.dict bT,v=>c8 λa ps=>dQ (v=.ref a) ((a==sysModules)=false) (xF L a ps) (iL L bT ps)
noncomputable def aU(L:cT):List D->List zo->Prop
 |[],vs=>vs=[]
 |x::r,vs=>c8 λv t=>aG (vs=v::t) (DR L x v) (aU L r t)
noncomputable def iL(L:cT):List (D×D)->List (Str×zo)->Prop
 |[],ps=>ps=[]
 |(k,x)::r,ps=>mi λs v t=>dQ (ps=(s,v)::t) (k=.str s) (DR L x v) (iL L r t)
end
theorem xF.sub{L L':cT}(k:Sub L L'){a:zJ}{ps:List (Str×zo)}(h:xF L a ps):xF L' a ps:=
 let⟨o,es,ep,ho,r⟩:=h;⟨o,es,ep,k _ _ ho,r⟩
mutual
theorem DR.sub{L L':cT}(k:Sub L L'):∀{p:D} {v:zo},DR L p v->DR L' p v
 |.none,_,h=>by exact h
 |.bool _,_,h=>by exact h
 |.int _,_,h=>by exact h
 |.str _,_,h=>by exact h
 |.tuple _,_,h=>by
  obtain⟨a,vs,n,e,g,r⟩:=h;exact⟨a,vs,n,e,k _ _ g,aU.sub k r⟩
 |.list _,_,h=>by
  obtain⟨a,vs,n,e,g,r⟩:=h;exact⟨a,vs,n,e,k _ _ g,aU.sub k r⟩
 |.dict _,_,h=>by
  obtain⟨a,ps,I7⟩:=h;exact⟨a,ps,I7.1,I7.2,I7.3.sub k,iL.sub k I7.4⟩
theorem aU.sub{L L':cT}(k:Sub L L'):∀{l:List D} {vs:List zo},aU L l vs->aU L' l vs
 |[],_,h=>by exact h
 |_::_,_,h=>by
  obtain⟨v,t,vE⟩:=h;exact⟨v,t,vE.1,vE.2.sub k,vE.3.sub k⟩
theorem iL.sub{L L':cT}(k:Sub L L'):∀{l:List (D×D)} {ps:List (Str×zo)},iL L l ps->iL L' l ps
 |[],_,h=>by exact h
 |(_,_)::_,_,h=>by
  obtain⟨s,v,t,I9⟩:=h;exact⟨s,v,t,I9.1,I9.2,I9.3.sub k,I9.4.sub k⟩
end
theorem aU.length{L:cT}:∀{l:List D} {vs:List zo},aU L l vs->vs.length=l.length
 |[],_,h=>gR h rfl
 |_::r,_,h=>by
  obtain⟨v,t,S1⟩:=h;exact gR S1.1 (gR yh (gR yh (gR (aU.length S1.3 ..) rfl)))
theorem aU.get{L:cT}:∀{l:List D} {vs:List zo} {i:Nat} {p:D},aU L l vs->l[i]? =some p->∃v,vs[i]? =some v/\DR L p v
 |[],_,i,p,h,e=>by simp at e
 |x::r,_,i,p,h,e=>by
  obtain⟨v,t,jx,a,b⟩:=h;refine gR jx ?_;cases i with
  |zero=>simp at e;subst e;exact⟨v,rfl,a⟩
  |succ j=>simp at e;simpa using aU.get b e
theorem aU.Ja{L:cT}:∀{l:List D} {vs:List zo} {i:Nat} {v:zo},aU L l vs->vs[i]? =some v->∃p,l[i]? =some p/\DR L p v
 |[],_,i,p,h,e=>by subst h;simp at e
 |x::r,_,i,p,h,e=>by
  obtain⟨v,t,rfl,a,b⟩:=h;cases i with
  |zero=>simp at e;subst e;exact⟨x,rfl,a⟩
  |succ j=>simp at e;simpa using aU.Ja b e
theorem aU.append{L:cT}:∀{l l':List D} {vs fR:List zo},aU L l vs->aU L l' fR->aU L (l++l') (vs++fR)
 |[],_,_,_,h,h'=>gR h h'
 |x::r,_,_,_,h,h'=>by
  obtain⟨v,t,qW,a,b⟩:=h;refine gR qW ?_;exact⟨v,_,rfl,a,aU.append b h'⟩
theorem aU.one{L:cT}{p:D}{v:zo}(h:DR L p v):aU L [p] [v]:=⟨v,[],rfl,h,rfl⟩
theorem aU.nil{L:cT}:aU L [] []:=rfl
theorem aU.cons{L:cT}{p:D}{v:zo}{l:List D}{vs:List zo}(h:DR L p v)(t:aU L l vs):aU L (p::l) (v::vs):=⟨v,vs,rfl,h,t⟩
theorem aU.take{L:cT} n:∀{l:List D} {vs:List zo},aU L l vs->aU L (l.take n) (vs.take n):=by
 induction n with
 |zero=>intro l vs _;exact rfl
 |succ n ih=>
  intro l vs h;cases l with
  |nil=>obtain rfl:_=_:=h;exact rfl
  |cons x r=>
   obtain⟨v,t,j9,a,b⟩:=h;refine gR j9 ?_;exact .cons a (ih b)
theorem aU.drop{L:cT} n:∀{l:List D} {vs:List zo},aU L l vs->aU L (l.drop n) (vs.drop n):=by
 induction n with
 |zero=>intro l vs h;simpa using h
 |succ n ih=>
  intro l vs h;cases l with
  |nil=>obtain rfl:_=_:=h;exact rfl
  |cons x r=>
   obtain⟨v,t,qX,a,b⟩:=h;refine gR qX ?_;exact ih b
mutual
theorem DR.eP{L L':cT}{P:zJ->Prop}(k:∀b o,¬P b->L b=some o->L' b=some o)(hd:∀b o,P b->L b=some o->o.cls=.type "dict"):
  ∀{p:D} {v:zo},nodict p=true->DR L p v->DR L' p v
 |.none,_,_,h=>by exact h
 |.bool _,_,_,h=>by exact h
 |.int _,_,_,h=>by exact h
 |.str _,_,_,h=>by exact h
 |.tuple _,_,n,h=>by
  obtain⟨b,vs,m,e,g,r⟩:=h;refine⟨b,vs,m,e,k _ _ (λq=>?_) g,aU.eP k hd n r⟩;have:=hd _ _ q g;simp at this
 |.list _,_,n,h=>by
  obtain⟨b,vs,m,e,g,r⟩:=h;refine⟨b,vs,m,e,k _ _ (λq=>?_) g,aU.eP k hd n r⟩;have:=hd _ _ q g;simp at this
 |.dict _,_,n,_=>(zi n).elim
theorem aU.eP{L L':cT}{P:zJ->Prop}(k:∀b o,¬P b->L b=some o->L' b=some o)(hd:∀b o,P b->L b=some o->o.cls=.type "dict"):
  ∀{l:List D} {vs:List zo},bK l=true->aU L l vs->aU L' l vs
 |[],_,_,h=>by exact h
 |_::_,_,n,h=>by
  have n:=aa n;obtain⟨v,t,vE⟩:=h;exact⟨v,t,vE.1,DR.eP k hd n.1 vE.2,aU.eP k hd n.2 vE.3⟩
end
mutual
theorem DR.reads:∀{p:D} {v:zo},nodict p=true->DR h.get? p v->∃as,Reads h v p as
 |.none,_,_,h=>by subst h;exact⟨_,.none⟩
 |.bool _,_,_,h=>by subst h;exact⟨_,.bool _⟩
 |.int _,_,_,h=>by obtain⟨t,rfl⟩:=h;exact⟨_,.int _ _⟩
 |.str _,_,_,h=>by obtain⟨_,t,rfl⟩:=h;exact⟨_,.str _ _⟩
 |.tuple _,_,n,h=>by
  obtain⟨b,vs,m,rfl,g,r⟩:=h;obtain⟨as,z⟩:=aU.reads n r;exact⟨_,.tuple g rfl rfl (by simpa using z)⟩
 |.list _,_,n,h=>by
  obtain⟨b,vs,m,rfl,g,r⟩:=h;obtain⟨as,z⟩:=aU.reads n r;exact⟨_,.list g rfl rfl (by simpa using z)⟩
 |.dict _,_,n,_=>(zi n).elim
theorem aU.reads:∀{l:List D} {vs:List zo},bK l=true->aU h.get? l vs->∃as,ReadsAll h vs l as
 |[],_,_,h=>by subst h;exact⟨_,.nil⟩
 |_::_,_,n,h=>by
  have n:=aa n;obtain⟨v,t,rfl,a,b⟩:=h;obtain⟨as,z⟩:=DR.reads n.1 a;obtain⟨bs,y⟩:=aU.reads n.2 b;exact⟨_,.cons z y⟩
end
mutual
theorem DR.e8{L:cT}:∀{p:D} {v:zo},nodict p=true->DR L p v->p.canLay0=true
 |.none,_,_,_=>rfl
 |.bool _,_,_,_=>rfl
 |.int _,_,_,_=>rfl
 |.str _,_,_,h=>by exact h.1
 |.tuple _,_,n,h=>by
  obtain⟨b,vs,m,ab3⟩:=h;simp only[PyData.canLay0];exact aU.e8 n ab3.3
 |.list _,_,n,h=>by
  obtain⟨b,vs,m,rfl,g,r⟩:=h;simp only[PyData.canLay0];exact aU.e8 n r
 |.dict _,_,n,_=>(zi n).elim
theorem aU.e8{L:cT}:∀{l:List D} {vs:List zo},bK l=true->aU L l vs->ad6 l=true
 |[],_,_,_=>rfl
 |_::_,_,n,h=>by
  have n:=aa n;obtain⟨v,t,S5⟩:=h;simp only[ad6,zY];exact⟨DR.e8 n.1 S5.2,aU.e8 n.2 S5.3⟩
end
end
end
end Lw
namespace Lw
open PySem PySem.Calls PyProof.Rows PySem.W aZ
theorem mB{v:zo}{x:Str}(h:DW v=some x):Zh x=true/\∃t,v=.str x t:=by
 cases v with
 |str y t=>refine zg (λh1 qY=>?_) (qO h);refine gL qY ?_;exact⟨h1,t,rfl⟩
 |_=>exact ns h
theorem tx{Lk:cT}{vs:List zo}{l:List Str}(h:vB vs=some l):aU Lk (l.map .str) vs:=by
 induction vs generalizing l with
 |nil=>exact zh h▸rfl
 |cons v r ih=>
  refine ze (bind_some h) λx vF=>?_;refine zg (λh1 h2=>?_) vF;refine ze (map_some h2) λl' BN=>?_;refine zg (λh3 kh=>?_) BN;refine gL kh ?_;exact⟨v,r,rfl,mB h1,ih h3⟩
theorem BO{o:Obj}{vs:List zo}(h:SG o=some vs):o=fJ vs 0:=by
 obtain⟨c,dt,d,sl⟩:=o;cases c with
 |type c=>
  cases dt with
  |none=>
   cases d with
   |seq a n=>
    cases n with
    |zero=>
     obtain⟨l⟩:=sl;cases l with
     |nil=>
      obtain⟨rfl,rfl⟩:c="tuple"/\a.toList=vs:=DK h;rfl
     |cons=>exact ns h
    |succ=>exact ns h
   |_=>exact ns h
  |some=>exact ns h
 |_=>exact ns h
theorem vG{h:yi}{v:zo}{d:D}(e:xD h v=some d):DR h.get? d v:=by
 cases v with
 |ref a=>
  refine ze (bind_some e) λvs kj=>?_;refine zg (λe1 e2=>?_) kj;refine ze (map_some e2) λl hX=>?_;refine zg (λe3 D9=>?_) hX;refine gL D9 ?_;refine ze (bind_some e1) λo km=>?_;refine zg (λe4 e5=>?_) km;exact⟨a,vs,0,rfl,e4.trans (congrArg some (BO e5)),tx e3⟩
 |str x t=>refine ze (map_some e) λy j9=>?_;refine zg (λe1 jx=>?_) j9;refine gL jx ?_;exact mB e1
 |_=>exact ns e
theorem jy:∀{l:List Str} {n:Nat},lU n l=true->(∀s∈l,(∀c∈s.cps.toList,c<1114112)/\n<codeOf s.cps.toList+1)/\∀(i j:Nat) (s t:Str),l[i]? =some s->l[j]? =some t->codeOf s.cps.toList=codeOf t.cps.toList->i=j
 |[],_,_=>⟨λ_ h=>(nomatch h),λi j s t h=>(by cases h)⟩
 |a::r,n,h=>by
  obtain⟨h,h3⟩:=aa h;refine zg (λh1 h2=>?_) (aa h);refine zg (λi1 i2=>?_) (jy h3);have h2':n<codeOf a.cps.toList+1:=yd h2;refine⟨λs hs=>?_,λi j s t hi hj e=>?_⟩
  ·rcases zK.mp hs with rfl |hs
   ·exact⟨λc hc=>yd (zC.mp h1 c hc),h2'⟩
   ·exact⟨(i1 s hs).1,ZA h2' (i1 s hs).2⟩
  ·cases i with
   |zero=>
    cases j with
    |zero=>rfl
    |succ j=>
     simp only[yE,Yp,yF] at hi hj;subst hi;have:=(i1 t (zy hj)).2;omega
   |succ i=>
    cases j with
    |zero=>
     simp only[yE,Yp,yF] at hi hj;subst hj;have:=(i1 s (zy hi)).2;omega
    |succ j=>
     simp only[yF] at hi hj;exact gR (i2 i j s t hi hj e ..) rfl
set_option tactic.hygienic true in
theorem Of{L:Iw}(h:lU 0 L.names=true):∀x y,L.nm x=L.nm y->x=y:=by
 refine zg (λh1 h2=>?_) (jy h);intro x y e;unfold Iw.nm at e;have big:∀s k,s∈L.names->s=⟨#[1114112+k]⟩->False:=λs k hs e=>by
  have:=(h1 s hs).1 (1114112+k) (by refine gR e ?_;simp);exact yK (zu ..) this
 split at e
 ·rename_i s hs
  split at e
  ·rename_i t ht
   subst e;exact h2 x y s s hs ht rfl
  ·exact(big _ _ (zy hs) e).elim
 ·split at e
  ·rename_i t ht
   exact(big _ _ (zy ht) e.symm).elim
  ·simp only[Str.mk.injEq,Array.mk.injEq,aeg] at e
   exact y9 e.1
set_option tactic.hygienic true in
theorem lookup_mem{α β:Type}[BEq α][LawfulBEq α]{a:α}{b:β}:∀{l:List (α×β)},l.lookup a=some b->(a,b)∈l
 |[],h=>by cases h
 |(x,y)::r,h=>by
  rw[adn] at h
  split at h
  ·rename_i e;obtain rfl:=zh h;refine gR (beq_iff_eq.mp e ..) ?_;exact .head _
  ·exact .tail _ (lookup_mem h)
theorem up1:lU 0 L.names=true:=by kernel_rfl
theorem Og{α β:Type}{o:Option α}{f g:α->β}{x:α}(e:o.map f=o.map g)(h:o=some x):f x=g x:=by subst h;exact zh e
theorem e9{α β:Type}{l:List α}{f g:α->β}(e:l.map f=l.map g){x:α}(h:x∈l):f x=g x:=List.map_inj_left.mp e x h
structure S6(T:Txt):Prop where
 glob:c8 λmg mb=>dQ (T.top.Ns mainGlobals mg) (T.top.Ns builtinsNs mb) (∀p∈dc,mg p.1=none/\mb p.1=some p.2) (∀x p,T.tb.gk x=some p->∃v,mg (T.tb.nm x)=some v/\DR T.top.get? p v)
 eY:∀c x,T.tb.eY c x=true->(∃cd,clsIn T.K (T.cls c)=some cd/\cd.hasDict=true)/\Z7 T.K (.ref (T.cls c)) (T.tb.nm x)=some none/\
  Z7 T.K (.ref (T.cls c)) "__getattribute__"=some (some (.builtin "object.__getattribute__"))/\
  Z7 T.K (.ref (T.cls c)) "__setattr__"=some (some (.builtin "object.__setattr__"))/\plainOver T.K (T.cls c)=true
 inj:∀x y,T.tb.nm x=T.tb.nm y->x=y
 xA:∀f x,(f,x)∈T.xA->(∃mg,T.top.Ns mainGlobals mg/\mg (T.tb.nm x)=some (.ref (T.fa f)))/\keepIn T.K (.ref (T.fa f))=true
 BK:∀c x,(c,x)∈T.BK->(∃mg,T.top.Ns mainGlobals mg/\mg (T.tb.nm x)=some (.ref (T.cls c)))/\keepIn T.K (.ref (T.cls c))=true/\makesIn T.K (T.cls c)=true/\
  ∀f,T.tb.init c=some f->Z7 T.K (.ref (T.cls c)) "__init__"=some (some (.ref (T.fa f)))/\typeIn T.K (.ref (T.fa f))=some (.type "function")
 vA:∀c m f,(c,m,f)∈T.vA->Z7 T.K (.ref (T.cls c)) (T.tb.nm m)=some (some (.ref (T.fa f)))/\typeIn T.K (.ref (T.fa f))=some (.type "function")/\
  Z7 T.K (.ref (T.cls c)) "__getattribute__"=some (some (.builtin "object.__getattribute__"))/\Z7 T.K (.ref (T.cls c)) "__getattr__"=some none/\keepIn T.K (.ref (T.fa f))=true
 lim:T.top.NoLimit
 Oh:nsIn T.K cStatics "thirdparty.any"=some none
theorem tT:T=L.txt it.h it.os D8:=by unfold T;rfl
theorem Mp{p:Str×zo}(h:p∈dc):(it.h.nsMap mainGlobals p.1,it.h.nsMap builtinsNs p.1)=(none,some p.2):=e9 (f:=λp:Str×zo=>(it.h.nsMap mainGlobals p.1,it.h.nsMap builtinsNs p.1)) (g:=λp=>(none,some p.2)) (congrArg (·.2.1.1) dU) h
theorem ab4{x:Nat}{p:D}(h:L.gk.lookup x=some p):(it.h.nsMap mainGlobals (L.nm x)).bind (xD it.h)=some p:=e9 (f:=λp:Nat×D=>(it.h.nsMap mainGlobals (L.nm p.1)).bind (xD it.h)) (g:=λp=>some p.2) (congrArg (·.2.1.2) dU) (lookup_mem h)
theorem S7{p:Nat×Nat}(h:L.eY.contains p=true):SJ L it.h p=N4:=e9 (g:=λ_=>N4) (congrArg (·.2.2.1.1) dU) (zz.mp h)
theorem S8{p:Nat×Nat}(h:p∈L.xA):(it.h.nsMap mainGlobals (L.nm p.2),keepIn (K L it.h) (.ref (L.i8 p.1)))=(some (Zm (L.i8 p.1)),true):=e9 (f:=λp:Nat×Nat=>(it.h.nsMap mainGlobals (L.nm p.2),keepIn (K L it.h) (.ref (L.i8 p.1)))) (g:=λp=>(some (Zm (L.i8 p.1)),true)) (congrArg (·.2.2.1.2.1) dU) h
theorem S9{p:Nat×Nat}(h:p∈L.BK):nwO L it.h p=nwG L p:=e9 (congrArg (·.2.2.1.2.2.1) dU) h
theorem Ta{p:Nat×Nat×Nat}(h:p∈L.vA):mtO L it.h p=mtG L p:=e9 (congrArg (·.2.2.1.2.2.2) dU) h
theorem tok:S6 T:=by
 refine gR tT ?_;have g:it.h.Ns mainGlobals (it.h.nsMap mainGlobals):=.of_isNs (congrArg (·.1.2.1) dU);exact⟨⟨_,_,g,.of_isNs (congrArg (·.1.2.2.1) dU),λp hp=>⟨congrArg (·.1) (Mp hp),congrArg (·.2) (Mp hp)⟩,λx p hx=>(bind_some (ab4 hx)).imp λv h=>⟨h.1,vG h.2⟩⟩,
  λc x ha=>let e:=S7 ha;⟨map_some (congrArg (·.1) e),congrArg (·.2.1) e,congrArg (·.2.2.1) e,congrArg (·.2.2.2.1) e,congrArg (·.2.2.2.2) e⟩,
  Of up1,
  λf x hx=>let e:=S8 hx;⟨⟨_,g,congrArg (·.1) e⟩,congrArg (·.2) e⟩,
  λc x hx=>let e:=S9 hx;⟨⟨_,g,congrArg (·.1) e⟩,congrArg (·.2.1) e,congrArg (·.2.2.1) e,λf hf=>let z:=Og (congrArg (·.2.2.2) e) hf;⟨congrArg (·.1) z,congrArg (·.2) z⟩⟩,
  λc m f hx=>let e:=Ta hx;⟨congrArg (·.1) e,congrArg (·.2.1) e,congrArg (·.2.2.1) e,congrArg (·.2.2.2.1) e,congrArg (·.2.2.2.2) e⟩,
  ⟨_,.of_isNs (congrArg (·.1.2.2.2.1) dU),congrArg (·.1.2.2.2.2.1) dU⟩,
  congrArg (·.1.2.2.2.2.2) dU⟩
end Lw
namespace Lw
open PySem PySem.Calls PyProof.Rows PySem.W
variable{h h':yi}{s s' az:zt}{env:Zj}{pos p pf pa p1:Pos}{a b i1 i2 z ax a1 a2 S ti to I dd:zJ}{m x n' i j cl ep:Nat}{y q r:D}{P ng:Prop}{o:Obj}{L L':cT}{ps binds:List (Str×zo)}{v u v1:zo}{vs ws vals rest:List zo}{ov:Option zo}{α β:Type}{l':List D}{xl:List Str}
theorem cJ{n:Int}(h:mz (.i n) v=true):∃t,v=.int n t:=by
 cases v with
 |int m t=>exact⟨t,by exact gR (beq_iff_eq.mp h ..) rfl⟩
 |_=>exact(zi h).elim
theorem cg{x:Str}(h:mz (.s x) v=true):∃t,v=.str x t:=by
 cases v with
 |str m t=>exact⟨t,by exact gR (beq_iff_eq.mp h ..) rfl⟩
 |_=>exact(zi h).elim
set_option tactic.hygienic true in
def aE:KeyKind prog w aA where
 is:=mz
 hash:=λ|.i n=>hashInt n |.s x=>hashStr w x
 inj:=by
  intro v a b ha hb;cases a <;> cases b
  ·obtain⟨t,rfl⟩:=cJ ha;obtain⟨u,e⟩:=cJ hb;cases e;rfl
  ·obtain⟨t,rfl⟩:=cJ ha;obtain⟨u,e⟩:=cg hb;cases e
  ·obtain⟨t,rfl⟩:=cg ha;obtain⟨u,e⟩:=cJ hb;cases e
  ·obtain⟨t,rfl⟩:=cg ha;obtain⟨u,e⟩:=cg hb;cases e;rfl
 byValue:=by
  intro k v h;cases k
  ·obtain⟨t,rfl⟩:=cJ h;rfl
  ·obtain⟨t,rfl⟩:=cg h;rfl
 pyHash:=by
  intro A E s k v Q h q;cases k
  ·obtain⟨t,rfl⟩:=cJ h;exact wpAny_pyHash_int q
  ·obtain⟨t,rfl⟩:=cg h;exact wpAny_pyHash_str q
 eqBool:=by
  intro A E s a b u v Q ha hb q;cases a <;> cases b
  ·obtain⟨t,rfl⟩:=cJ ha;obtain⟨t',rfl⟩:=cJ hb
   refine wpAny_eqBool_int ?_;rename_i x y;have:(x==y)=decide (aA.i x=aA.i y):=by by_cases e:x=y <;> simp[e]
   refine gR (this ..) ?_;exact q
  ·obtain⟨t,rfl⟩:=cJ ha;obtain⟨t',rfl⟩:=cg hb
   exact PySem.SeqAt.EqAt.int_str _ _ _ _ prog w E Q (by simpa using q)
  ·obtain⟨t,rfl⟩:=cg ha;obtain⟨t',rfl⟩:=cJ hb
   exact PySem.SeqAt.EqAt.str_int _ _ _ _ prog w E Q (by simpa using q)
  ·obtain⟨t,rfl⟩:=cg ha;obtain⟨t',rfl⟩:=cg hb
   refine wpAny_eqBool_str ?_;rename_i x y;have:decide (x=y)=decide (aA.s x=aA.s y):=by by_cases e:x=y <;> simp[e]
   refine gR (this ..) ?_;exact q
 «strs»:=by
  intro k x t v h;cases k
  ·cases h
  ·obtain⟨u,e⟩:=cg h
   cases e;cases v with
   |str y u=>exact BEq.comm
   |_=>rfl
structure Gh where
 R:zJ->Role
 own:Nat->zJ
 aI:Nat->zJ×zJ
section
def cN(γ:Gh)(len:Nat)(h:yi):AV->zo->Prop
 |.d p,v=>DR (lk γ.R h) p v
 |.o n,v=>v=.ref (γ.aI n).1/\n<len
 |.w _,_=>False
noncomputable def iU(γ:Gh)(len:Nat)(h:yi):List (D×AV)->List (Str×zo)->Prop
 |[],ps=>ps=[]
 |(k,x)::r,ps=>mi λs v t=>eX (ps=(s,v)::t) (k=.str s) (Zh s=true) (cN γ len h x v) (iU γ len h r t)
noncomputable def jo(γ:Gh)(len:Nat)(h:yi):List (D×AV)->List (List aA×zJ×zo)->Prop
 |[],xs=>xs=[]
 |(k,x)::r,xs=>NN λks a v t=>eX (xs=(ks,a,v)::t) (k=.tuple (ks.map aV)) (DR (lk γ.R h) (.tuple (ks.map aV)) (.ref a)) (cN γ len h x v) (jo γ len h r t)
noncomputable def oN(γ:Gh)(len:Nat)(h:yi):List (Nat×AV)->List (Str×zo)->Prop
 |[],ps=>ps=[]
 |(k,x)::r,ps=>c8 λv t=>aG (ps=(T.tb.nm k,v)::t) (cN γ len h x v) (oN γ len h r t)
def dW(γ:Gh)(len:Nat)(h:yi)(n:Nat):bW->Prop
 |.list l=>γ.R (γ.aI n).1=.g n false/\c8 λvs k=>h.get? (γ.aI n).1=some (aO vs k)/\aU (lk γ.R h) l vs
 |.dict es=>γ.R (γ.aI n).1=.g n false/\
   ((∃ps,h.DictOf (strKind prog w) (γ.aI n).1 ps/\iU γ len h es ps)\/(∃xs,h.DictOfH (tupleKind (aE)) (γ.aI n).1 xs/\jo γ len h es xs))
 |.inst c fs=>γ.R (γ.aI n).1=.g n false/\γ.R (γ.aI n).2=.g n true/\h.get? (γ.aI n).1=some (instObj (T.cls c) (γ.aI n).2)/\
   ∃ps,h.DictOf (strKind prog w) (γ.aI n).2 ps/\oN γ len h fs ps
structure aS(γ:Gh)(g:G)(s:zt):Prop where
 objs:∀n o,g[n]? =some o->dW γ g.length s.heap n o
 live:∀a,γ.R a≠.free->(s.heap.get? a).isSome
 top:∀a o,T.top.get? a=some o->γ.R a=.free/\s.heap.get? a=some o
 os:s.os=T.os
 gens:s.gens=#[]
structure Fx where
 env:Zj
 lay:List (Nat×Str×Option zJ)
 mine:Str->Bool
 out:List zJ
def aJ(γ:Gh)(len:Nat)(h:yi)(ov:Option zo)(i:Nat):Slot->Prop
 |.un=>True
 |.v a=>∃v,ov=some v/\cN γ len h a v
 |.ol l=>ov=some (.ref (γ.own i))/\γ.R (γ.own i)=.own i/\c8 λvs k=>h.get? (γ.own i)=some (aO vs k)/\aU (lk γ.R h) l vs
 |.ro l=>ov=some (.ref (γ.own i))/\γ.R (γ.own i)=.aM/\c8 λvs k=>h.get? (γ.own i)=some (aO vs k)/\aU (lk γ.R h) l vs
 |.od bT=>ov=some (.ref (γ.own i))/\γ.R (γ.own i)=.own i/\∃ps,h.DictOf (strKind prog w) (γ.own i) ps/\iL (lk γ.R h) bT ps
structure vH(fx:Fx)(γ:Gh)(e:Env)(len:Nat)(h:yi):Prop where
 ns:∃m,aG (h.Ns fx.env.locals m) (γ.R fx.env.locals=.sys) (∀i x,(i,x,none)∈fx.lay->∀sl,e[i]? =some sl->aJ γ len h (m x) i sl)
 cells:∀i x a,(i,x,some a)∈fx.lay->∃ov,aG (h.IsCell a ov) ((γ.R a=.sys\/γ.R a=.fr)/\(fx.mine x=true->γ.R a=.sys)) (∀sl,e[i]? =some sl->aJ γ len h ov i sl)
 out:∀a∈fx.out,γ.R a=.fr/\∃m,h.Ns a m
end
def bJ(o o':Obj):Prop:=∃sl,o'={o with slots:=sl}/\((c8 λxs n=>o.data=.seq xs n)->sl=o.slots)
theorem bJ.refl(o:Obj):bJ o o:=⟨o.slots,rfl,λ_=>rfl⟩
theorem bJ.trans{o' Iy:Obj}(x:bJ o o')(y:bJ o' Iy):bJ o Iy:=by obtain⟨sl,rfl,k⟩:=x;refine ze y λfc Tc=>(zg (λEa k'=>?_) Tc);refine gR Ea ?_;exact⟨fc,rfl,λe=>(k' e).trans (k e)⟩
theorem bJ.list{o o':Obj}(x:bJ o o')(h:c8 λxs n=>o.data=.seq xs n):o'=o:=by refine ze x λsl Td=>(zg (λTe k=>?_) Td);refine gR Te ?_;exact gR (k h ..) rfl
theorem bJ.ns{m:Str->Option zo}(k:∀o,h.get? a=some o->∃o',h'.get? a=some o'/\bJ o o')(x:h.Ns a m):h'.Ns a m:=by refine ze x λo Tf=>(ze Tf λes tA=>(ze tA λep tB=>(zg (λho Tg=>?_) tB)));refine zg (λhd r=>?_) Tg;refine ze (k o ho) λ_ Eb=>?_;obtain⟨fK,sl,rfl,_⟩:=Eb;exact⟨_,es,ep,fK,hd,r⟩
theorem bJ.cell{v:Option zo}(k:∀o,h.get? a=some o->∃o',h'.get? a=some o'/\bJ o o')(x:h.IsCell a v):h'.IsCell a v:=by refine ze x λo Ec=>(zg (λho hd=>?_) Ec);refine ze (k o ho) λ_ Th=>?_;obtain⟨fK,sl,rfl,_⟩:=Th;exact⟨_,fK,hd⟩
structure ak(γ:Gh)(n:Nat)(h:yi)(γ':Gh)(n':Nat)(h':yi):Prop where
 j7:∀a o,γ.R a=.free->h.get? a=some o->γ'.R a=.free/\h'.get? a=some o
 aM:∀a o,γ.R a=.aM->h.get? a=some o->γ'.R a=.aM/\h'.get? a=some o
 len:n<=n'
 aI:∀k,k<n->γ'.aI k=γ.aI k
 fr:∀a o,γ.R a=.fr->h.get? a=some o->γ'.R a=.fr/\∃o',h'.get? a=some o'/\bJ o o'
theorem ak.refl γ n h:ak γ n h γ n h:=⟨λ_ _ r e=>⟨r,e⟩,λ_ _ r e=>⟨r,e⟩,zm _,λ_ _=>rfl,λ_ o r e=>⟨r,o,e,.refl o⟩⟩
theorem ak.trans{γ γ' mC:Gh}{n n'':Nat}{qZ:yi}(x:ak γ n h γ' n' h')(y:ak γ' n' h' mC n'' qZ):ak γ n h mC n'' qZ:=
 ⟨λa o r e=>let⟨r',e'⟩:=x.j7 a o r e;y.j7 a o r' e',λa o r e=>let⟨r',e'⟩:=x.aM a o r e;y.aM a o r' e',zk x.len y.len,
  λk hk=>(y.aI k (zF hk x.len)).trans (x.aI k hk),λa o r e=>let⟨r',o',e',q⟩:=x.fr a o r e;let⟨RA,Iy,ta,q'⟩:=y.fr a o' r' e';⟨RA,Iy,ta,q.trans q'⟩⟩
theorem ak.sub{γ γ':Gh}{n:Nat}(x:ak γ n h γ' n' h'):Sub (lk γ.R h) (lk γ'.R h'):=λb o e=>
 let⟨r,e'⟩:=aw e;let⟨r',ta⟩:=x.j7 b o r e';aB r' ta
theorem ak.jz{γ:Gh}{n:Nat}(k:Sub h.get? h'.get?):ak γ n h γ n h':=
 ⟨λ_ _ r e=>⟨r,k _ _ e⟩,λ_ _ r e=>⟨r,k _ _ e⟩,zm _,λ_ _=>rfl,λ_ o r e=>⟨r,o,k _ _ e,.refl o⟩⟩
noncomputable def Slot.Ti:Slot->Bool
 |.ol _ |.od _ |.ro _=>true
 |_=>false
noncomputable def Slot.Jb:Slot->Bool
 |.ol _ |.od _=>true
 |_=>false
section
theorem cN.au{γ γ':Gh}{n:Nat}(k:Sub (lk γ.R h) (lk γ'.R h'))(hl:n<=n')(hp:∀k,k<n->γ'.aI k=γ.aI k):
  ∀{a:AV} {v:zo},cN γ n h a v->cN γ' n' h' a v
 |.d _,_,x=>DR.sub k x
 |.o m,_,x=>⟨by refine gR (hp m x.2 ..) ?_;exact x.1,zF x.2 hl⟩
 |.w _,_,x=>x
theorem iU.au{γ γ':Gh}{n:Nat}(k:Sub (lk γ.R h) (lk γ'.R h'))(hl:n<=n')(hp:∀k,k<n->γ'.aI k=γ.aI k):
  ∀{es:List (D×AV)} {ps:List (Str×zo)},iU γ n h es ps->iU γ' n' h' es ps
 |[],_,x=>x
 |(_,_)::_,_,⟨s,v,t,e,q,z,a,b⟩=>⟨s,v,t,e,q,z,cN.au k hl hp a,iU.au k hl hp b⟩
theorem jo.au{γ γ':Gh}{n:Nat}(k:Sub (lk γ.R h) (lk γ'.R h'))(hl:n<=n')(hp:∀k,k<n->γ'.aI k=γ.aI k):
  ∀{es:List (D×AV)} {xs:List (List aA×zJ×zo)},jo γ n h es xs->jo γ' n' h' es xs
 |[],_,x=>x
 |(_,_)::_,_,⟨ks,a,v,t,e,q,r,b,c⟩=>⟨ks,a,v,t,e,q,r.sub k,cN.au k hl hp b,jo.au k hl hp c⟩
theorem jo.free{γ:Gh}{n:Nat}:∀{es:List (D×AV)} {xs:List (List aA×zJ×zo)},jo γ n h es xs->∀x∈xs,γ.R x.2.1=.free
 |[],_,x=>by obtain rfl:_=_:=x;intro x hx;cases hx
 |(_,_)::_,_,⟨ks,a,v,t,e,q,r,b,c⟩=>by
  refine gR e ?_;intro x hx;rcases zK.mp hx with rfl |hx
  ·obtain⟨_,_,_,e,h,_⟩:=r
   cases e;exact(aw h).1
  ·exact jo.free c x hx
theorem oN.au{γ γ':Gh}{n:Nat}(k:Sub (lk γ.R h) (lk γ'.R h'))(hl:n<=n')(hp:∀k,k<n->γ'.aI k=γ.aI k):
  ∀{es:List (Nat×AV)} {ps:List (Str×zo)},oN γ n h es ps->oN γ' n' h' es ps
 |[],_,x=>x
 |(_,_)::_,_,⟨v,t,e,a,b⟩=>⟨v,t,e,cN.au k hl hp a,oN.au k hl hp b⟩
theorem cW(k:∀o,h.get? a=some o->h'.get? a=some o)(x:h.DictOf (strKind prog w) a ps):h'.DictOf (strKind prog w) a ps:=
 let⟨o,es,ep,ho,r⟩:=x;⟨o,es,ep,k _ ho,r⟩
theorem tC{ks:List aA}(k:∀o,h.get? a=some o->h'.get? a=some o)(x:Y4 (aE) h ks a):Y4 (aE) h' ks a:=
 let⟨o,is,n,ho,r⟩:=x;⟨o,is,n,k _ ho,r⟩
theorem vI{xs:List (List aA×zJ×zo)}(k:∀o,h.get? a=some o->h'.get? a=some o)
  (kk:∀x∈xs,∀o,h.get? x.2.1=some o->h'.get? x.2.1=some o) (x:h.DictOfH (tupleKind (aE)) a xs):h'.DictOfH (tupleKind (aE)) a xs:=
 let⟨o,es,ep,ho,hc,hd,he,hk,hn⟩:=x;⟨o,es,ep,k _ ho,hc,hd,he,λy hy=>tC (kk y hy) (hk y hy),hn⟩
theorem dW.au{γ γ':Gh}{n:Nat}(hf:∀a o,γ.R a=.free->h.get? a=some o->γ'.R a=.free/\h'.get? a=some o)(hl:n<=n')(hm:m<n)(hp:∀k,k<n->γ'.aI k=γ.aI k)
  (hr:∀a o k,γ.R a=.g m k->h.get? a=some o->γ'.R a=.g m k/\h'.get? a=some o):∀{o:bW},dW γ n h m o->dW γ' n' h' m o:=by
 have k:=λb o e=>let⟨r,e'⟩:=aw e;let⟨r',ta⟩:=hf b o r e';aB r' ta;have ep:=hp m hm;intro o x;cases o with
 |list l=>
  refine zg (λr i9=>?_) x;obtain⟨vs,q,e,d⟩:=i9;obtain⟨r',e'⟩:=hr _ _ _ r e;exact⟨by refine gR ep ?_;exact r',vs,q,by refine gR ep ?_;exact e',d.sub k⟩
 |dict es=>
  refine zg (λr x=>?_) x;rcases x with⟨ps,e,d⟩ |⟨xs,e,d⟩
  ·obtain⟨o,_,_,ho,_⟩:=id e
   obtain⟨r',_⟩:=hr _ _ _ r ho;exact⟨by rw[ep];exact r',.inl ⟨ps,by refine gR ep ?_;exact cW (λo ho=>(hr _ _ _ r ho).2) e,d.au k hl hp⟩⟩
  ·obtain⟨o,_,_,ho,_⟩:=id e
   obtain⟨r',_⟩:=hr _ _ _ r ho;refine⟨by rw[ep];exact r',.inr ⟨xs,?_,d.au k hl hp⟩⟩;exact gR ep (vI (λo ho=>(hr _ _ _ r ho).2) (λx hx o ho=>(hf _ _ (d.free x hx) ho).2) e)
 |inst c fs=>
  refine zg (λr1 kn=>?_) x;refine zg (λr2 km=>?_) kn;obtain⟨e,ps,d,f⟩:=km;obtain⟨o,_,_,ho,_⟩:=id d;refine zg (λr1' e'=>?_) (hr _ _ _ r1 e);refine zg (λr2' _=>?_) (hr _ _ _ r2 ho);exact⟨by refine gR ep ?_;exact r1',by refine gR ep ?_;exact r2',by refine gR ep ?_;exact e',ps,by refine gR ep ?_;exact cW (λo ho=>(hr _ _ _ r2 ho).2) d,f.au k hl hp⟩
theorem aJ.au{γ γ':Gh}{n:Nat}(hf:∀a o,γ.R a=.free->h.get? a=some o->γ'.R a=.free/\h'.get? a=some o)(hl:n<=n')(hp:∀k,k<n->γ'.aI k=γ.aI k)
  (ho:∀a o,(γ.R a=.own i\/γ.R a=.aM)->h.get? a=some o->γ'.R a=γ.R a/\h'.get? a=some o):∀{sl:Slot},(sl.Ti=true->γ'.own i=γ.own i)->aJ γ n h ov i sl->aJ γ' n' h' ov i sl:=by
 have k:Sub (lk γ.R h) (lk γ'.R h'):=λb o e=>let⟨r,e'⟩:=aw e;let⟨r',ta⟩:=hf b o r e';aB r' ta;intro sl hw x;cases sl with
 |un=>trivial
 |v a=>refine ze x λv Tj=>?_;obtain⟨e,a⟩:=Tj;exact⟨v,e,a.au k hl hp⟩
 |ol l=>
  refine zg (λe Tn=>?_) x;obtain⟨r,vs,q,e',d⟩:=Tn;obtain⟨r',ta⟩:=ho _ _ (.inl r) e';refine⟨by rw[hw rfl];exact e,by exact gR (hw rfl ..) (gR r' (gR r rfl)),vs,q,by rw[hw rfl];exact ta,d.sub k⟩
 |ro l=>
  refine zg (λe pZ=>?_) x;obtain⟨r,vs,q,e',d⟩:=pZ;obtain⟨r',ta⟩:=ho _ _ (.inr r) e';refine⟨by rw[hw rfl];exact e,by exact gR (hw rfl ..) (gR r' (gR r rfl)),vs,q,by rw[hw rfl];exact ta,d.sub k⟩
 |od l=>
  refine zg (λe Ed=>?_) x;obtain⟨r,ps,e',d⟩:=Ed;refine ze (id e') λo tD=>(ze tD λ_ Ee=>(ze Ee λ_ mD=>(zg (λDA _=>?_) mD)));refine zg (λr' ta=>?_) (ho _ _ (.inl r) DA);refine⟨by refine gR (hw rfl ..) ?_;exact e,by exact gR (hw rfl ..) (gR r' (gR r rfl)),ps,by refine gR (hw rfl ..) ?_;exact cW (λo h=>(ho _ _ (.inl r) h).2) e',d.sub k⟩
structure ae(s s':zt):Prop where
 sub:Sub s.heap.get? s'.heap.get?
 os:s'.os=s.os
 gens:s'.gens=s.gens
theorem ae.refl(s:zt):ae s s:=⟨λ_ _ e=>e,rfl,rfl⟩
theorem ae.trans{hJ:zt}(x:ae s s')(y:ae s' hJ):ae s hJ:=⟨λ_ _ e=>y.sub _ _ (x.sub _ _ e),y.os.trans x.os,y.gens.trans x.gens⟩
theorem aS.dD{γ:Gh}{g:G}(x:aS γ g s)(k:ae s s'):aS γ g s' where
 objs:=λn o e=>(x.objs n o e).au (λa o r e=>⟨r,k.sub _ _ e⟩) (zm _) (by have:=zr.mp e;exact this.1) (λ_ _=>rfl) (λa o q r e=>⟨r,k.sub _ _ e⟩)
 live:=λa r=>by
  obtain⟨o,ho⟩:=zp.mp (x.live a r);exact zp.mpr ⟨o,k.sub _ _ ho⟩
 top:=λa o e=>⟨(x.top a o e).1,k.sub _ _ (x.top a o e).2⟩
 os:=k.os.trans x.os
 gens:=k.gens.trans x.gens
theorem vH.dD{fx:Fx}{γ:Gh}{e:Env}{n:Nat}(x:vH fx γ e n h)(k:Sub h.get? h'.get?):vH fx γ e n h' where
 ns:=by obtain⟨m,a,b,c⟩:=x.ns;exact⟨m,a.keeps k,b,λi y hy sl hs=>(c i y hy sl hs).au (λa o r e=>⟨r,k _ _ e⟩) (zm _) (λ_ _=>rfl) (λa o _ e=>⟨rfl,k _ _ e⟩) (λ_=>rfl)⟩
 cells:=λi y a hy=>by
  refine ze (x.cells i y a hy) λov To=>?_;obtain⟨b,r,c⟩:=To;exact⟨ov,b.keeps k,r,λsl hs=>(c sl hs).au (λa o r e=>⟨r,k _ _ e⟩) (zm _) (λ_ _=>rfl) (λa o _ e=>⟨rfl,k _ _ e⟩) (λ_=>rfl)⟩
 out:=λa ha=>let⟨r,m,n⟩:=x.out a ha;⟨r,m,n.keeps k⟩
theorem ae.push s o:ae s {s with heap:=s.heap.push o}:=⟨λ_ _ e=>zj _ e,rfl,rfl⟩
theorem ae.toks s n:ae s {s with toks:=n}:=⟨λ_ _ e=>e,rfl,rfl⟩
theorem aS.bU{γ:Gh}{g:G}(x:aS γ g s)(h:s.heap.get? a=none):γ.R a=.free:=by
 by_cases r:γ.R a=.free
 ·exact r
 ·have:=x.live a r;rw[h] at this;exact nomatch this
theorem ao(h:yi):h.get? h.objs.size=none:=by
 cases q:h.get? h.objs.size with
 |none=>rfl
 |some o=>exact absurd (zZ q) (yv _)
theorem aS.jA{γ:Gh}{g:G}(x:aS γ g s)(h:γ.R a≠.free):(a==sysModules)=false:=by rw[beq_eq_false_iff_ne];rintro rfl;exact ze (zp.mp T.SE) λo ho=>(h (x.top _ o ho).1)
theorem aS.tE{γ:Gh}{g:G}(x:aS γ g s)(h:s.heap.get? a=none):(a==sysModules)=false:=by rw[beq_eq_false_iff_ne];rintro rfl;refine ze (zp.mp T.SE) λo ho=>?_;rw[(x.top _ o ho).2] at h;exact nomatch h
end
variable{γ γ':Gh}{ks:List aA}{g:G}{fx:Fx}{e e1 e':Env}{name:Str}
theorem jB:yG=16777216:=rfl
section
variable{A:ZV}{E:zo->zt->Prop}
theorem bc(h:m<=lim):m<=sizeLine:=zk h (by decide)
theorem Oi{a b:Nat}(h:(decide (a<=50)||decide (b<=50))=true):min a b<=50:=(zW.mp h).elim (λq=>zk (Nat.min_le_left a b) (of_decide_eq_true q)) λq=>zk (Nat.min_le_right a b) (of_decide_eq_true q)
theorem u50{u:Nat}(hu:u+64<yA)(h:m<=50):u+1+m<cLine:=zM (Zb u 1 m▸zG (zk (zG h 1) (by decide)) u) hu
theorem u49{u:Nat}(hu:u+64<yA)(h:m<=50):u+m<cLine:=zM (zG (zk h (by decide)) u) hu
section
variable{p:D}{xs:List D}{a b:zo}{Q:zo->zt->Prop}
theorem ab5(ha:DR s.heap.get? p a)(hb:DR s.heap.get? q b)(ok:qP p q=true)(hu:A.units+64<yA)(h:Q (.bool (zD p q)) s):zx (zv prog w) A (compareOp .Eq a b) Q E s:=by refine zg (λo1 o2=>?_) (aa ok);refine zg (λo3 o4=>?_) (aa o1);obtain⟨as,ra⟩:=ha.reads o3;obtain⟨bs,rb⟩:=hb.reads o4;exact SeqAt.eqOverData prog w A E s a b p q as bs Q ra rb (ha.e8 o3) (hb.e8 o4) (u49 hu (Oi o2)) h
theorem ab6(ha:DR s.heap.get? p a)(hb:DR s.heap.get? q b)(ok:qP p q=true)(hu:A.units+64<yA)(h:Q (.bool (!PyData.eqv p q)) s):zx (zv prog w) A (compareOp .NotEq a b) Q E s:=by refine zg (λo1 o2=>?_) (aa ok);refine zg (λo3 o4=>?_) (aa o1);obtain⟨as,ra⟩:=ha.reads o3;obtain⟨bs,rb⟩:=hb.reads o4;exact SeqAt.neOverData prog w A E s a b p q as bs Q ra rb (ha.e8 o3) (hb.e8 o4) (u49 hu (Oi o2)) h
theorem xG{c:D}(hc:nodict c=bK xs)(ha:DR s.heap.get? p a)(hb:DR s.heap.get? c b)(ok:vw xs p=true)(hu:A.units+64<yA)(k:∀as bs,Reads s.heap b c as->Reads s.heap a p bs->c.canLay0=true->p.canLay0=true->A.units+1+min (adu xs) p.depth<yA->P):P:=by refine zg (λo1 o2=>?_) (aa ok);refine zg (λo3 o4=>?_) (aa o1);obtain⟨as,ra⟩:=ha.reads o4;obtain⟨bs,rb⟩:=hb.reads (hc.trans o3);exact k bs as rb ra (hb.e8 (hc.trans o3)) (ha.e8 o4) (u50 hu (Oi o2))
theorem BP(ha:DR s.heap.get? p a)(hb:DR s.heap.get? (.list xs) b)(ok:vw xs p=true)(hu:A.units+64<yA)(h:Q (.bool (xs.any λy=>zD y p)) s):zx (zv prog w) A (compareOp .In a b) Q E s:=
 xG rfl ha hb ok hu λ_ _ rb ra lb la u=>SeqAt.in_list_reads rb ra lb la u h
theorem vJ(ha:DR s.heap.get? p a)(hb:DR s.heap.get? (.list xs) b)(ok:vw xs p=true)(hu:A.units+64<yA)(h:Q (.bool (!xs.any λy=>zD y p)) s):zx (zv prog w) A (compareOp .NotIn a b) Q E s:=
 xG rfl ha hb ok hu λ_ _ rb ra lb la u=>SeqAt.notIn_list_reads rb ra lb la u h
theorem Ef(ha:DR s.heap.get? p a)(hb:DR s.heap.get? (.tuple xs) b)(ok:vw xs p=true)(hu:A.units+64<yA)(h:Q (.bool (xs.any λy=>zD y p)) s):zx (zv prog w) A (compareOp .In a b) Q E s:=
 xG rfl ha hb ok hu λ_ _ rb ra lb la u=>SeqAt.in_tuple_reads rb ra lb la u h
theorem BQ(ha:DR s.heap.get? p a)(hb:DR s.heap.get? (.tuple xs) b)(ok:vw xs p=true)(hu:A.units+64<yA)(h:Q (.bool (!xs.any λy=>zD y p)) s):zx (zv prog w) A (compareOp .NotIn a b) Q E s:=
 xG rfl ha hb ok hu λ_ _ rb ra lb la u=>SeqAt.notIn_tuple_reads rb ra lb la u h
end
theorem ku x t:(zR prog w).is x (.str x t)=true:=PySem.strKind_is prog w x t
theorem Tp{d:zJ}{x:Str}{t:Tok}{Q:zo->zt->Prop}(hm:s.heap.DictOf (zR prog w) d ps)(hd:(d==sysModules)=false)
  (h:∀s',ae s s'->s'.heap=s.heap->Q (.bool (valueAt ps x).isSome) s'):zx (zv prog w) A (compareOp .In (.str x t) (.ref d)) Q E s:=
 wpAny_in_of (ku x t) hd hm.mapOf (h _ (ae.toks _ _) rfl)
theorem Mq{d:zJ}{x:Str}{t:Tok}{Q:zo->zt->Prop}(hm:s.heap.DictOf (zR prog w) d ps)(hd:(d==sysModules)=false)
  (h:∀s',ae s s'->s'.heap=s.heap->Q (.bool (!(valueAt ps x).isSome)) s'):zx (zv prog w) A (compareOp .NotIn (.str x t) (.ref d)) Q E s:=
 wpAny_notIn_of (ku x t) hd hm.mapOf (h _ (ae.toks _ _) rfl)
theorem Mr{d:zJ}{x:Str}{t:Tok}{Q:zo->zt->Prop}(hm:s.heap.DictOf (zR prog w) d ps)(hv:valueAt ps x=some v)
  (h:∀s',ae s s'->s'.heap=s.heap->Q v s'):zx (zv prog w) A (getItem (.ref d) (.str x t)) Q E s:=
 wpAny_getItem_of (ku x t) hm.mapOf hv (h _ (ae.toks _ _) rfl)
theorem mE(hu:A.units+64<yA):(tupleKind (aE)).room A.in1:=by exact u49 hu (zw (zE _))
theorem Tq{d k:zJ}{xs:List (List aA×zJ×zo)}{Q:zo->zt->Prop}(hu:A.units+64<yA)(hk:Y4 (aE) s.heap ks k)
  (hm:s.heap.DictOfH (tupleKind (aE)) d xs) (hd:(d==sysModules)=false)
  (h:∀s',ae s s'->s'.heap=s.heap->Q (.bool (atKey xs ks).isSome) s'):zx (zv prog w) A (compareOp .In (.ref k) (.ref d)) Q E s:=
 wpAny_in_heap (mE hu) hk hd hm (h _ (ae.toks _ _) rfl)
theorem Ts{d k:zJ}{xs:List (List aA×zJ×zo)}{p:zJ×zo}{Q:zo->zt->Prop}(hu:A.units+64<yA)(hk:Y4 (aE) s.heap ks k)
  (hm:s.heap.DictOfH (tupleKind (aE)) d xs) (hp:atKey xs ks=some p)
  (h:∀s',ae s s'->s'.heap=s.heap->Q p.2 s'):zx (zv prog w) A (getItem (.ref d) (.ref k)) Q E s:=
 wpAny_getItem_heap (mE hu) hk hm hp (h _ (ae.toks _ _) rfl)
theorem Oj{i j:Int}{t u:Tok}{Q:zo->zt->Prop}(h:∀s' k,ae s s'->s'.heap=s.heap->Q (.int (i+j) k) s'):zx (zv prog w) A (binaryOp .Add (.int i t) (.int j u)) Q E s:=
 PyProof.Rows.add_int (h _ _ (ae.toks _ _) rfl)
theorem Ol{i j:Int}{t u:Tok}{Q:zo->zt->Prop}(h:∀s' k,ae s s'->s'.heap=s.heap->Q (.int (i - j) k) s'):zx (zv prog w) A (binaryOp .Sub (.int i t) (.int j u)) Q E s:=
 PyProof.Rows.sub_int (h _ _ (ae.toks _ _) rfl)
theorem Om{i j:Int}{t u:Tok}{Q:zo->zt->Prop}(hj:0<j)(h:∀s' k,ae s s'->s'.heap=s.heap->Q (.int (i%j) k) s'):zx (zv prog w) A (binaryOp .Mod (.int i t) (.int j u)) Q E s:=by exact PyProof.Rows.mod_int' (Int.ne_of_gt hj) (gR (Int.fmod_eq_emod_of_nonneg _ (adv hj) ..) (h _ _ (ae.toks _ _) rfl))
theorem Oo{x y:Str}{t u:Tok}{Q:zo->zt->Prop}(hz:x.length+y.length<=lim)(h:∀s' k,ae s s'->s'.heap=s.heap->Q (.str (x++y) k) s'):zx (zv prog w) A (binaryOp .Add (.str x t) (.str y u)) Q E s:=
 PyProof.Rows.add_str (λt' tk=>h _ _ (ae.toks _ _) rfl) (bc hz)
theorem Eg{a b:zJ}{n:Nat}{Q:zo->zt->Prop}(ha:s.heap.get? a=some (aO vs n))(hb:s.heap.get? b=some (aO ws m))(hz:vs.length+ws.length<=lim)
  (h:Q (.ref s.heap.objs.size) {s with heap:=s.heap.push (aO (vs++ws) 0)}):zx (zv prog w) A (binaryOp .Add (.ref a) (.ref b)) Q E s:=
 P.add_list ha hb (by simpa using h) (zS▸zS▸bc hz)
theorem Oq{a b:zJ}{n:Nat}{Q:zo->zt->Prop}(ha:s.heap.get? a=some (fJ vs n))(hb:s.heap.get? b=some (fJ ws m))(hz:vs.length+ws.length<=lim)
  (h:∀s' c k,ae s s'->s'.heap.get? c=some (fJ (vs++ws) k)->(c=a\/c=b\/s.heap.get? c=none)->Q (.ref c) s'):zx (zv prog w) A (binaryOp .Add (.ref a) (.ref b)) Q E s:=by
 by_cases h1:vs.toArray.isEmpty=true
 ·have e:vs=[]:=by simpa using h1
  subst e;exact concat_meets ⟨_,ha,rfl⟩ ⟨_,hb,rfl⟩ noFill_tuple_add seq_tuple_add F.slot_tuple_add F.entry_tuple_add (F.args_tuple_add_2 _ _) (AutoSeq1.tuple___add___tuple_tuple_0 a _ n b ws.toArray m h1)
   ⟨ha,hb,h _ b m (ae.refl s) hb (.inr (.inl rfl))⟩
 ·by_cases h2:ws.toArray.isEmpty=true
  ·have e:ws=[]:=by simpa using h2
   subst e;exact concat_meets ⟨_,ha,rfl⟩ ⟨_,hb,rfl⟩ noFill_tuple_add seq_tuple_add F.slot_tuple_add F.entry_tuple_add (F.args_tuple_add_2 _ _) (AutoSeq1.tuple___add___tuple_tuple_1 a _ n b _ m h1 h2)
    ⟨ha,hb,h _ a n (ae.refl s) (by simpa using ha) (.inl rfl)⟩
  ·refine P.add_tuple ha hb h1 h2 ?_ (zS▸zS▸bc hz)
   exact h _ _ 0 (ae.push _ _) (by simpa using zq _ rfl) (.inr (.inr (ao _)))
theorem nb{i:Int}{k:Nat}(h:i.natAbs<k): -(k:Int)<i/\i<k:=by omega
theorem c63{n:Nat}(h:n<=lim):(n:Int)<2 ^ 63:=yR.mpr (zM h (by decide:lim<2 ^ 63))
theorem na{i:Int}{k:Nat}(h:0<=i)(q:i<k):i.natAbs<k:=yR.mp ((Int.natAbs_of_nonneg h).symm▸q)
theorem jC{i:Int}(h:small i=true): -(2 ^ 63)<=i/\i<2 ^ 63:=by have z:=nb (ZA (of_decide_eq_true h) (by decide:2 ^ 62<2 ^ 63));exact⟨adv z.1,z.2⟩
theorem Jc{i:Int}{n:Nat}(h:adV i n=some j):(0<=i/\i.toNat=j)\/(i<0/\ -n<=i/\(i+n).toNat=j):=by
 unfold adV at h;by_cases c:i<0
 ·rw[if_pos c] at h
  refine zg (λh1 h2=>?_) (qO h);exact .inr ⟨c,Int.le_of_sub_nonneg (Int.sub_neg i n▸of_decide_eq_true (aa h1).1),h2⟩
 ·rw[if_neg c] at h
  exact .inl ⟨Y5.mp c,(qO h).2⟩
theorem Jd{n:Nat}(h:j<n):adV j n=some j:=by unfold adV;rw[if_neg (Y5.mpr (YX j))];dsimp only;refine gR (decide_eq_true (YX j) ..) (gR (decide_eq_true (yR.mpr h) ..) ?_);rfl
theorem Tt{a:zJ}{n:Nat}{i:Int}{u:Tok}{y:zo}{Q:zo->zt->Prop}(ha:s.heap.get? a=some (fJ vs n))(hs:small i=true)(hj:BG i vs.length=some j)(hy:vs[j]? =some y)
  (h:Q y s):zx (zv prog w) A (getItem (.ref a) (.int i u)) Q E s:=
 P.getItem_tuple ha (jC hs).1 (jC hs).2 ((zS ..).symm▸hj) (List.getElem?_toArray.trans hy) h
theorem Tu{a:zJ}{n:Nat}{i:Int}{u:Tok}{y:zo}{Q:zo->zt->Prop}(ha:s.heap.get? a=some (aO vs n))(hs:small i=true)(hj:BG i vs.length=some j)(hy:vs[j]? =some y)
  (h:Q y s):zx (zv prog w) A (getItem (.ref a) (.int i u)) Q E s:=by
 have RB:=List.getElem?_toArray.trans hy;rcases Jc hj with⟨h0,e⟩ |⟨h0,h1,e⟩
 ·exact wpAny_getItem_list ⟨_,ha,rfl,_,rfl⟩ h0 (jC hs).2 (e▸RB) h
 ·exact wpAny_getItem_list_neg ⟨_,ha,rfl,_,rfl⟩ h0 ((zS ..).symm▸h1) (jC hs).1 ((zS).symm▸e▸RB) h
theorem Tv{x:Str}{t u:Tok}{i:Int}{c:Nat}{Q:zo->zt->Prop}(hs:small i=true)(hj:BG i x.cps.size=some j)(hc:x.cps[j]? =some c)
  (h:∀s' k,ae s s'->s'.heap=s.heap->Q (.str ⟨#[c]⟩ k) s'):zx (zv prog w) A (getItem (.str x t) (.int i u)) Q E s:=by
 refine zg (λb1 b2=>?_) (jC hs);refine P.getItem_str ?_ ?_ (h _ _ (ae.toks _ _) rfl)
 ·refine gR (decide_eq_false (Y5.mpr b1) ..) (gR (decide_eq_false (Int.not_le.mpr b2) ..) ?_);rfl
 ·exact(congrArg (Option.bind · _) hj).trans hc
theorem aU.cut{l:List D}(h:aU L l vs)(lo hi:Option Int):
  aU L (cut lo hi l) ((vs.drop (lo.elim 0 (clipAt vs.length))).take (hi.elim vs.length (clipAt vs.length) - lo.elim 0 (clipAt vs.length))):=by
 refine gR (h.length ..) ?_;exact(h.drop _).take _
theorem Tw{a sl:zJ}{n:Nat}{vl vu Je:zo}{lo hi:Option Int}{Q:zo->zt->Prop}(ha:s.heap.get? a=some (aO vs n))(hs:s.heap.IsSliceOf sl vl vu Je)(pl:ado vl lo)(pu:ado vu hi)(ps:ado Je none)
  (hz:vs.length<=lim) (h:Q (.ref s.heap.objs.size) {s with heap:=s.heap.push (aO ((vs.drop (lo.elim 0 (clipAt vs.length))).take (hi.elim vs.length (clipAt vs.length) - lo.elim 0 (clipAt vs.length))) 0)}):
  zx (zv prog w) A (getItem (.ref a) (.ref sl)) Q E s:=by
 refine wpAny_getItem_list_slice ⟨_,ha,rfl,_,rfl⟩ hs pl pu ps (by decide) ?_ ((zS ..).symm▸bc hz);refine gR (slicePick_plain ..) ?_;simpa using h
theorem ja{k:Option Int}{Q:Option Int->zt->Prop}(p:ado v k)(h:Q k s):zx (zv prog w) A (Builtin.Slice.slicePartIndex v) Q E s:=by
 cases p with
 |none=>exact PyProof.Rows.slicePart_none h
 |int i t=>exact PyProof.Rows.slicePart_int h
theorem lV(n:Nat)(v:Int):(if v<0 then max (v+n) 0 else min v n)=((clipAt n v:Nat)):=by
 refine gR (clipAt_cast ..) ?_;by_cases c:v<0
 ·exact gR (if_pos c ..) (gR (if_pos c ..) (gR (Int.min_eq_left (Int.add_le_of_le_sub_right (adv (Int.sub_self n▸c))) ..) (gR (Int.max_comm ..) rfl)))
 ·exact gR (if_neg c ..) (gR (if_neg c ..) (gR (Int.max_eq_right (Int.le_min.mpr ⟨Y5.mp c,(YX n)⟩) ..) rfl))
theorem q4(lo hi:Option Int)(n:Nat):Builtin.Slice.sliceAdjust lo hi 1 n=(((lo.elim 0 (clipAt n):Nat):Int),((hi.elim n (clipAt n):Nat):Int)):=by
 cases lo with
 |none=>cases hi with
  |none=>rfl
  |some v=>exact congrArg (Prod.mk (0)) (lV n v)
 |some u=>cases hi with
  |none=>exact congrArg (Prod.mk · (n:Int)) (lV n u)
  |some v=>exact adY (lV n u) (lV n v)
theorem q5(a b:Nat):Builtin.Slice.slicePlaces a b 1=b - a:=by
 refine(?_:(if(a:Int)<b then((b:Int) - a - 1)/1+1 else 0).toNat=_);by_cases c:(a:Int)<b
 ·exact gR (if_pos c ..) (gR (Int.ediv_one ..) (gR (Int.sub_add_cancel ..) (gR (Int.toNat_sub ..) rfl)))
 ·refine gR (if_neg c ..) (gR (Nat.sub_eq_zero_of_le (Int.ofNat_le.mp (Y5.mp c)) ..) ?_)
  rfl
theorem vK(vs:List zo)(a k:Nat):((ZW k).filterMap λ(j:Nat)=>vs.toArray[((a:Int)+j*1).toNat]?)=(vs.drop a).take k:=by refine Eq.trans ?_ ((List.filterMap_map ..).symm.trans (pick_run vs.toArray a k));exact congrArg (List.filterMap · (ZW k)) (funext λj=>congrArg (vs.toArray[·]?) (gR (Int.mul_one ..) rfl))
theorem oU{sl:zJ}{vl vu Je:zo}{lo hi:Option Int}{n:Nat}{Q:Int×Int×Nat->zt->Prop}(hs:s.heap.IsSliceOf sl vl vu Je)(pl:ado vl lo)(pu:ado vu hi)(ps:ado Je none)
  (h:Q (((lo.elim 0 (clipAt n):Nat)),1,hi.elim n (clipAt n) - lo.elim 0 (clipAt n)) s):zx (zv prog w) A (Builtin.Slice.sliceApplied (.ref sl) (pure n)) Q E s:=by
 refine ze (id hs) λos z=>(zf (zf (wpAny_field z.1 z.2.2 (x:=vl) rfl (zf (wpAny_field z.1 z.2.2 (x:=vu) rfl (zf (wpAny_field z.1 z.2.2 (x:=Je) rfl (zl ?_))))))));refine zf (ja ps (zf (ja pl (zf (ja pu (zf (zl ?_)))))));exact gR (q4 ..) (zl (q5 _ _▸h))
theorem Tx{t sl:zJ}{n:Nat}{vl vu Je:zo}{lo hi:Option Int}{Q:zo->zt->Prop}(ht:s.heap.get? t=some (fJ vs n))(hs:s.heap.IsSliceOf sl vl vu Je)(pl:ado vl lo)(pu:ado vu hi)(ps:ado Je none)
  (hz:vs.length<=lim)
  (h:∀s' c k,ae s s'->s'.heap.get? c=some (fJ ((vs.drop (lo.elim 0 (clipAt vs.length))).take (hi.elim vs.length (clipAt vs.length) - lo.elim 0 (clipAt vs.length))) k)->(c=t\/s.heap.get? c=none)->Q (.ref c) s'):
  zx (zv prog w) A (getItem (.ref t) (.ref sl)) Q E s:=by
 have DB:IsTup s.heap t vs.toArray:=⟨_,ht,rfl,_,rfl⟩;refine ze (id hs) λos z=>?_;unfold getItem
 try with_reducible refine zT ?_
 first |refine zf (zl ?_) |skip
 refine zf (wpAny_sequenceKey DB.typeIs rfl ?_);refine zf (ZJ DB.typeIs slot_tuple_getitem
  (wpAny_call_entry slot_tuple_getitem DB.typeIs entry_tuple_getitem ?_ (args_tuple_getitem _ _)))
 refine(?_:zx _ _ (Builtin.Tuple.tupleItemsOf (.ref t) >>=_) _ _ s);refine zf (tupleItemsOf_ DB (zf (wpAny_typeOf ⟨os,z.1,z.2.1⟩ (zf (oU hs pl pu ps ?_)))));have hl:vs.toArray.size=vs.length:=zS ..;refine gR hl ?_;generalize lo.elim 0 (clipAt vs.length)=a at h⊢;generalize hi.elim vs.length (clipAt vs.length) - a=k at h⊢;refine(?_:zx _ _ (if((a:Int)==0&&(1:Int)==1&&k==vs.toArray.size)=true then _ else _) _ _ s);by_cases hc:((a:Int)==0&&(1:Int)==1&&k==vs.toArray.size)=true
 ·refine NP hc (zg (λc1 c2=>?_) (aa hc))
  cases Int.ofNat_inj.mp (eq_of_beq (aa c1).1);cases(eq_of_beq c2).trans hl;rw[List.drop_zero,Yz] at h;exact zf (zf (wpAny_typeOf DB.typeIs (zl (zf (wpAny_rule (zl ⟨_,rfl,zl (h _ t n (ae.refl s) ht (.inl rfl))⟩))))))
 ·refine iT hc (?_:zx _ _ (Builtin.Tuple.tupleExact (((ZW k).filterMap λ(j:Nat)=>vs.toArray[((a:Int)+j*1).toNat]?).toArray) >>=_) _ _ s)
  exact gR (vK ..) (zf (wpAny_newObj_type (zl ⟨_,rfl,zl (h _ s.heap.objs.size 0 (ae.push _ _) (zq _ rfl) (.inr (ao _)))⟩)
   (bc (zk (zO (zS ..)) (zk (adC ..) (zk (zO List.length_drop) (zk (ad7 ..) hz)))))))
end
variable{Q E:zo->zt->Prop}{tk:Tok}{A:ZV}
section
theorem BR{n:Nat}(ha:s.heap.get? a=some (aO vs n))(hz:vs.length<=lim)
  (h:∀s' k,ae s s'->s'.heap=s.heap->Q (.int vs.length k) s'):zx (zv prog w) A (call (.builtin "len") [.ref a]) Q E s:=
 PyProof.Rows.len_list (items:=vs.toArray) ⟨_,ha,rfl,_,rfl⟩ (gR (zS ..) (c63 hz)) (by simpa using h _ _ (ae.toks s (s.toks+1+1)) rfl)
theorem BS{n:Nat}(ha:s.heap.get? a=some (fJ vs n))(hz:vs.length<=lim)
  (h:∀s' k,ae s s'->s'.heap=s.heap->Q (.int vs.length k) s'):zx (zv prog w) A (call (.builtin "len") [.ref a]) Q E s:=
 P.len_tuple ha (gR (zS ..) (Int.not_le.mpr (c63 hz))) (by simpa using h _ _ (ae.toks s (s.toks+1+1)) rfl)
theorem tF{n:Nat}(ha:s.heap.get? a=some (fJ vs n))(h:Q (.ref a) s):zx (zv prog w) A (call (.type "tuple") [.ref a]) Q E s:=
 call_tuple_same (items:=vs.toArray) ⟨_,ha,rfl,_,rfl⟩ h
theorem tG{n:Nat}(ha:s.heap.get? a=some (aO vs n))(hz:vs.length<=lim)
  (h:∀s' c,ae s s'->s'.heap.get? c=some (fJ vs 0)->s.heap.get? c=none->Q (.ref c) s'):zx (zv prog w) A (call (.type "tuple") [.ref a]) Q E s:=by
 refine call_tuple_list (items:=vs.toArray) ⟨_,ha,rfl,_,rfl⟩ (λh' k=>?_) (gR (zS ..) (bc hz));refine h _ _ ⟨λb o e=>zj _ (k b o e),rfl,rfl⟩ (zq _ rfl) ?_;cases q:s.heap.get? h'.objs.size with
 |none=>rfl
 |some o=>exact absurd (zZ (k _ _ q)) (yv _)
theorem Eh{T:String}(hT:T="list"\/T="tuple"){n:Nat}(ha:s.heap.get? a=some o)(hc:o.cls=.type T)(hd:o.data=.seq vs.toArray n)(hz:vs.length<=lim)
  (h:∀s' k,ae s s'->s'.heap.get? s.heap.objs.size=some (aO vs k)->Q (.ref s.heap.objs.size) s'):zx (zv prog w) A (call (.type "list") [.ref a]) Q E s:=
 call_list_seq a hT ha hc hd (λh' c k e=>h _ _ ⟨k,rfl,rfl⟩ e) (gR (zS ..) (bc hz))
theorem Ot(ha:s.heap.DictOf (zR prog w) a ps)(hS:(a==sysModules)=false)(hz:ps.length<=lim)
  (h:∀s',ae s s'->s'.heap.DictOf (zR prog w) s.heap.objs.size ps->Q (.ref s.heap.objs.size) s'):zx (zv prog w) A (call (.type "dict") [.ref a]) Q E s:=by
 refine PySem.kt_call_dict hS ha (bc hz) λh' hm hs=>?_;refine h _ ⟨λb o e=>?_,rfl,rfl⟩ hm;exact gR (hs.2 b (zU (zZ e)) ..) (zj _ e)
theorem Tz{i:Int}{t:Tok}(h0:0<=i)(h1:i<10)(h:∀s' k,ae s s'->s'.heap=s.heap->Q (.str (digits i.toNat) k) s'):zx (zv prog w) A (call (.type "str") [.int i t]) Q E s:=by
 refine P.str_of_int ?_ ?_
 ·have:i.natAbs.log2<=i.natAbs:=Nat.log2_le_self _
  exact zM this (ZA (na (k:=10) h0 h1) (by decide))
 ·have e:(i.toNat:Int)=i:=YN h0
  have:=h {s with toks:=s.toks+1} s.toks (ae.toks _ _) rfl;unfold digits at this;replace this:=e▸this;exact this
end
structure ah where
 γ:Gh
 e:Env
 g:G
 s:zt
abbrev TA:=Gh->yi->zo->D->Prop
def mF(KF:zJ)(γ:Gh)(h:yi)(e dd:zJ):Prop:=c8 λo vs=>R7 (h.get? e=some o) (o.cls=.ref KF) (o.dict=some dd) (o.data=.fields vs) (γ.R e=.exc) (γ.R dd=.exc) (e≠dd) ((h.get? dd).isSome) (vs[1]? =some .none\/mi λT oT ts=>IM (vs[1]? =some (.ref T)) (γ.R T=.exc) (T≠e) (T≠dd) (h.get? T=some oT) (oT.data=.fields ts) (3<ts.size))
def XK(KF:zJ)(sp:Str):TA:=λγ h x p=>NN λe dd m v=>eX (x=.ref e) (mF KF γ h e dd) (h.Ns1 dd m) (m sp=some v) (DR (lk γ.R h) p v)
abbrev KF:Addr:=aZ.L.C
abbrev sp:Str:=spS aZ.L
abbrev X:TA:=XK KF sp
structure bF(fx:Fx):Prop where
 kind:fx.env.scope.kind=.function
 globals:fx.env.globals=mainGlobals
 builtins:fx.env.builtins=builtinsNs
 loc:∀i x,(i,x,none)∈fx.lay->fx.env.kindOf x=some .local/\(x==("__debug__":Str))=false
 DC:∀i x a,(i,x,some a)∈fx.lay->(fx.env.kindOf x=some .cell\/fx.env.kindOf x=some .free/\(x==("__classdict__":Str))=false)/\fx.env.cells.lookup x=some a/\(x==("__debug__":Str))=false/\a≠fx.env.locals
 xH:∀i j x c d,(i,x,c)∈fx.lay->(j,x,d)∈fx.lay->i=j
 xI:∀i j x y a,(i,x,some a)∈fx.lay->(j,y,some a)∈fx.lay->i=j
 qc:∀i x y c d,(i,x,c)∈fx.lay->(i,y,d)∈fx.lay->x=y/\c=d
section
structure Inv(fx:Fx)(c:ah):Prop where
 g:aS c.γ c.g c.s
 f:vH fx c.γ c.e c.g.length c.s.heap
structure Ext(c c':ah):Prop where
 x:ak c.γ c.g.length c.s.heap c'.γ c'.g.length c'.s.heap
 own:c'.γ.own=c.γ.own
 ro:∀(j:Nat) (l:List D),c'.e[j]? =some (Slot.ro l)->c.e[j]? =some (Slot.ro l)
 sys:∀a o,c.γ.R a=.sys->c.s.heap.get? a=some o->c'.γ.R a=.sys/\∃o',c'.s.heap.get? a=some o'/\bJ o o'
 env:(∀(j:Nat) (sl:Slot),c.e[j]? =some sl->sl.Jb=false)->c'.e=c.e
def du(fx:Fx)(c:ah):AV->zo->Prop
 |.w i,v=>v=.ref (c.γ.own i)/\c8 λx o=>(i,x,o)∈fx.lay
 |a,v=>cN c.γ c.g.length c.s.heap a v
def QE(fx:Fx)(c:ah)(r:R (AV×Env×G))(v:zo)(s':zt):Prop:=
 c8 λa c'=>eX (r=.ok (a,c'.e,c'.g)) (c'.s=s') (Inv fx c') (Ext c c') (du fx c' a v)
def XS(fx:Fx){α:Type}(c:ah)(r:R α)(x:zo)(s':zt):Prop:=
 mi λp g' γ'=>DJ (r=.ex p g') (X γ' s'.heap x p) (aS γ' g' s') (ak c.γ c.g.length c.s.heap γ' g'.length s'.heap) (γ'.R fx.env.locals=.fr\/γ'.R fx.env.locals=.sys) (∃m,s'.heap.Ns fx.env.locals m)
def XE{α:Type}(c:ah)(r:R α)(x:zo)(s':zt):Prop:=
 mi λp g' γ'=>eX (r=.ex p g') (X γ' s'.heap x p) (aS γ' g' s') (ak c.γ c.g.length c.s.heap γ' g'.length s'.heap) (∀a o,c.γ.R a=.sys->c.s.heap.get? a=some o->(γ'.R a=.fr\/γ'.R a=.sys)/\∃o',s'.heap.get? a=some o'/\bJ o o')
end
theorem Ext.refl c:Ext c c:=⟨.refl ..,rfl,λ_ _ h=>h,λ_ o r e=>⟨r,o,e,.refl o⟩,λ_=>rfl⟩
theorem Ext.trans{c c' c'':ah}(x:Ext c c')(y:Ext c' c''):Ext c c'':=⟨x.x.trans y.x,y.own.trans x.own,λj l h=>x.ro j l (y.ro j l h),λa o r e=>let⟨r',o',e',q⟩:=x.sys a o r e;let⟨RA,Iy,ta,q'⟩:=y.sys a o' r' e';⟨RA,Iy,ta,q.trans q'⟩,λh=>(y.env (gR (x.env h ..) h)).trans (x.env h)⟩
section
theorem Inv.q6{c:ah}(I:Inv fx c){R':zJ->Role}(h:∀a o,c.γ.R a=.fr->c.s.heap.get? a=some o->R' a=.fr/\∃o',h'.get? a=some o'/\bJ o o'):∀a∈fx.out,R' a=.fr/\∃m,h'.Ns a m:=λa ha=>by
 refine zg (λr xJ=>?_) (I.f.out a ha);refine ze xJ λm n=>?_;refine ze (id n) λo mG=>(ze mG λ_ xK=>(ze xK λ_ Ei=>(zg (λho _=>?_) Ei)));exact⟨(h a o r ho).1,m,bJ.ns (λo e=>(h a o r e).2) n⟩
theorem XE.from{c c':ah}{r:R α}{x:zo}(k:Ext c c')(h:XE c' r x s'):XE c r x s':=by obtain⟨p,g',γ',e,q,i,k',z⟩:=h;exact⟨p,g',γ',e,q,i,k.x.trans k',λa o r e=>let⟨r',o',e',q⟩:=k.sys a o r e;let⟨RA,Iy,ta,q'⟩:=z a o' r' e';⟨RA,Iy,ta,q.trans q'⟩⟩
theorem XE.tI{c:ah}{r:R α}{x:zo}(h:XE c r x s')(I:Inv fx c):XS fx c r x s':=by obtain⟨p,g',γ',e,q,i,k',z⟩:=h;refine ze (I.f.ns) λm Ej=>?_;obtain⟨n,b,_⟩:=Ej;refine ze (id n) λo TB=>(ze TB λ_ TC=>(ze TC λ_ TF=>(zg (λho _=>?_) TF)));exact⟨p,g',γ',e,q,i,k',(z _ o b ho).1,m,bJ.ns (λo e=>(z _ o b e).2) n⟩
theorem XS.jD{c c':ah}{r:R α}{x:zo}(k:ak c.γ c.g.length c.s.heap c'.γ c'.g.length c'.s.heap)(h:XS fx c' r x s'):XS fx c r x s':=by obtain⟨p,g',γ',e,q,i,k',l,z⟩:=h;exact⟨p,g',γ',e,q,i,k.trans k',l,z⟩
theorem QE.from{c c':ah}{r:R (AV×Env×G)}(k:Ext c c')(h:QE fx c' r v s'):QE fx c r v s':=by obtain⟨a,d,e,q,i,k',z⟩:=h;exact⟨a,d,e,q,i,k.trans k',z⟩
theorem du.au{c c':ah}(k:Ext c c'){a:AV}(h:du fx c a v):du fx c' a v:=by
 cases a with
 |w i=>
  refine zg (λe r=>?_) h;exact⟨by refine gR k.own ?_;exact e,r⟩
 |d p=>exact cN.au (γ:=c.γ) (a:=.d p) k.x.sub k.x.len k.x.aI h
 |o n=>exact cN.au (γ:=c.γ) (a:=.o n) k.x.sub k.x.len k.x.aI h
theorem du.Jf{c:ah}{a:AV}(h:cN c.γ c.g.length c.s.heap a v):du fx c a v:=by
 cases a with
 |w i=>exact h.elim
 |d p=>exact h
 |o n=>exact h
theorem du.lT{c:ah}{a:AV}(n:fX a=true)(h:du fx c a v):cN c.γ c.g.length c.s.heap a v:=by
 cases a with
 |w i=>cases n
 |d p=>exact h
 |o n=>exact h
theorem du.DD{c:ah}{a:AV}{p:D}(h:du fx c a v)(e:dA a=some p):DR (lk c.γ.R c.s.heap) p v:=by cases bL e;exact h
theorem Inv.dD{c:ah}(x:Inv fx c)(k:ae c.s s'):Inv fx {c with s:=s'}:=⟨x.g.dD k,x.f.dD k.sub⟩
theorem Ext.dD{c:ah}(k:ae c.s s'):Ext c {c with s:=s'}:=⟨.jz k.sub,rfl,λ_ _ h=>h,λ_ o r e=>⟨r,o,k.sub _ _ e,.refl o⟩,λ_=>rfl⟩
theorem QE.dD{c:ah}{a:AV}(I:Inv fx c)(k:ae c.s s')(h:cN c.γ c.g.length s'.heap a v):QE fx c (.ok (a,c.e,c.g)) v s':=
 ⟨a,{c with s:=s'},rfl,rfl,I.dD k,Ext.dD k,du.Jf h⟩
theorem slot_of{c:ah}(I:Inv fx c){i:Nat}{x:Str}{o:Option zJ}(hx:(i,x,o)∈fx.lay){sl:Slot}(hs:c.e[i]? =some sl):
  ∃ov,aJ c.γ c.g.length c.s.heap ov i sl/\(match o with |none=>∃m,c.s.heap.Ns fx.env.locals m/\m x=ov |some a=>c.s.heap.IsCell a ov):=by
 cases o with
 |none=>refine ze (I.f.ns) λm TG=>?_;obtain⟨n,_,k⟩:=TG;exact⟨_,k i x hx sl hs,m,n,rfl⟩
 |some a=>refine ze (I.f.cells i x a hx) λov Ek=>?_;obtain⟨ce,_,k⟩:=Ek;exact⟨_,k sl hs,ce⟩
inductive Jg(c:ah):D->zo->Prop
 |DD {p v:_} (h:DR (lk c.γ.R c.s.heap) p v):Jg c p v
 |sZ {l vs k a:_} (h:c.s.heap.get? a=some (aO vs k)) (d:aU (lk c.γ.R c.s.heap) l vs):Jg c (.list l) (.ref a)
 |vc {bT ps a:_} (n:(a==sysModules)=false) (m:c.s.heap.DictOf (strKind prog w) a ps) (d:iL (lk c.γ.R c.s.heap) bT ps):Jg c (.dict bT) (.ref a)
theorem q7{c:ah}{a:AV}{p:D}(I:Inv fx c)(h:du fx c a v)(e:mm c.e c.g a=some p):Jg c p v:=by
 cases a with
 |d q=>exact .DD (zh e▸h)
 |w i=>
  refine zg (λTH El=>?_) h;obtain⟨x,o,hx⟩:=El;refine gR TH ?_;refine ze (bind_some e) λsl tJ=>?_;obtain⟨hs,e⟩:=tJ;refine ze (slot_of I hx hs) λov Em=>?_;obtain⟨k,_⟩:=Em;cases sl with
  |ol l=>refine zg (λ_ Eo=>?_) k;obtain⟨_,vs,q,e',d⟩:=Eo;exact zh e▸.sZ e' d
  |ro l=>refine zg (λ_ iV=>?_) k;obtain⟨_,vs,q,e',d⟩:=iV;exact zh e▸.sZ e' d
  |od l=>refine zg (λ_ Ou=>?_) k;obtain⟨r,ps,e',d⟩:=Ou;exact zh e▸.vc (I.g.jA (bA r rfl)) e' d
  |un=>exact ns e
  |v a=>exact ns e
 |o n=>
  refine zg (λoV hn=>?_) h;refine gR oV ?_;refine ze (bind_some e) λob vF=>?_;obtain⟨hs,e⟩:=vF;have k:=I.g.objs n ob hs;cases ob with
  |list l=>refine zg (λ_ lM=>?_) k;obtain⟨vs,q,e',d⟩:=lM;exact zh e▸.sZ e' d
  |dict es=>exact ns e
  |inst a b=>exact ns e
theorem fL{c:ah}{a:AV}{p:D}(I:Inv fx c)(h:du fx c a v)(e:mm c.e c.g a=some p):DR c.s.heap.get? p v:=
 match p,v,q7 I h e with
 |_,_,.DD d=>DR.sub (cM _ _) d
 |_,_,.sZ k d=>⟨_,_,_,rfl,k,d.sub (cM _ _)⟩
 |_,_,.vc n m d=>⟨_,_,rfl,n,m,iL.sub (cM _ _) d⟩
end
variable{c c' c1 c₀ c2:ah}{src:AV}
def Rn{α:Type}(call:Call)(x:W α)(r:R α):Prop:=aF (x.run call=r) (r≠.no)
section
variable{δ:Type}{call:Call}{x:W α}{f:α->W β}{r:R β}{r':R α}
theorem Rn.vd(h:Rn call (x.bind f) r):Rn call x (x.run call):=⟨rfl,λe=>h.2 (h.1.symm.trans (W.hO.trans (congrArg (R.bind · _) e)))⟩
theorem Rn.at{a:α}(h:Rn call (x.bind f) r)(e:x.run call=.ok a):Rn call (f a) r:=⟨((W.hO.trans (congrArg (R.bind · _) e)).symm.trans h.1),h.2⟩
theorem Rn.exc{p:D}(h:Rn call (x.bind f) r)(e:x.run call=.ex p g):r=.ex p g:=h.1.symm.trans (W.hO.trans (congrArg (R.bind · _) e))
theorem Rn.opt{o:Option α}(h:Rn call ((Lw.opt o).bind f) r)(k:∀a,o=some a->Rn call (f a) r->P):P:=by
 cases o with
 |none=>exact absurd h.1.symm h.2
 |some a=>exact k a rfl h
theorem Rn.fH{o:O α}(h:Rn call ((Lw.fH o).bind f) r)(k:∀a,o.is a->Rn call (f a) r->P):P:=by
 induction o with
 |n=>exact absurd h.1.symm h.2
 |s a=>exact k a rfl h
 |c b x ih=>cases b with
  |false=>exact absurd h.1.symm h.2
  |true=>exact ih h λa q=>k a ⟨rfl,q⟩
theorem Rn.Ov{o:O β}(h:Rn call (Lw.fH o) r)(k:∀a,o.is a->r=.ok a->P):P:=by
 induction o with
 |n=>exact absurd h.1.symm h.2
 |s a=>exact k a rfl h.1.symm
 |c b x ih=>cases b with
  |false=>exact absurd h.1.symm h.2
  |true=>exact ih h λa q=>k a ⟨rfl,q⟩
theorem Rn.eq{x y:W α}(e:x=y)(h:Rn call x r'):Rn call y r':=e▸h
theorem Rn.bu{g:β->W δ}{r:R δ}(h:Rn call ((x.bind f).bind g) r):Rn call (x.bind λa=>(f a).bind g) r:=h.eq W.bind_assoc
theorem Rn.mH{ε:Type}{o:α->W ε}{f:α->ε->W β}{g:β->W δ}{r:R δ}(h:Rn call ((x.bind λy=>(o y).bind (f y)).bind g) r):Rn call (x.bind λy=>(o y).bind λz=>(f y z).bind g) r:=
 (Rn.bu h).eq (congrArg _ (funext λ_=>W.bind_assoc))
theorem Rn.bO{b:Bool}{x:W α}{r:R α}(h:Rn call (.bO b x) r):aF (b=true) (Rn call x r):=by
 cases b with
 |true=>exact⟨rfl,h⟩
 |false=>exact absurd h.1.symm h.2
theorem Rn.okv{y:β}(h:Rn call (x.bind f) (.ok y))(k:∀a,Rn call x (.ok a)->Rn call (f a) (.ok y)->P):P:=by
 have b:=h.vd;cases e:x.run call with
 |ok a=>exact k a (e▸b) (h.at e)
 |ex p g=>exact nomatch h.exc e
 |no=>exact absurd e b.2
theorem Rn.eY{f:α->W β}(h:Rn call (x.eY (okR f)) r)(k:∀a,Rn call x (.ok a)->Rn call (f a) r->P):P:=by
 have e:=(W.xv rfl).symm.trans h.1;cases q:x.run call with
 |ok a=>exact k a ⟨q,nofun⟩ ⟨(congrArg (λz=>(okR f z).run call) q).symm.trans e,h.2⟩
 |_=>exact absurd ((congrArg (λz=>(okR f z).run call) q).symm.trans e).symm h.2
theorem Rn.no{r:R α}(h:Rn call .no r):P:=absurd h.1.symm h.2
end
section
variable(A:ZV)(call:Call)(fx:Fx)
def ai(ce:CE):Prop:=∀(c:ah) r,Inv fx c->Rn call (cC T.tb ce c.e c.g) r->
 zx (zv prog w) A (YJ (aH T.tb.nm ce) fx.env) (QE fx c r) (XE c r) c.s
noncomputable def Ep(c:ah):List AV->List zo->Prop
 |[],vs=>vs=[]
 |a::r,vs=>c8 λv t=>aG (vs=v::t) (du fx c a v) (Ep c r t)
end
section
variable{A:ZV}{call:Call}{fx:Fx}{r:R β}
theorem XE.up{x:W α}{f:α->W β}(K:Ext c₀ c)(er:Rn call (x.bind f) r)(q:XE c (x.run call) v s'):XE c₀ r v s':=
 match q with
 |⟨p,g',γ',h⟩=>XE.from K ⟨p,g',γ',er.exc h.1,h.2,h.3,h.4,h.5⟩
theorem ai.d7{ce:CE}(h:ai A call fx ce)(I:Inv fx c)(K:Ext c₀ c){f:AV×Env×G->W β}(er:Rn call ((cC T.tb ce c.e c.g).bind f) r)
  (k:∀a c' v,Rn call (f (a,c'.e,c'.g)) r->Inv fx c'->Ext c₀ c'->du fx c' a v->Ext c c'->Q v c'.s):
  zx (zv prog w) A (YJ (aH T.tb.nm ce) fx.env) Q (XE c₀ r) c.s:=
 zI (h c _ I er.vd) (λv _ hq=>match hq with
  |⟨a,c',q⟩=>q.2▸k a c' v (er.at q.1) q.3 (K.trans q.4) q.5 q.4) λ_ _=>XE.up K er
theorem ai.hY{ce:CE}(h:ai A call fx ce)(I:Inv fx c)(K:Ext c₀ c){f:AV×Env×G->W β}(er:Rn call ((cC T.tb ce c.e c.g).bind f) r)
  (k:∀a c' v,Rn call (f (a,c'.e,c'.g)) r->Inv fx c'->Ext c₀ c'->du fx c' a v->Ext c c'->Q v c'.s):
  zx (zv prog w) A (YJ (aH T.tb.nm ce) fx.env) Q (XS fx c₀ r) c.s:=
 zI (h.d7 I (.refl c) er λa c' v e I' _ V K2=>k a c' v e I' (K.trans K2) V K2) (λ_ _ q=>q) λ_ _ q=>XS.jD K.x (q.tI I)
theorem ai.mI{ce:CE}(h:ai A call fx ce)(I:Inv fx c)(K:Ext c₀ c){r:R (AV×Env×G)}(er:Rn call (cC T.tb ce c.e c.g) r):zx (zv prog w) A (YJ (aH T.tb.nm ce) fx.env) (QE fx c₀ r) (XE c₀ r) c.s:=
 zI (h c r I er) (λ_ _=>QE.from K) λ_ _=>XE.from K
theorem QE.data{p:D}{r:R (AV×Env×G)}(I:Inv fx c)(K:Ext c₀ c)(k:ae c.s s')(er:r=.ok (.d p,c.e,c.g))(h:DR (lk c.γ.R s'.heap) p v):
  QE fx c₀ r v s':=er▸QE.from K (QE.dD I k h)
theorem vL(I:Inv fx c)(h:c.s.heap.get? a=none)(h':s'.heap.get? a=some o):lk c.γ.R s'.heap a=some o:=aB (I.g.bU h) h'
theorem bR(k:ae s s'):Sub (lk γ.R s.heap) (lk γ.R s'.heap):=λb o e=>let⟨r,e'⟩:=aw e;aB r (k.sub _ _ e')
theorem TJ k p (hk:∀j,k=.str j->Zh (T.tb.nm j)=true):ai A call fx (.k k p):=λc r I h=>by
 cases k with
 |none=>exact wpAny_Constant_none (QE.data I (.refl _) (.refl _) h.1.symm rfl)
 |bool b=>exact wpAny_Constant_bool (QE.data I (.refl _) (.refl _) h.1.symm rfl)
 |int i=>exact wpAny_Constant_int (QE.data I (.refl _) (.toks _ _) h.1.symm ⟨_,rfl⟩)
 |str k=>exact Y6 (QE.data I (.refl _) (.toks _ _) h.1.symm ⟨hk k rfl,_,rfl⟩)
theorem Jh i (p' p:Pos):ai A call fx (.neg i p' p):=λc r I h=>
 wpAny_UnaryOp (wpAny_Constant_int (PyProof.Rows.neg_int (QE.data I (.refl _) ((ae.toks _ _).trans (ae.toks _ _)) h.1.symm ⟨_,rfl⟩)))
theorem Er{sl:Slot}{a:AV}(k:aJ c.γ c.g.length c.s.heap ov i sl){x:Str}{o:Option zJ}(hx:(i,x,o)∈fx.lay)
  (h:Mh i sl=some a):∃v,ov=some v/\du fx c a v:=by
 cases sl with
 |un=>exact ns h
 |v b=>obtain rfl:=zh h;exact ze k λv Ms=>⟨v,Ms.1,du.Jf Ms.2⟩
 |_=>obtain rfl:=zh h;exact⟨_,k.1,rfl,x,o,hx⟩
theorem ky(ok:bF fx){i:Nat}{x:Str}{o:Option zJ}{p:Pos}(hx:(i,x,o)∈fx.lay){v:zo}{E:zo->zt->Prop}{Q:zo->zt->Prop}
  (h:(match o with |none=>∃m,c.s.heap.Ns fx.env.locals m/\m x=some v |some a=>c.s.heap.IsCell a (some v))) (q:Q v c.s):zx (zv prog w) A (YJ (.Name x p) fx.env) Q E c.s:=by
 cases o with
 |none=>
  obtain⟨m,n,e⟩:=h;exact wpAny_Name (wpAny_loadName_local ok.kind (ok.loc i x hx).1 n e q) (ok.loc i x hx).2
 |some a=>
  have k:=ok.DC i x a hx;exact k.1.elim (λk1=>wpAny_Name (wpAny_loadName_cell ok.kind k1 k.2.1 h q) k.2.2.1) λk1=>wpAny_Name (wpAny_loadName_free ok.kind k1.1 k.2.1 h q k1.2) k.2.2.1
theorem TK(ok:bF fx){x:Nat}{o:Option zJ}(hx:(i,T.tb.nm x,o)∈fx.lay):ai A call fx (.v i x p):=λc r I h=>h.opt λa ea h=>by
 refine ze (bind_some ea) λsl Ow=>(zg (λhs ha=>?_) Ow);refine ze (slot_of I hx hs) λov lM=>(ze (Er lM.1 hx ha) λv Ox=>?_);obtain⟨e,V⟩:=Ox;subst e;exact ky ok hx lM.2 ⟨a,c,h.1.symm,rfl,I,.refl _,V⟩
theorem q8{a:AV}{b:Bool}(h:DQ a=some b):a=.d (.bool b):=by
 cases a with
 |d p=>
  cases p with
  |bool c=>exact congrArg (λb=>AV.d (.bool b)) (zh h)
  |_=>exact ns h
 |_=>exact ns h
theorem Ji{a:CE}(ha:ai A call fx a):ai A call fx (.not a p):=λc r I h=>
 wpAny_UnaryOp (ha.d7 I (.refl _) h λa1 c1 v1 h I1 K1 V1 _=>h.opt λb eb h=>by
  cases q8 eb;exact gR V1 (PyProof.Rows.not_of (wpAny_truthy_bool (QE.data I1 K1 (.refl _) h.1.symm rfl))))
end
section
variable(A:ZV)(call:Call)(fx:Fx)
def eH(tb:Tb)(t:CE)(e:Env)(g:G):W (Bool×Env×G):=(cC tb t e g).bind λy=>(opt (DQ y.1)).bind λb=>.ok (b,y.2)
def QB(c:ah)(r:R (Bool×Env×G))(b:Bool)(s':zt):Prop:=∃c',dQ (r=.ok (b,c'.e,c'.g)) (c'.s=s') (Inv fx c') (Ext c c')
def ct(ce:CE):Prop:=∀(c:ah) r,Inv fx c->Rn call (eH T.tb ce c.e c.g) r->
 zx (zv prog w) A (isTrue (aH T.tb.nm ce) fx.env (YJ (aH T.tb.nm ce) fx.env)) (QB fx c r) (XE c r) c.s
end
section
variable{A:ZV}{call:Call}{fx:Fx}{r:R β}
theorem ct.d7{ce:CE}(h:ct A call fx ce)(I:Inv fx c)(K:Ext c₀ c){f:Bool×Env×G->W β}{Q:Bool->zt->Prop}(er:Rn call ((eH T.tb ce c.e c.g).bind f) r)
  (k:∀b c',Rn call (f (b,c'.e,c'.g)) r->Inv fx c'->Ext c₀ c'->Q b c'.s):zx (zv prog w) A (isTrue (aH T.tb.nm ce) fx.env (YJ (aH T.tb.nm ce) fx.env)) Q (XE c₀ r) c.s:=
 zI (h c _ I er.vd) (λv _ hq=>match hq with
  |⟨c',q⟩=>q.2▸k v c' (er.at q.1) q.3 (K.trans q.4)) λ_ _=>XE.up K er
theorem ct.hY{ce:CE}(h:ct A call fx ce)(I:Inv fx c)(K:Ext c₀ c){f:Bool×Env×G->W β}{Q:Bool->zt->Prop}(er:Rn call ((eH T.tb ce c.e c.g).bind f) r)
  (k:∀b c',Rn call (f (b,c'.e,c'.g)) r->Inv fx c'->Ext c₀ c'->Q b c'.s):zx (zv prog w) A (isTrue (aH T.tb.nm ce) fx.env (YJ (aH T.tb.nm ce) fx.env)) Q (XS fx c₀ r) c.s:=
 zI (h.d7 I (.refl c) er λb c' e I' K'=>k b c' e I' (K.trans K')) (λ_ _ q=>q) λ_ _ q=>XS.jD K.x (q.tI I)
theorem ct.mI{ce:CE}(h:ct A call fx ce)(I:Inv fx c)(K:Ext c₀ c){r:R (Bool×Env×G)}(er:Rn call (eH T.tb ce c.e c.g) r):zx (zv prog w) A (isTrue (aH T.tb.nm ce) fx.env (YJ (aH T.tb.nm ce) fx.env)) (QB fx c₀ r) (XE c₀ r) c.s:=
 zI (h c r I er) (λ_ _ ⟨c',q⟩=>⟨c',q.1,q.2,q.3,K.trans q.4⟩) λ_ _=>XE.from K
theorem Es{ce:CE}(h:ai A call fx ce)
  (hd:isTrue (aH T.tb.nm ce) fx.env (YJ (aH T.tb.nm ce) fx.env)=(do let v ←YJ (aH T.tb.nm ce) fx.env;standAt (aH T.tb.nm ce).pos;holding [v] (truthy v))):ct A call fx ce:=λc r I er=>by
 exact gR hd (zf (h.d7 I (.refl _) er λa1 c1 v1 e I1 K1 V1 _=>e.opt λb eb e=>by
  cases q8 eb;exact gR V1 (zf (wpAny_standAt (zT (wpAny_truthy_bool ⟨c1,e.1.symm,rfl,I1,K1⟩))))))
theorem Rn.bool{t:CE}{tb:Tb}{F:Bool->Env×G->W β}(h:Rn call ((cC tb t e g).bind λy=>(Lw.opt (DQ y.1)).bind λb=>F b y.2) r):Rn call ((eH tb t e g).bind λy=>F y.1 y.2) r:=
 h.eq (((W.bind_assoc).trans (congrArg _ (funext λ_=>W.bind_assoc))).symm)
theorem Et{a:CE}(ha:ct A call fx a):ct A call fx (.not a p):=λc r I h=>
 zf (ha.d7 I (.refl _) (Rn.bool (F:=λb y=>.ok (!b,y)) (Rn.mH h)) λb c1 e1 I1 K1=>zl ⟨c1,e1.1.symm,rfl,I1,K1⟩)
theorem Jj{t a b:CE}(ht:ct A call fx t)(ha:ai A call fx a)(hb:ai A call fx b):ai A call fx (.ite t a b p):=λc r I h=>
 zf (ht.d7 I (.refl _) (Rn.bool (F:=λc y=>.br p.line c (cC T.tb a y.1 y.2) (cC T.tb b y.1 y.2)) h) λv c1 h I1 K1=>by
  cases v with
  |true=>exact ha.mI I1 K1 h
  |false=>exact hb.mI I1 K1 h)
theorem Eu{t a b:CE}(ht:ct A call fx t)(ha:ct A call fx a)(hb:ct A call fx b):ct A call fx (.ite t a b p):=λc r I h=>
 zf (ht.d7 I (.refl _) (Rn.bool (F:=λc y=>.br p.line c (eH T.tb a y.1 y.2) (eH T.tb b y.1 y.2)) (Rn.mH h)) λv c1 h I1 K1=>by
  cases v with
  |true=>exact ha.mI I1 K1 h
  |false=>exact hb.mI I1 K1 h)
end
variable{t t1 t2:Bool}{sl:Slot}{ce:CE}
noncomputable def gm(P:CE->Prop):cz->Prop
 |.nil=>True
 |.cons a r=>P a/\gm P r
theorem cz.ind{P:cz->Prop}(h0:P .nil)(h1:∀a r,P r->P (.cons a r)):∀es,P es
 |.nil=>h0
 |.cons a r=>h1 a r (cz.ind h0 h1 r)
section
variable{call:Call}
theorem vM k op p:∀es,gm (ai A call fx) es->∀(c₀ c:ah) r,Inv fx c->Ext c₀ c->Rn call (Sz T.tb k op es c.e c.g) r->
  zx (zv prog w) A (boolOp p op (evalEach (cn T.tb.nm es) fx.env)) (QE fx c₀ r) (XE c₀ r) c.s:=by
 refine cz.ind (λ_ _ _ _ _ _ h=>Rn.no h) λa r ih=>?_;intro ha c₀ c r' I K h;cases r with
 |nil=>
  exact ha.1.d7 I K h λa1 c1 v1 h I1 K1 V1 _=>h.opt λb eb h=>by
   cases q8 eb;exact⟨_,c1,h.1.symm,rfl,I1,K1,V1⟩
 |cons b es=>
  exact zf (ha.1.d7 I K h λa1 c1 v1 h I1 K1 V1 _=>h.opt λv eb h=>by
   cases q8 eb;subst V1;refine zf (wpAny_standAt (zf (zT (wpAny_truthy_bool ?_))));cases op <;> cases v
   ·exact zl ⟨_,c1,h.1.symm,rfl,I1,K1,rfl⟩
   ·exact ih ha.2 c₀ c1 r' I1 K1 h
   ·exact ih ha.2 c₀ c1 r' I1 K1 h
   ·exact zl ⟨_,c1,h.1.symm,rfl,I1,K1,rfl⟩)
theorem Jk{op:BoolOp}{es:cz}(h:gm (ai A call fx) es):ai A call fx (.NO op es p):=λc r I er=>vM p.line op p es h c c r I (.refl _) er
def Oy(tb:Tb)(k:Nat)(op:BoolOp)(es:cz)(e:Env)(g:G):W (Bool×Env×G):=(Sz tb k op es e g).bind λy=>(opt (DQ y.1)).bind λb=>.ok (b,y.2)
theorem tK k op:∀es,gm (ct A call fx) es->∀(c₀ c:ah) r,Inv fx c->Ext c₀ c->Rn call (Oy T.tb k op es c.e c.g) r->
  zx (zv prog w) A (allTrue op (cn T.tb.nm es) fx.env) (QB fx c₀ r) (XE c₀ r) c.s:=by
 refine cz.ind (λ_ _ _ _ _ _ h=>Rn.no h) λa r ih=>?_;intro ha c₀ c r' I K h;cases r with
 |nil=>
  exact zf (ha.1.d7 I K (Rn.bool (F:=λb y=>.ok (b,y)) (Rn.mH h)) λb c1 h I1 K1=>by
   cases op <;> cases b <;> exact zl ⟨c1,h.1.symm,rfl,I1,K1⟩)
 |cons b es=>
  cases op
  ·exact zf (ha.1.d7 I K (Rn.bool (F:=λv y=>.br k v (Oy T.tb k .And (.cons b es) y.1 y.2) (.ok (false,y))) (Rn.mH h)) λv c1 h I1 K1=>by
    cases v
    ·exact zl ⟨c1,h.1.symm,rfl,I1,K1⟩
    ·exact ih ha.2 c₀ c1 r' I1 K1 h)
  ·exact zf (ha.1.d7 I K (Rn.bool (F:=λv y=>.br k v (.ok (true,y)) (Oy T.tb k .Or (.cons b es) y.1 y.2)) (Rn.mH h)) λv c1 h I1 K1=>by
    cases v
    ·exact ih ha.2 c₀ c1 r' I1 K1 h
    ·exact zl ⟨c1,h.1.symm,rfl,I1,K1⟩)
theorem Ew{op:BoolOp}{es:cz}(h:gm (ct A call fx) es):ct A call fx (.NO op es p):=λc r I er=>tK p.line op es h c c r I (.refl _) er
def vN(c:ah)(p:D)(u:zo)(l:List D):Prop:=
 mi λa vs n=>aG (u=.ref a) (aU (lk c.γ.R c.s.heap) l vs) (p=.tuple l/\lk c.γ.R c.s.heap a=some (fJ vs n)\/p=.list l/\c.s.heap.get? a=some (aO vs n))
theorem cu{a:AV}{p:D}(I:Inv fx c)(h:du fx c a v)(e:mm c.e c.g a=some p){l:List D}(el:bQ p=some l):vN c p v l:=by
 cases q7 I h e with
 |DD d=>
  cases p with
  |tuple xs=>obtain rfl:=zh el;obtain⟨a,vs,n,q,k,r⟩:=d;exact⟨a,vs,n,q,r,.inl ⟨rfl,k⟩⟩
  |list xs=>obtain rfl:=zh el;obtain⟨a,vs,n,q,k,r⟩:=d;exact⟨a,vs,n,q,r,.inr ⟨rfl,(aw k).2⟩⟩
  |_=>exact ns el
 |sZ k d=>obtain rfl:=zh el;exact⟨_,_,_,rfl,d,.inr ⟨rfl,k⟩⟩
 |vc _ _ _=>exact ns el
theorem tL{a:AV}{bT:List (D×D)}(I:Inv fx c)(h:du fx c a v)(e:mm c.e c.g a=some (.dict bT)):c8 λad ps=>dQ (v=.ref ad) ((ad==sysModules)=false) (c.s.heap.DictOf (zR prog w) ad ps) (iL (lk c.γ.R c.s.heap) bT ps):=by
 cases q7 I h e with
 |DD d=>obtain⟨ad,ps,e,n,m,r⟩:=d;exact⟨ad,ps,e,n,m.sub (cM _ _),r⟩
 |vc n m d=>exact⟨_,_,rfl,n,m,d⟩
theorem gp{x y:Str}(hx:Zh x=true)(hy:Zh y=true):Zh (x++y)=true:=by unfold Zh at*;refine gR (Str.cps_append ..) (gR Array.all_append (gR (zY ..) ?_));exact⟨hx,hy⟩
theorem Jl{p:D}(I:Inv fx c)(hu:DR c.s.heap.get? p u)(hv:DR c.s.heap.get? q v)(he:(Sf p q).is r)
  (fu:∀l,bQ p=some l->vN c p u l) (fv:∀l,bQ q=some l->vN c q v l)  
  (k:∀z s',ae c.s s'->DR (lk c.γ.R s'.heap) r z->Q z s'):zx (zv prog w) A (binaryOp .Add u v) Q E c.s:=by
 cases p with
 |int i=>
  exact O.cV he λj e he=>by
   cases dR e;obtain⟨t,Ey⟩:=hu;refine gR Ey ?_;refine ze hv λt' TL=>(gR TL ?_);exact Oj λs' k' g _=>k _ s' g (he▸⟨_,rfl⟩)
 |str x=>
  exact O.cV he λy e he=>by
   cases fU e;obtain⟨ox,t,TM⟩:=hu;refine gR TM ?_;refine zg (λoy tD=>?_) hv;refine ze tD λt' q9=>(gR q9 ?_);exact Oo (of_decide_eq_true he.1) λs' k' g _=>k _ s' g (he.2▸⟨gp ox oy,_,rfl⟩)
 |tuple x=>
  exact O.cV he λy e he=>by
   cases fV e;obtain⟨a,vs,n,qa⟩:=fu _ rfl;obtain⟨b,ws,m,qb⟩:=fv _ rfl;refine gR qa.1 (gR qb.1 ?_);have ha:=(qa.3.resolve_right λq=>nomatch q.1).2;have hb:=(qb.3.resolve_right λq=>nomatch q.1).2;exact Oq (aw ha).2 (aw hb).2 (qa.2.length▸qb.2.length▸of_decide_eq_true he.1) λs' d k' g hd hw=>
    k _ s' g (he.2▸⟨d,vs++ws,k',rfl,aB (hw.elim (λe=>e▸(aw ha).1) λhw=>hw.elim (λe=>e▸(aw hb).1) I.g.bU) hd,(qa.2.sub (bR g)).append (qb.2.sub (bR g))⟩)
 |list x=>
  exact O.cV he λy e he=>by
   cases eT e;obtain⟨a,vs,n,qa⟩:=fu _ rfl;obtain⟨b,ws,m,qb⟩:=fv _ rfl;refine gR qa.1 (gR qb.1 ?_);have G:=ae.push c.s (aO (vs++ws) 0);exact Eg (qa.3.resolve_left λq=>nomatch q.1).2 (qb.3.resolve_left λq=>nomatch q.1).2 (qa.2.length▸qb.2.length▸of_decide_eq_true he.1)
    (k _ _ G (he.2▸⟨_,vs++ws,0,rfl,aB (I.g.bU (ao _)) (zq _ rfl),(qa.2.append qb.2).sub (bR G)⟩))
 |_=>exact he.elim
theorem Ez{op:adU}{i j:Int}{t t':Tok}(he:(binI op i j).is r)
  (k:∀z s',ae c.s s'->DR (lk c.γ.R s'.heap) r z->Q z s'):zx (zv prog w) A (binaryOp op (.int i t) (.int j t')) Q E c.s:=by
 cases op with
 |Sub=>exact Ol λs' k' g _=>k _ s' g (he▸⟨_,rfl⟩)
 |Mult=>
  have h1:=of_decide_eq_true (aa he.1).1;exact PyProof.Rows.mul_int (k _ _ (ae.toks _ _) (he.2▸⟨_,rfl⟩)) (.of_left (intBits_le_64 (nb (ZA h1 (by decide:2 ^ 31<2 ^ 64))).1 (nb (ZA h1 (by decide:2 ^ 31<2 ^ 64))).2))
 |Mod=>exact Om (of_decide_eq_true he.1) λs' k' g _=>k _ s' g (he.2▸⟨_,rfl⟩)
 |_=>exact he.elim
theorem BU{op:adU}{p:D}(I:Inv fx c)(hu:DR c.s.heap.get? p u)(hv:DR c.s.heap.get? q v)(he:(Sg op p q).is r)
  (fu:∀l,bQ p=some l->vN c p u l) (fv:∀l,bQ q=some l->vN c q v l)  
  (k:∀z s',ae c.s s'->DR (lk c.γ.R s'.heap) r z->Q z s'):zx (zv prog w) A (binaryOp op u v) Q E c.s:=by
 by_cases ho:op=.Add
 ·subst ho
  exact Jl I hu hv he fu fv k
 ·have he:((DM p).bind λi=>(DM q).bind λj=>binI op i j).is r:=by
   cases op with
   |Add=>exact absurd rfl ho
   |_=>exact he
  exact O.iz he λi e he=>O.iz he λj e' h2=>by
   cases xx e;cases xx e';obtain⟨t,TN⟩:=hu;refine gR TN ?_;refine ze hv λt' EA=>(gR EA ?_);exact Ez h2 k
theorem Jm{op:adU}{a b:CE}(ha:ai A call fx a)(hb:ai A call fx b):ai A call fx (.j6 op a b p):=λc r I h=>
 wpAny_BinOp (ha.d7 I (.refl _) h λa1 c1 v1 h I1 K1 V1 _=>hb.d7 I1 K1 h λa2 c2 v2 h I2 K2 V2 fT=>h.opt λq1 d1 h=>h.opt λq2 d2 h=>h.fH λq3 d3 h=>
  BU I2 (fL I2 (V1.au fT) d1) (fL I2 V2 d2) d3 (λl=>cu I2 (V1.au fT) d1) (λl=>cu I2 V2 d2) λz s' g d=>QE.data I2 K2 g h.1.symm d)
end
variable{es ifs:cz}
set_option tactic.hygienic true in
theorem EB(a b:aA):zD (aV a) (aV b)=decide (a=b):=by
 cases a <;> cases b <;> simp only[aV,zD,aA.i.injEq,aA.s.injEq,reduceCtorEq,decide_false]
 ·rename_i x y;by_cases h:x=y <;> simp[h]
 ·rename_i x y;by_cases h:x=y <;> simp[h]
theorem lr:∀(a b:List aA),YG (a.map aV) (b.map aV)=decide (a=b)
 |[],[]=>rfl
 |[],_::_=>by simp[YG]
 |_::_,[]=>by simp[YG]
 |x::a,y::b=>by
  simp only[Zo,YG,EB,lr a b,aeg];by_cases h1:x=y <;> by_cases h2:a=b <;> simp[h1,h2]
theorem jE(a b:List aA):zD (.tuple (a.map aV)) (.tuple (b.map aV))=decide (a=b):=by simp only[zD,lr]
theorem cw(a b:Str):zD (.str a) (.str b)=decide (a=b):=by simp only[zD];by_cases h:a=b <;> simp[h]
theorem vO{p:D}(h:hV p=true):∃l,p=aV l:=by
 cases p with
 |int i=>exact⟨.i _,rfl⟩
 |str s=>exact⟨.s _,rfl⟩
 |_=>exact absurd h zi
theorem tM:∀{xs:List D},xs.all hV=true->∃ks:List aA,xs=ks.map aV
 |[],_=>⟨[],rfl⟩
 |x::r,h=>by
  rw[Z9,zY] at h;obtain⟨l,TO⟩:=vO h.1;refine gR TO ?_;obtain⟨ks,TP⟩:=tM h.2;refine gR TP ?_;exact⟨l::ks,rfl⟩
theorem ba{p:D}(h:isStr p=true):∃x,p=.str x:=by
 cases p with
 |str x=>exact⟨_,rfl⟩
 |_=>exact absurd h zi
theorem vP{p:D}(h:i7 p=true):∃ks:List aA,p=.tuple (ks.map aV):=by
 cases p with
 |tuple l=>exact ze (tM h) λks e=>⟨ks,congrArg _ e⟩
 |_=>exact absurd h zi
section
variable{call:Call}
theorem Jn{l:aA}(h:DR L (aV l) v):mz l v=true:=by
 cases l with
 |i n=>exact ze h λt TQ=>(gR TQ (beq_self_eq_true _))
 |s x=>refine zg (λ_ TR=>?_) h;obtain⟨t,TS⟩:=TR;exact gR TS (beq_self_eq_true _)
theorem qd:∀{ks:List aA} {vs:List zo},aU L (ks.map aV) vs->ItemsAre (aE) ks vs
 |[],_,h=>by obtain rfl:_=_:=h;exact .nil
 |_::_,_,h=>by
  obtain⟨v,t,EC,a,b⟩:=h;refine gR EC ?_;exact .cons (Jn a) (qd b)
theorem kz(d:DR h.get? (.tuple (ks.map aV)) v):∃a,v=.ref a/\Y4 (aE) h ks a:=by obtain⟨a,vs,n,TU,e,k⟩:=d;refine gR TU ?_;exact⟨a,rfl,_,_,n,e,rfl,rfl,by simpa using qd k⟩
abbrev vQ{α β:Type}(R:α->β->Prop)(x:Option α)(y:Option β):Prop:=(∀av,x=some av->∃v,y=some v/\R av v)/\(x=none->y=none)
theorem vQ.ite{α β:Type}{R:α->β->Prop}{c:Bool}{p:Prop}[Decidable p]{a:α}{b:β}{x:Option α}{y:Option β}(e:c=decide p)(h:R a b)(i:vQ R x y):vQ R (if c then some a else x) (if p then some b else y):=by
 by_cases q:p
 ·refine gR e (gR (decide_eq_true q ..) ?_);refine gR (if_pos rfl ..) (gR (if_pos q ..) ?_)
  exact⟨λ_ z=>⟨b,rfl,zh z▸h⟩,λz=>ns z.symm⟩
 ·refine gR e (gR (decide_eq_false q ..) ?_);refine gR (if_neg zi ..) (gR (if_neg q ..) ?_)
  exact i
theorem lW{R:α->β->Prop}{c:Bool}{p:Prop}[Decidable p]{a a':α}{b b':β}(e:c=decide p)(h1:R a b)(h2:R a' b'):R (if c then a else a') (if p then b else b'):=by
 by_cases q:p
 ·refine gR e (gR (decide_eq_true q ..) ?_);refine gR (if_pos rfl ..) (gR (if_pos q ..) ?_);exact h1
 ·refine gR e (gR (decide_eq_false q ..) ?_);refine gR (if_neg zi ..) (gR (if_neg q ..) ?_);exact h2
theorem xM{K:Type}[DecidableEq K](s x:K)(v:α) t:Option.map (·.2) (List.find? (λkv=>decide (kv.1=x)) ((s,v)::t))=if s=x then some v else Option.map (·.2) (List.find? (λkv=>decide (kv.1=x)) t):=by
 refine gR List.find?_cons ?_;by_cases q:s=x
 ·refine gR (if_pos q ..) (gR (decide_eq_true q ..) ?_);rfl
 ·exact gR (if_neg q ..) (gR (decide_eq_false q ..) rfl)
theorem gq{K:Type}[DecidableEq K](s x:K) v t:valueAt ((s,v)::t) x=if s=x then some v else valueAt t x:=xM s x v t
theorem vR{K:Type}[DecidableEq K](s x:K) v t:atKey ((s,v)::t) x=if s=x then some v else atKey t x:=xM s x v t
theorem jF{len:Nat}{x:Str}:∀{es:List (D×AV)} {ps:List (Str×zo)},iU γ len h es ps->vQ (cN γ len h) (e6 (.str x) es) (valueAt ps x)
 |[],_,k=>by
  obtain rfl:_=_:=k;exact⟨λ_ e=>ns e,λ_=>rfl⟩
 |(_,av)::r,_,⟨s,v,t,rfl,rfl,_,a,b⟩=>by
  exact gR (gq ..) (.ite (cw s x) a (jF b))
theorem lX{len:Nat}:∀{es:List (D×AV)} {xs:List (List aA×zJ×zo)},jo γ len h es xs->vQ (λav p=>cN γ len h av p.2) (e6 (.tuple (ks.map aV)) es) (atKey xs ks)
 |[],_,k=>by
  obtain rfl:_=_:=k;exact⟨λ_ e=>ns e,λ_=>rfl⟩
 |(_,av)::r,_,⟨RC,a',v,t,rfl,rfl,_,a,b⟩=>by
  exact gR (vR ..) (.ite (jE RC ks) a (lX b))
theorem Jo{len:Nat}{es:List (D×AV)}{xs:List (List aA×zJ×zo)}(k:jo γ len h es xs)(hs:es.all (λe=>isStr e.1)=true):es=[]/\xs=[]:=by
 cases es with
 |nil=>exact⟨rfl,k⟩
 |cons e r=>obtain⟨ks,a,v,t,_,q,_⟩:=k;simp only[Z9,zY] at hs;rw[q] at hs;exact absurd hs.1 zi
theorem Jp{len:Nat}{es:List (D×AV)}(k:iU γ len h es ps)(hs:es.all (λe=>i7 e.1)=true):es=[]/\ps=[]:=by
 cases es with
 |nil=>exact⟨rfl,k⟩
 |cons e r=>obtain⟨s,v,t,_,q,_,_⟩:=k;simp only[Z9,zY] at hs;rw[q] at hs;exact absurd hs.1 zi
theorem BV(x:h.DictOfH (tupleKind (aE)) a []):h.DictOf (zR prog w) a []:=by
 refine ze x λo TV=>(ze TV λes ED=>?_);obtain⟨ep,ho,hc,hd,he,_,_⟩:=ED;have:es=#[]:=by simpa using he
 subst this;exact⟨o,#[],ep,ho,hc,hd,λ_ he=>by simp at he,.nil,adH⟩
theorem BW(x:h.DictOf (zR prog w) a []):h.DictOfH (tupleKind (aE)) a []:=by
 refine ze x λo TX=>(ze TX λes TY=>?_);obtain⟨ep,ho,hc,hd,_,he,_⟩:=TY;have:es=#[]:=by have:=he.length;simpa using this
 subst this;exact⟨o,#[],ep,ho,hc,hd,rfl,(λx hx=>by simp at hx),adH⟩
theorem dX{len:Nat}{n:Nat}{es:List (D×AV)}(o:dW γ len h n (.dict es))(hs:es.all (λe=>isStr e.1)=true):∃ps,h.DictOf (zR prog w) (γ.aI n).1 ps/\iU γ len h es ps:=by
 refine zg (λ_ TZ=>?_) o;obtain⟨ps,a,b⟩ |⟨xs,a,b⟩:=TZ
 ·exact⟨ps,a,b⟩
 ·obtain⟨T1,rfl⟩:=Jo b hs;refine gR T1 ?_
  exact⟨[],BV a,rfl⟩
theorem iB{len:Nat}{n:Nat}{es:List (D×AV)}(o:dW γ len h n (.dict es))(hs:es.all (λe=>i7 e.1)=true):
  ∃xs,h.DictOfH (tupleKind (aE)) (γ.aI n).1 xs/\jo γ len h es xs:=by
 refine zg (λ_ T3=>?_) o;obtain⟨ps,a,b⟩ |⟨xs,a,b⟩:=T3
 ·obtain⟨T4,rfl⟩:=Jp b hs;refine gR T4 ?_
  exact⟨[],BW a,rfl⟩
 ·exact⟨xs,a,b⟩
theorem fq{k:D}{es:List (D×α)}(h:d6 k es=true):
  (∃x,k=.str x/\es.all (λe=>isStr e.1)=true)\/(∃ks:List aA,k=.tuple (ks.map aV)/\es.all (λe=>i7 e.1)=true):=by
 simp only[d6,Bool.or_eq_true,zY] at h;rcases h with⟨a,b⟩ |⟨a,b⟩
 ·obtain⟨x,rfl⟩:=ba a;exact .inl ⟨x,rfl,b⟩
 ·obtain⟨ks,rfl⟩:=vP a;exact .inr ⟨ks,rfl,b⟩
theorem eU(I:Inv fx c){n:Nat}{es:List (D×AV)}(e:c.g[n]? =some (.dict es)):((c.γ.aI n).1==sysModules)=false:=
 I.g.jA (by have:=I.g.objs n _ e;refine gR this.1 ?_;simp)
theorem ab7(I:Inv fx c)(hu:A.units+64<yA){n:Nat}{es:List (D×AV)}(e:c.g[n]? =some (.dict es)){k:D}(hk:DR c.s.heap.get? k u)(ok:d6 k es=true)
   (q:∀s',ae c.s s'->s'.heap=c.s.heap->Q (.bool (e6 k es).isSome) s'):zx (zv prog w) A (compareOp .In u (.ref (c.γ.aI n).1)) Q E c.s:=by
 have o:=I.g.objs n _ e;rcases fq ok with⟨x,rfl,h⟩ |⟨ks,rfl,h⟩
 ·obtain⟨_,t,EE⟩:=hk;refine gR EE ?_
  refine ze (dX o h) λps T5=>(zg (λd r=>?_) T5);refine Tp d (eU I e) ?_;have:(e6 (.str x) es).isSome=(valueAt ps x).isSome:=by
   refine zg (λi1 i2=>?_) (jF (x:=x) r);cases q:e6 (.str x) es with
   |none=>refine gR (i2 q ..) ?_;rfl
   |some av=>obtain⟨v,e,_⟩:=i1 av q;refine gR e ?_;rfl
  rwa [←this]
 ·obtain⟨a,tN,qf⟩:=kz hk;refine gR tN ?_
  refine ze (iB o h) λxs mG=>(zg (λd r=>?_) mG);refine Tq hu qf d (eU I e) ?_;have:(e6 (.tuple (ks.map aV)) es).isSome=(atKey xs ks).isSome:=by
   refine zg (λi1 i2=>?_) (lX (ks:=ks) r);cases q:e6 (.tuple (ks.map aV)) es with
   |none=>refine gR (i2 q ..) ?_;rfl
   |some av=>obtain⟨v,e,_⟩:=i1 av q;refine gR e ?_;rfl
  rwa [←this]
theorem T6(I:Inv fx c)(hu:A.units+64<yA){n:Nat}{es:List (D×AV)}(e:c.g[n]? =some (.dict es)){k:D}(hk:DR c.s.heap.get? k u)(ok:d6 k es=true)
   (q:∀s',ae c.s s'->s'.heap=c.s.heap->Q (.bool (!(e6 k es).isSome)) s'):zx (zv prog w) A (compareOp .NotIn u (.ref (c.γ.aI n).1)) Q E c.s:=by
 have o:=I.g.objs n _ e;rcases fq ok with⟨x,rfl,h⟩ |⟨ks,rfl,h⟩
 ·obtain⟨_,t,T7⟩:=hk;refine gR T7 ?_
  refine ze (dX o h) λps EF=>(zg (λd r=>?_) EF);refine Mq d (eU I e) ?_;have:(e6 (.str x) es).isSome=(valueAt ps x).isSome:=by
   refine zg (λi1 i2=>?_) (jF (x:=x) r);cases q:e6 (.str x) es with
   |none=>refine gR (i2 q ..) ?_;rfl
   |some av=>obtain⟨v,e,_⟩:=i1 av q;refine gR e ?_;rfl
  rwa [←this]
 ·obtain⟨a,mJ,qf⟩:=kz hk;refine gR mJ ?_
  refine ze (iB o h) λxs q9=>(zg (λd r=>?_) q9);have:(e6 (.tuple (ks.map aV)) es).isSome=(atKey xs ks).isSome:=by
   refine zg (λi1 i2=>?_) (lX (ks:=ks) r);cases q:e6 (.tuple (ks.map aV)) es with
   |none=>refine gR (i2 q ..) ?_;rfl
   |some av=>obtain⟨v,e,_⟩:=i1 av q;refine gR e ?_;rfl
  replace q:=this▸q;have z':zx (zv prog w) A (contains (.ref (c.γ.aI n).1) (.ref a)) (λb s'=>Q (.bool (!b)) s') E c.s:=λΓ p hΓ=>by
   have z1:Sem.wp (zv prog w) Γ (contains (.ref (c.γ.aI n).1) (.ref a) >>=λb=>pure (Value.bool b)) _ _ p c.s:=(Tq (E:=E) (Q:=λv s'=>∀b,v=.bool b->Q (.bool (!b)) s') hu qf d (eU I e) (λs' g h=>by intro b hb;cases hb;exact q s' g h)) Γ p hΓ;rw[Sem.wp_bind'] at z1;refine Sem.wp_mono _ Γ _ (λb p' s' h=>?_) (λ_ _ _ h=>h) p c.s z1;rw[Sem.wp_pure'] at h;exact h b rfl
  exact zf (zI z' (λ_ _ h=>zl h) λ_ _ h=>h)
theorem T8(I:Inv fx c)(hu:A.units+64<yA){n:Nat}{es:List (D×AV)}(e:c.g[n]? =some (.dict es)){k:D}(hk:DR c.s.heap.get? k u)(ok:d6 k es=true){av:AV}(hv:e6 k es=some av)
   (q:∀v s',ae c.s s'->s'.heap=c.s.heap->cN c.γ c.g.length c.s.heap av v->Q v s'):zx (zv prog w) A (getItem (.ref (c.γ.aI n).1) u) Q E c.s:=by
 have o:=I.g.objs n _ e;rcases fq ok with⟨x,rfl,h⟩ |⟨ks,rfl,h⟩
 ·obtain⟨_,t,EG⟩:=hk;refine gR EG ?_
  refine ze (dX o h) λps T9=>(zg (λd r=>?_) T9);refine ze ((jF r).1 av hv) λv tO=>(zg (λev a=>?_) tO);exact Mr d ev λs' g h=>q v s' g h a
 ·obtain⟨a,Ua,qf⟩:=kz hk;refine gR Ua ?_
  refine ze (iB o h) λxs Ub=>(zg (λd r=>?_) Ub);refine ze ((lX r).1 av hv) λp Uc=>(zg (λev a=>?_) Uc);exact Ts hu qf d ev λs' g h=>q p.2 s' g h a
theorem rg{x:Str}:∀{bT:List (D×D)} {ps:List (Str×zo)},iL L bT ps->vQ (DR L) (e6 (.str x) bT) (valueAt ps x)
 |[],_,k=>by
  obtain rfl:_=_:=k;exact⟨λ_ e=>ns e,λ_=>rfl⟩
 |(_,av)::r,_,⟨s,v,t,rfl,rfl,a,b⟩=>by
  exact gR (gq ..) (.ite (cw s x) a (rg b))
end
section
variable{call:Call}
theorem du.d(k:Ext c c'){p:D}(h:du fx c (.d p) v):DR (lk c'.γ.R c'.s.heap) p v:=
 (h.au k)
def InS(A:ZV)(E:zo->zt->Prop)(c:ah)(u v:zo)(r:Bool):Prop:=∀Q:zo->zt->Prop,
 ((∀s',ae c.s s'->Q (.bool r) s')->zx (zv prog w) A (compareOp .In u v) Q E c.s)/\((∀s',ae c.s s'->Q (.bool (!r)) s')->zx (zv prog w) A (compareOp .NotIn u v) Q E c.s)
theorem Jq{es:List (D×D)}(r:iL L es ps) x:(e6 (.str x) es).isSome=(valueAt ps x).isSome:=by
 refine zg (λi1 i2=>?_) (rg (x:=x) r);cases q:e6 (.str x) es with
 |none=>refine gR (i2 q ..) ?_;rfl
 |some av=>refine ze (i1 av q) λv Ud=>(zg (λe _=>?_) Ud);refine gR e ?_;rfl
theorem tP{p:D}{es:List (D×α)}(h:NR p es=true):∃x,p=.str x:=ba ((zY _ _).mp h).1
theorem qg(hu:A.units+64<yA){p:D}(dp:DR c.s.heap.get? p u)(dq:DR c.s.heap.get? q v){r:Bool}(h:(DN p q).is r):InS A E c u v r:=λQ=>by
 cases q with
 |list xs=>cases h.2;exact⟨λq=>BP dp dq h.1 hu (q _ (.refl _)),λq=>vJ dp dq h.1 hu (q _ (.refl _))⟩
 |tuple xs=>cases h.2;exact⟨λq=>Ef dp dq h.1 hu (q _ (.refl _)),λq=>BQ dp dq h.1 hu (q _ (.refl _))⟩
 |dict es=>
  refine gL h.2 ?_;obtain⟨ad,ps,q⟩:=dq;refine gR q.1 ?_;obtain⟨x,rfl⟩:=tP h.1;obtain⟨_,t,EE⟩:=dp;refine gR EE (gR (Jq q.4 ..) ?_);exact⟨λz=>Tp q.3 q.2 λs' g _=>z s' g,λz=>Mq q.3 q.2 λs' g _=>z s' g⟩
 |_=>exact h.elim
theorem tQ(I:Inv fx c)(hu:A.units+64<yA){a b:AV}(hd:∀p,a=.d p->DR (lk c.γ.R c.s.heap) p u)(hb:du fx c b v){r:Bool}(h:(DO c.e c.g a b).is r):InS A E c u v r:=O.cV h λp ea h=>by
 have dp:=(hd p (bL ea)).sub (cM _ _);cases b with
 |o n=>
  refine O.cV h λob hs h=>?_;cases ob with
  |dict es=>
   refine gL h.2 (gR hb.1 ?_);exact λQ=>⟨λq=>ab7 I hu hs dp h.1 λs' g _=>q s' g,λq=>T6 I hu hs dp h.1 λs' g _=>q s' g⟩
  |list xs=>exact qg (q:=.list xs) hu dp (fL I hb (show(c.g[n]?.bind NS)=_ by refine gR hs ?_;rfl)) h
  |inst _ _=>exact h.elim
 |_=>exact O.cV h λq e h=>qg hu dp (fL I hb e) h
theorem BX{op:ad4}{a b:AV}{r:Bool}(h:NT op a b=some r):∃i j,a=.d (.int i)/\b=.d (.int j)/\ltI op i j=some r:=by
 cases a with
 |d p=>
  cases p with
  |int i=>
   cases b with
   |d q=>
    cases q with
    |int j=>exact⟨i,j,rfl,rfl,h⟩
    |_=>exact ns h
   |_=>exact ns h
  |_=>cases b <;> exact ns h
 |_=>cases b <;> exact ns h
theorem isNone_some{a b:AV}{r:Bool}(h:isNone a b=some r):∃p,a=.d p/\b=.d .none/\R8 p=r:=by
 cases a with
 |d p=>
  cases b with
  |d q=>
   cases q with
   |none=>exact⟨p,rfl,rfl,zh h⟩
   |_=>exact ns h
  |_=>exact ns h
 |_=>cases b <;> exact ns h
theorem xN{p:D}(d:DR L p v):(v== .none)=R8 p:=by
 cases p with
 |none=>refine gR d ?_;rfl
 |bool _=>refine gR d ?_;rfl
 |int _=>refine ze d λ_ Ue=>(gR Ue ?_);rfl
 |str _=>refine zg (λ_ Ug=>?_) d;refine ze Ug λ_ tO=>(gR tO ?_);rfl
 |tuple _=>obtain⟨_,_,_,rfl,_⟩:=d;rfl
 |list _=>obtain⟨_,_,_,rfl,_⟩:=d;rfl
 |dict _=>obtain⟨_,_,rfl,_⟩:=d;rfl
theorem xO(I:Inv fx c)(K:Ext c1 c)(hu:A.units+64<yA){op:ad4}{a b:AV}(ha:du fx c1 a u)(hb:du fx c b v){r:Bool}(h:(NU c.e c.g op a b).is r)
  (q:∀s',ae c.s s'->Q (.bool r) s'):zx (zv prog w) A (compareOp op u v) Q E c.s:=by
 have hd:∀p,a=.d p->DR (lk c.γ.R c.s.heap) p u:=λp e=>du.d K (e▸ha);have Jr:∀{op'},(O.of (NT op' a b)).is r->∃i j t t',u=.int i t/\v=.int j t'/\ltI op' i j=some r:=λh=>by
  refine ze (BX (O.of_is h)) λi tR=>?_;obtain⟨j,ea,rfl,h'⟩:=tR;obtain⟨t,Uh⟩:=hd _ ea;refine gR Uh ?_;obtain⟨t',EH⟩:=hb;refine gR EH ?_;exact⟨_,_,t,t',rfl,rfl,h'⟩
 have q0:=q _ (.refl _);cases op with
 |Eq=>exact O.cV h λp e1 h=>O.cV h λp' e2 h=>ab5 (fL I (ha.au K) e1) (fL I hb e2) h.1 hu (h.2▸q0)
 |NotEq=>exact O.cV h λp e1 h=>O.cV h λp' e2 h=>ab6 (fL I (ha.au K) e1) (fL I hb e2) h.1 hu (h.2▸q0)
 |In=>exact(tQ I hu hd hb h Q).1 q
 |NotIn=>exact O.iz h λr' h' e=>(tQ I hu hd hb h' Q).2 λs' g=>e▸q s' g
 |Is=>
  refine ze (isNone_some (O.of_is h)) λp Ui=>?_;obtain⟨ea,rfl,rfl⟩:=Ui;exact gR hb (is_none ((xN (hd p ea)).symm▸q0))
 |IsNot=>
  exact O.cV h λr' h' e=>by
   refine ze (isNone_some h') λp Ey=>?_;obtain⟨ea,rfl,rfl⟩:=Ey;refine gR hb ?_;obtain rfl:=e;exact isNot_none ((xN (hd p ea)).symm▸q0)
 |Lt=>refine ze (Jr h) λi tU=>?_;obtain⟨j,t,t',rfl,rfl,h⟩:=tU;obtain rfl:=zh h;exact adO q0
 |LtE=>refine ze (Jr h) λi Oz=>?_;obtain⟨j,t,t',rfl,rfl,h⟩:=Oz;obtain rfl:=zh h;exact PyProof.Rows.le_int q0
 |Gt=>refine ze (Jr h) λi mK=>?_;obtain⟨j,t,t',rfl,rfl,h⟩:=mK;obtain rfl:=zh h;exact PyProof.Rows.gt_int q0
 |GtE=>refine ze (Jr h) λi mM=>?_;obtain⟨j,t,t',rfl,rfl,h⟩:=mM;obtain rfl:=zh h;exact PyProof.Rows.ge_int q0
theorem Js{op:ad4}{a b:CE}(hu:A.units+64<yA)(hm:behindInMarks op (aH T.tb.nm b)=false)(ha:ai A call fx a)(hb:ai A call fx b):ai A call fx (.Iu op a b p):=λc r I h=>
 wpAny_Compare1 (ha.d7 I (.refl _) h λa1 c1 v1 h I1 K1 V1 _=>hb.d7 I1 K1 h λa2 c2 v2 h I2 K2 V2 fT=>h.fH λq1 d1 h=>
  xO I2 fT hu V1 V2 d1 λs' g=>QE.data I2 K2 g h.1.symm rfl) hm
theorem EI{op:ad4}{a b:CE}(hu:A.units+64<yA)(hm:behindInMarks op (aH T.tb.nm b)=false)(ha:ai A call fx a)(hb:ai A call fx b):ct A call fx (.Iu op a b p):=λc r I h=>
 wpAny_isTrue_Compare1 (ha.d7 I (.refl _) (Rn.bu h) λa1 c1 v1 h I1 K1 V1 _=>hb.d7 I1 K1 (Rn.bu h) λa2 c2 v2 h I2 K2 V2 fT=>
  (Rn.bu (x:=fH (NU c2.e c2.g op a1 a2)) h).fH λq1 d1 h=>xO I2 fT hu V1 V2 d1 λs' g=>wpAny_truthy_bool ⟨{c2 with s:=s'},h.1.symm,rfl,I2.dD g,K2.trans (.dD g)⟩) hm
end
variable{op:ad4}
section
variable{call:Call}
set_option backward.match.sparseCases true in
noncomputable def vS(e:Ye):Bool:=match e with |.Starred ..=>true |_=>false
def notStar(e:Ye):Bool:=!vS e
theorem aj{e:Ye}{r:List Ye}(h:notStar e=true):starEach (e::r) env=(false,YJ e env)::starEach r env:=by cases e <;> first |rfl |cases h
theorem ay p t r:backTo p ((false,t)::r)=(false,t)::backTo p r:=rfl
noncomputable def fY:cz->Prop
 |.nil=>True
 |.cons a r=>notStar (aH T.tb.nm a)=true/\fY r
theorem Ep.data:∀{as:List AV} {vs:List zo} {ps:List D},Ep fx c as vs->qR as=some ps->aU (lk c.γ.R c.s.heap) ps vs
 |[],_,ps,h,e=>by obtain rfl:_=_:=h;obtain rfl:=zh e;exact rfl
 |a::r,_,ps,⟨v,t,e,x,y⟩,q=>by
  refine gR e ?_;cases a with
  |d p=>
   obtain⟨ps',q2,rfl⟩:=Zk.mp q;exact .cons x (Ep.data y q2)
  |o n=>cases q
  |w i=>cases q
noncomputable def cz.len:cz->Nat
 |.nil=>0
 |.cons _ r=>r.len+1
theorem d8 p:∀es,gm (ai A call fx) es->fY es->∀{c₀ c:ah},Inv fx c->Ext c₀ c->∀{β:Type} {r:R β} {f:List AV×Env×G->W β} {Q:List zo->zt->Prop},Rn call ((ka T.tb es c.e c.g).bind f) r->
  (∀as c' vs,Rn call (f (as,c'.e,c'.g)) r->Inv fx c'->Ext c₀ c'->Ep fx c' as vs->Ext c c'->vs.length=es.len->Q vs c'.s)->
  zx (zv prog w) A (spliced (backTo p (starEach (cn T.tb.nm es) fx.env))) Q (XE c₀ r) c.s:=by
 refine cz.ind (λ_ _ _ c I K _ _ _ _ er k=>spliced_nil (k [] c [] er I K rfl (.refl _) rfl)) λa r ih=>?_;intro h hs c₀ c I K β r' f Q er k;refine gR (aj hs.1 ..) (gR (ay ..) ?_);exact spliced_cons (h.1.d7 I K (Rn.bu er) λa1 c1 v1 e1 I1 K1 V1 K01=>zI (ih h.2 hs.2 I1 K1 (Rn.bu e1) λas c2 vs e2 I2 K2 V2 fT ln=>
  k (a1::as) c2 (v1::vs) e2 I2 K2 ⟨v1,vs,rfl,V1.au fT,V2⟩ (K01.trans fT) (congrArg (·+1) ln)) (λ_ _ q=>q) λ_ _ q=>q)
theorem bb{n:Nat}(h:n<=lim):n<=sizeLine:=bc h
theorem Jt(hl:es.len<=lim)(h:gm (ai A call fx) es)(hs:fY es):ai A call fx (.Rr es p):=λc r I er=>
 wpAny_Tuple_spliced (d8 p _ h hs I (.refl _) er λas c1 vs er I1 K1 V1 _ ln=>er.opt λps d er=>
  ⟨ln▸bb hl,QE.data I1 K1 (ae.push _ _) er.1.symm ⟨_,vs,0,rfl,vL I1 (ao _) (zq _ rfl),(V1.data d).sub (bR (ae.push _ _))⟩⟩)
theorem Ju(hl:es.len<=lim)(h:gm (ai A call fx) es)(hs:fY es):ai A call fx (.sZ es p):=λc r I er=>
 wpAny_List_spliced (d8 p _ h hs I (.refl _) er λas c1 vs er I1 K1 V1 _ ln=>er.opt λps d er=>
  ⟨ln▸bb hl,QE.data I1 K1 (ae.push _ _) er.1.symm ⟨_,vs,0,rfl,vL I1 (ao _) (zq _ rfl),(V1.data d).sub (bR (ae.push _ _))⟩⟩)
noncomputable def cx(R:zJ->Role)(a:zJ)(r:Role):zJ->Role:=λb=>if b=a then r else R b
theorem bw{R:zJ->Role}{r:Role}:cx R a r a=r:=if_pos rfl
theorem aN{R:zJ->Role}{r:Role}(h:b≠a):cx R a r b=R b:=if_neg h
noncomputable def bV(φ:Nat->zJ×zJ)(n:Nat)(a:zJ×zJ):Nat->zJ×Addr:=λk=>if k=n then a else φ k
theorem gu(I:Inv fx c)(k:ae c.s s') R' ab
  (hR:∀x,R' x=c.γ.R x\/(c.s.heap.get? x=none/\(s'.heap.get? x).isSome)) {o:bW}
  (ho:dW ⟨R',c.γ.own,bV c.γ.aI c.g.length ab⟩ (c.g.length+1) s'.heap c.g.length o):
  Inv fx ⟨⟨R',c.γ.own,bV c.γ.aI c.g.length ab⟩,c.e,c.g++[o],s'⟩/\Ext c ⟨⟨R',c.γ.own,bV c.γ.aI c.g.length ab⟩,c.e,c.g++[o],s'⟩:=by
 have old:∀x q,c.s.heap.get? x=some q->R' x=c.γ.R x:=λx q e=>(hR x).resolve_right λz=>by rw[z.1] at e;exact nomatch e
 have hf:∀a o,c.γ.R a=.free->c.s.heap.get? a=some o->R' a=.free/\s'.heap.get? a=some o:=λa o r e=>⟨by refine gR (old a o e ..) ?_;exact r,k.sub _ _ e⟩;have vT:∀j,j<c.g.length->bV c.γ.aI c.g.length ab j=c.γ.aI j:=λj hj=>if_neg (zU hj);have ext:ak c.γ c.g.length c.s.heap ⟨R',c.γ.own,bV c.γ.aI c.g.length ab⟩ (c.g++[o]).length s'.heap:=
  ⟨hf,λa o r e=>⟨by rewrite [show(⟨R',c.γ.own,bV c.γ.aI c.g.length ab⟩:Gh).R a=R' a from rfl];refine gR (old a o e ..) ?_;exact r,k.sub _ _ e⟩,by simp,vT,λa o r e=>⟨(old a o e).trans r,o,k.sub _ _ e,.refl o⟩⟩
 refine⟨⟨⟨λn q e=>?_,λa r=>?_,λa q e=>?_,k.os.trans I.g.os,k.gens.trans I.g.gens⟩,⟨?_,λi x a hx=>?_,I.q6 λa o r e=>⟨(old a o e).trans r,o,k.sub _ _ e,.refl o⟩⟩⟩,ext,rfl,λ_ _ h=>h,λa o r e=>⟨(old a o e).trans r,o,k.sub _ _ e,.refl o⟩,λ_=>rfl⟩
 ·simp only[Zr,yh,YO,yu]
  by_cases hn:n<c.g.length
  ·rw[YZ hn] at e
   exact(I.g.objs n q e).au hf (zN _) hn vT (λa o j r e=>⟨by rewrite [show(⟨R',c.γ.own,bV c.γ.aI c.g.length ab⟩:Gh).R a=R' a from rfl];refine gR (old a o e ..) ?_;exact r,k.sub _ _ e⟩)
  ·have:n=c.g.length:=by have:=(zr.mp e).1;simp only[Zr,yh,YO] at this;exact yS (Zg this) (ZS hn)
   subst this;simp only[YV (zm _),Nat.sub_self,yE,Yp] at e;subst e;exact ho
 ·refine YA (hR a) (λh=>?_) λh=>?_
  ·have r':c.γ.R a≠.free:=gL h r
   exact ze (zp.mp (I.g.live a r')) λq hq=>(zp.mpr ⟨q,k.sub _ _ hq⟩)
  ·exact h.2
 ·obtain⟨r,e'⟩:=I.g.top a q e
  exact hf a q r e'
 ·obtain⟨m,a,b,f⟩:=I.f.ns
  obtain⟨oL,_,_,hL,_⟩:=id a;refine⟨m,a.keeps k.sub,by rewrite [show(⟨R',c.γ.own,bV c.γ.aI c.g.length ab⟩:Gh).R=R' from rfl];refine gR (old _ _ hL ..) ?_;exact b,λi y hy sl hs=>?_⟩;exact aJ.au (γ:=c.γ) (γ':=⟨R',c.γ.own,bV c.γ.aI c.g.length ab⟩) hf (by simp) vT (λa o _ e=>⟨old a o e,k.sub _ _ e⟩) (λ_=>rfl) (f i y hy sl hs)
 ·refine ze (I.f.cells i x a hx) λov lN=>?_;obtain⟨b,r,f⟩:=lN
  refine ze (id b) λoc lL=>?_;obtain⟨hc,_⟩:=lL;refine⟨ov,b.keeps k.sub,by rewrite [show(⟨R',c.γ.own,bV c.γ.aI c.g.length ab⟩:Gh).R=R' from rfl];refine gR (old _ _ hc ..) ?_;exact r,λsl hs=>?_⟩;exact aJ.au (γ:=c.γ) (γ':=⟨R',c.γ.own,bV c.γ.aI c.g.length ab⟩) hf (by simp) vT (λa o _ e=>⟨old a o e,k.sub _ _ e⟩) (λ_=>rfl) (f sl hs)
theorem vU{r:Role}(hf:o.isFreed=false) x:cx c.γ.R c.s.heap.objs.size r x=c.γ.R x\/(c.s.heap.get? x=none/\((c.s.heap.push o).get? x).isSome):=by
 by_cases hx:x=c.s.heap.objs.size
 ·exact gR hx (.inr ⟨ao _,zp.mpr ⟨_,zq _ hf⟩⟩)
 ·exact .inl (aN hx)
theorem gv{φ:Nat->zJ×zJ}{n:Nat}{a:zJ×zJ}:bV φ n a n=a:=if_pos rfl
theorem rh{φ:Nat->zJ×zJ}{n:Nat}:Zm a=.ref (bV φ n (a,b) n).1:=gR gv rfl
theorem xP{P:zJ->Prop}{φ:Nat->zJ×zJ}{n:Nat}(h:P a):P (bV φ n (a,b) n).1:=gR gv h
theorem rj{R:zJ->Role}{φ:Nat->zJ×zJ}{n:Nat}{r:Role}:cx R a r (bV φ n (a,b) n).1=r:=gR gv bw
theorem vV{l:List α}{a:α}:l.length<(l++[a]).length:=gR Zr (Zl _)
theorem OA(hl:es.len<=lim)(h:gm (ai A call fx) es)(hs:fY es):ai A call fx (.nl es p):=λc r I er=>
 wpAny_List_spliced (d8 p _ h hs I (.refl _) er λas c1 vs er I1 K1 V1 _ ln=>er.opt λps d er=>by
  have G:=ae.push c1.s (aO vs 0);have z:=gu (o:=.list ps) I1 G (cx c1.γ.R c1.s.heap.objs.size (.g c1.g.length false)) (c1.s.heap.objs.size,0) (vU rfl)
   ⟨rj,vs,0,(congrArg (λx=>(c1.s.heap.push (aO vs 0)).get? x.1) gv).trans (zq _ rfl),(V1.data d).sub λb o e=>by
    refine zg (λr e'=>?_) (aw e);exact aB ((aN (zU (zZ e'))).trans r) (G.sub _ _ e')⟩
  exact⟨ln▸bb hl,.o c1.g.length,⟨⟨_,_,_⟩,c1.e,_,_⟩,er.1.symm,rfl,z.1,K1.trans z.2,rh,vV⟩)
end
variable{φ:Nat->zJ×zJ}
theorem OB(k:Sub T.top.get? h'.get?):T.K.In h':=λa o e=>k _ _ (T.Ry a o e)
noncomputable def fZ:BI->zo
 |.len=>.builtin "len" |.sorted=>.builtin "sorted" |.tuple=>.type "tuple" |.list=>.type "list" |.dict=>.type "dict" |.int=>.type "int" |.str=>.type "str" |.min=>.builtin "min"
section
variable{call:Call}
theorem aS.K(x:aS γ g s):T.K.In s.heap:=OB λa o e=>(x.top a o e).2
def dY(s:zt)(o:zo):Prop:=c8 λT id=>s.TypeIs o T/\typeLookup (.type T) "__getitem__"=pure (some (.builtin id))
theorem Jv e (o i:zo):∃l,subscripted e false o i=operate l (getItem o i):=by
 cases e with
 |Slice a b c p=>cases c <;> exact⟨_,rfl⟩
 |_=>exact⟨_,rfl⟩
theorem xQ{value slice:Ye}
  (h:zx (zv prog w) A (YJ value env) (λo az=>zx (zv prog w) A (YJ slice env) (λi gw=>dY gw o/\zx (zv prog w) A (getItem o i) Q E gw) E az) E s):
  zx (zv prog w) A (YJ (.Subscript value slice pos) env) Q E s:=by
 refine gR (eval_Subscript ..) (zf (zI h (λo az cF=>zf (zT (zI cF (λi gw EJ=>zf (wpAny_standAt ?_)) λ_ _ x=>x)))
  λ_ _ x=>x))
 refine zg (λmN hg=>?_) EJ;obtain⟨T,id,hT,hl⟩:=mN;obtain⟨l,el⟩:=Jv slice o i;refine zf (gR (getitemInPython_of_ne hT.not_modules ..) (zf (wpAny_specialOf hT hl (zl (zf ?_)))));exact gR el (wpAny_operating (zI hg (λr fj BY=>zf (wpAny_letTemporaryGo (zl BY))) λ_ _ x=>x))
theorem EK{a:zJ}{n:Nat}(h:s.heap.get? a=some (aO vs n)):dY s (.ref a):=⟨"list",_,⟨_,h,rfl⟩,PySem.slot_list_getitem.lookup⟩
theorem EL{a:zJ}{n:Nat}(h:s.heap.get? a=some (fJ vs n)):dY s (.ref a):=⟨"tuple",_,⟨_,h,rfl⟩,PyProof.Rows.slot_tuple_getitem.lookup⟩
theorem EM{x:Str}{t:Tok}:dY s (.str x t):=⟨"str",_,typeIs_str s x t,PySem.F.slot_str_getitem.lookup⟩
theorem kA{a:zJ}(h:s.heap.get? a=some o)(hc:o.ExactDict):dY s (.ref a):=⟨"dict",_,⟨_,h,hc.1⟩,PySem.slot_dict_getitem.lookup⟩
theorem mO{p:D}{l:List D}(h:vN c p v l):dY c.s v:=by
 obtain⟨a,vs,n,mD,_,h⟩:=h;refine gR mD ?_;rcases h with⟨_,h⟩ |⟨_,h⟩
 ·exact EL (aw h).2
 ·exact EK h
theorem Jw{x:Str}{c:Nat}(h:Zh x=true)(e:x.cps[j]? =some c):Zh ⟨#[c]⟩=true:=by unfold Zh at*;have:=Array.all_eq_true'.mp h c (Array.mem_of_getElem? e);simpa using this
theorem BZ{k:Int}{l:List D}{r:AV}(h:(NV k l).is r)(q:∀j y,small k=true->BG k l.length=some j->l[j]? =some y->.d y=r->P):P:=by
 cases k with
 |ofNat j=>
  refine zg (λhs hj=>?_) (aa h.1);have hj:=of_decide_eq_true hj;exact q j _ hs (Jd hj) ((zB hj).trans (congrArg some (by refine gR ZM (gR (zB hj ..) ?_);rfl))) h.2
 |negSucc j=>exact O.cV h.2 λi ei h'=>O.cV h' λy ey h'=>q i y h.1 ei ey h'
section
variable{a b:AV}{r:AV}
theorem Jx(I:Inv fx c)(ha:du fx c a u){k:Int}{t:Tok}(h:((O.of (mm c.e c.g a)).bind (Si k)).is r)
  (q:∀z s',ae c.s s'->cN c.γ c.g.length s'.heap r z->Q z s'):dY c.s u/\zx (zv prog w) A (getItem u (.int k t)) Q E c.s:=O.cV h λp ep h=>by
 have Uj:∀l,bQ p=some l->(NV k l).is r->dY c.s u/\zx (zv prog w) A (getItem u (.int k t)) Q E c.s:=λl el h=>BZ h λj y hs hj hy e=>by
  have S:=cu I ha ep el;refine⟨mO S,?_⟩;subst e;obtain⟨ad,vs,n,S⟩:=S;refine ze (S.2.get hy) λz EN=>(zg (λhz dz=>?_) EN);refine gR S.1 ?_;rw[←S.2.length] at hj;exact S.3.elim (λo=>Tt (aw o.2).2 hs hj hz (q z _ (.refl _) dz)) λo=>Tu o.2 hs hj hz (q z _ (.refl _) dz)
 cases p with
 |list l=>exact Uj l rfl h
 |tuple l=>exact Uj l rfl h
 |str x=>
  exact O.cV h.2 λj hj h'=>O.cV h' λy hy e=>by
   refine zg (λok OC=>?_) (fL I ha ep);obtain⟨t',OD⟩:=OC;refine gR OD ?_;exact⟨EM,Tv h.1 hj hy λs' k g _=>q _ s' g (e▸⟨Jw ok hy,_,rfl⟩)⟩
 |_=>exact h.elim
theorem EO(I:Inv fx c){n:Nat}{es:List (D×AV)}(hs:c.g[n]? =some (.dict es)):dY c.s (.ref (c.γ.aI n).1):=by
 refine zg (λ_ EP=>?_) (I.g.objs n _ hs);obtain⟨ps,⟨o,_,_,ho,hc,_⟩,_⟩ |⟨xs,⟨o,_,_,ho,hc,_⟩,_⟩:=EP
 ·exact kA ho hc
 ·exact kA ho hc
theorem Jy(I:Inv fx c)(hu:A.units+64<yA)(ha:du fx c a u){p:D}(hp:DR (lk c.γ.R c.s.heap) p v)(h:(Sk c.e c.g a p).is r)
  (q:∀z s',ae c.s s'->cN c.γ c.g.length s'.heap r z->Q z s'):dY c.s u/\zx (zv prog w) A (getItem u v) Q E c.s:=by
 have back:∀{r:AV} {z:zo} {s':zt},ae c.s s'->cN c.γ c.g.length c.s.heap r z->cN c.γ c.g.length s'.heap r z:=λg x=>x.au (bR g) (zm _) λ_ _=>rfl;have other:((O.of (mm c.e c.g a)).bind (Me p)).is r->dY c.s u/\zx (zv prog w) A (getItem u v) Q E c.s:=λh=>O.cV h λm ek h=>by
  cases m with
  |dict bT=>
   exact O.cV h.2 λy hy e=>by
    obtain⟨ad,ps,S⟩:=tL I ha ek;refine ze (id S.3) λo kB=>(ze kB λes BN=>(ze BN λep kC=>(zg (λho rm=>?_) kC)));refine zg (λhc _=>?_) rm;obtain⟨x,rfl⟩:=tP h.1;obtain⟨_,t,mM⟩:=hp;refine gR mM ?_;obtain⟨z,hz,dz⟩:=(rg S.4).1 _ hy;refine gR S.1 ?_;obtain rfl:=e;exact⟨kA ho hc,Mr S.3 hz λs' g _=>q z s' g (back g dz)⟩
  |_=>exact h.elim
 cases a with
 |o n=>
  exact O.cV h λob hs h=>by
   cases ob with
   |dict es=>
    exact gR ha.1 ⟨EO I hs,T8 I hu hs (DR.sub (cM _ _) hp) h.1 (O.of_is h.2) λz s' g _ a=>q z s' g (back g a)⟩
   |_=>exact h.elim
 |d q=>exact other h
 |w i=>exact other h
theorem ER(I:Inv fx c)(K:Ext c1 c)(hu:A.units+64<yA)(ha:du fx c1 a u)(hb:du fx c b v)(h:(Sl c.e c.g a b).is r)
  (q:∀z s',ae c.s s'->cN c.γ c.g.length s'.heap r z->Q z s'):dY c.s u/\zx (zv prog w) A (getItem u v) Q E c.s:=O.cV h λp eb h'=>by
 have h':=h';clear h;cases bL eb;cases hk:intD p with
 |some k=>
  rw[hk] at h';cases dR hk;obtain⟨t,mJ⟩:=hb;refine gR mJ ?_;exact Jx I (ha.au K) h' q
 |none=>
  replace h':=hk▸h';exact Jy I hu (ha.au K) hb h' q
end
theorem Jz{a b:CE}(hu:A.units+64<yA)(ha:ai A call fx a)(hb:ai A call fx b):ai A call fx (.sub a b p):=λc r I h=>
 xQ (ha.d7 I (.refl _) h λa1 c1 v1 h I1 K1 V1 _=>hb.d7 I1 K1 h λa2 c2 v2 h I2 K2 V2 fT=>h.fH λq1 d1 h=>ER I2 fT hu V1 V2 d1 λz s' g d=>h.1▸QE.from K2 (QE.dD I2 g d))
end
section
variable{call:Call}
def JA(P:CE->Prop):CO->Prop
 |.n=>True
 |.s a=>P a
theorem Mt{o:CO}(h:JA (ai A call fx) o)(I:Inv fx c)(K:Ext c₀ c){r:R β}{f:Option Int×Env×G->W β}(er:Rn call ((evO T.tb o c.e c.g).bind f) r)
  (k:∀i c' v,Rn call (f (i,c'.e,c'.g)) r->Inv fx c'->Ext c₀ c'->ado v i->Ext c c'->Q v c'.s):zx (zv prog w) A (valueOrNone (evalOpt (lT T.tb.nm o) fx.env)) Q (XE c₀ r) c.s:=by
 cases o with
 |n=>exact zl (k none c .none er I K .none (.refl _))
 |s a=>
  exact h.d7 I K (Rn.bu er) λa1 c1 v1 e I1 K1 V1 K'=>(Rn.bu (x:=fH (asI a1)) e).fH λi d e=>O.cV d λp ea d=>O.cV d λj ej d=>by
   cases bL ea;cases dR ej;cases d.2;refine ze V1 λt Ox=>(gR Ox ?_);exact k (some i) c1 _ e I1 K1 (.int i t) K'
theorem OE(I:Inv fx c){a:AV}{z1 z2:zo}{q0:D}(V:du fx c a v)(dq:mm c.e c.g a=some q0){i1 i2:Option Int}(d:(Sm i1 i2 q0).is q)(P1:ado z1 i1)(P2:ado z2 i2)(sl:c.s.heap.IsSliceOf b z1 z2 .none)
  (k:∀v s',ae c.s s'->DR (lk c.γ.R s'.heap) q v->Q v s'):dY c.s v/\zx (zv prog w) A (getItem v (.ref b)) Q E c.s:=by
 cases q0 with
 |list l=>
  have S:=cu I V dq rfl;refine⟨mO S,?_⟩;obtain⟨ad,vs,n,S⟩:=S;exact gR S.1 (Tw (S.3.resolve_left λq=>nomatch q.1).2 sl P1 P2 .none (S.2.length▸of_decide_eq_true d.1) (k _ _ (ae.push _ _) (d.2▸⟨_,_,0,rfl,vL I (ao _) (zq _ rfl),(S.2.cut i1 i2).sub (bR (ae.push _ _))⟩)))
 |tuple l=>
  have S:=cu I V dq rfl;refine⟨mO S,?_⟩;obtain⟨ad,vs,n,S⟩:=S;refine gR S.1 ?_;have o:=(S.3.resolve_right λq=>nomatch q.1).2;exact Tx (aw o).2 sl P1 P2 .none (S.2.length▸of_decide_eq_true d.1) λs' cc j g h w=>k _ s' g (d.2▸⟨cc,_,j,rfl,aB (w.elim (λe=>e▸(aw o).1) I.g.bU) h,(S.2.cut i1 i2).sub (bR g)⟩)
 |_=>exact d.elim
theorem JB{a:CE}{lo hi:CO}{p':Pos}(ha:ai A call fx a)(hl:JA (ai A call fx) lo)(hh:JA (ai A call fx) hi):ai A call fx (.Ma a lo hi .n p' p):=λc r I h=>by
 refine xQ (slice:=.Slice (lT T.tb.nm lo) (lT T.tb.nm hi) none p') (ha.d7 I (.refl _) h λa1 c1 v1 h I1 K1 V1 _=>?_);show zx _ _ (do
  let l ←valueOrNone (evalOpt (lT T.tb.nm lo) fx.env);let u ←holding [l] (valueOrNone (evalOpt (lT T.tb.nm hi) fx.env));let s ←holding [l,u] (valueOrNone (evalOpt none fx.env))
  newFields "slice" [l,u,s]) _ _ _
 refine zf (Mt hl I1 K1 h λi1 c2 u1 h I2 K2 P1 fT=>zf (zT (Mt hh I2 K2 h λi2 c3 u2 h I3 K3 P2 B0=>zf (zT (zl ?_)))));refine h.fH λq d h=>O.cV d λq0 dq d=>(wpAny_newObj_type ?_ (by simp only[sizeOk,zS,yh,YO,jB];omega));have G:=ae.push c3.s {cls:=.type "slice",data:=.fields #[u1,u2,.none]};exact OE (I3.dD G) (V1.au (fT.trans (B0.trans (.dD G)))) dq d P1 P2 (.new ..) λv s' g D=>QE.data I3 K3 (G.trans g) h.1.symm D
end
noncomputable def d9:Ye->Bool
 |.Call (.Name id _) [] [] _=>id != ("super":Str)
 |_=>true
theorem or4{a b c d:Bool}(h:a=true):(((a||b)||c)||d)=true:=by cases h;rfl
theorem ft{o:Ye}{ab8:Str}{Mu:Sem zo}(h:d9 o=true):attributeBase o ab8 env Mu=Mu:=by
 cases o with
 |Call f as ks p=>
  cases f with
  |Name id q=>
   cases as with
   |nil=>
    cases ks with
    |nil=>
     exact if_pos (or4 h)
    |cons=>rfl
   |cons=>rfl
  |_=>rfl
 |_=>rfl
section
variable{call:Call}
theorem iW x v:(zR prog w).is x v=v.isStr x:=(zR prog w).strs x x 0 v (ku x 0)
theorem lookIn_dict{d:zJ}(hm:h.DictOf (zR prog w) d ps):∃od,h.get? d=some od/\∀x,lookIn x od=some (valueAt ps x):=by
 refine ag λ_ k=>(ze hm λo qY=>(ze qY λes kC=>(ze kC λep ES=>(zg (λho mK=>?_) ES))));refine zg (λhc jb=>?_) mK;refine zg (λhd OF=>?_) jb;refine zg (λhk rm=>?_) OF;refine zg (λhp hn=>?_) rm;refine k ⟨o,ho,λx=>?_⟩;unfold lookIn;refine gR hd ?_;dsimp only;have f:=hp.find x;rw[show(λe:yL=>(zR prog w).is x e.key)=λe=>e.key.isStr x from funext λe=>iW ..] at f;cases q:es.toList.find? (λe=>e.key.isStr x) with
 |some e=>rw[q] at f;refine gL f ?_;rfl
 |none=>
  rw[q] at f;refine gL f ?_;have nr:(es.toList.any λe=>e.refKey)=false:=by rw[List.any_eq_false];intro e he;refine ze (hk e (yZ.mp he)) λk kh=>(zg (λhkk _=>?_) kh);refine ze (adP hkk) λt et=>?_;unfold DictEntry.refKey;refine gR et ?_;simp
  simp[nr]
theorem vW(y x:Nat):(y==x)=decide (T.tb.nm y=T.tb.nm x):=by
 by_cases q:y=x
 ·refine gR q (gR (decide_eq_true rfl ..) ?_);exact beq_self_eq_true x
 ·exact gR (decide_eq_false λe=>q (tok.inj _ _ e) ..) (beq_eq_false_iff_ne.mpr q)
theorem rn{len:Nat}:∀{fs:List (Nat×AV)} {ps:List (Str×zo)},oN γ len h fs ps->vQ (cN γ len h) (BE x fs) (valueAt ps (T.tb.nm x))
 |[],_,k=>by
  obtain rfl:_=_:=k;exact⟨λ_ e=>ns e,λ_=>rfl⟩
 |(y,av)::r,_,⟨v,t,rfl,a,b⟩=>by
  exact gR (gq ..) (.ite (vW y x) a (rn b))
theorem lY{len:Nat}{n c:Nat}{fs:List (Nat×AV)}(o:dW γ len h n (.inst c fs)):
  c8 λod ps=>eX (InstAt h (γ.aI n).1 (instObj (T.cls c) (γ.aI n).2) (T.cls c) (some od)) (h.get? (γ.aI n).2=some od) (h.DictOf (zR prog w) (γ.aI n).2 ps) (oN γ len h fs ps) (∀x,lookIn x od=some (valueAt ps x)):=by
 refine zg (λ_ El=>?_) o;refine zg (λ_ Uk=>?_) El;refine zg (λe Ul=>?_) Uk;refine ze Ul λps ET=>(zg (λd f=>?_) ET);refine ze (lookIn_dict d) λod Um=>(zg (λho l=>?_) Um);exact⟨od,ps,⟨e,rfl,rfl,ho⟩,ho,d,f,l⟩
theorem mP{len:Nat}{a:AV}(k:cN γ len h a v):handedIn v=true:=by
 cases a with
 |o n=>refine zg (λUo _=>?_) k;refine gR Uo ?_;rfl
 |w i=>exact k.elim
 |d p=>
  cases p with
  |none=>obtain rfl:_=_:=k;rfl
  |bool _=>obtain rfl:_=_:=k;rfl
  |int _=>refine ze k λ_ Uq=>(gR Uq ?_);rfl
  |str _=>refine zg (λ_ Ee=>?_) k;obtain⟨_,mQ⟩:=Ee;refine gR mQ ?_;rfl
  |tuple _=>obtain⟨_,_,_,rfl,_⟩:=k;rfl
  |list _=>obtain⟨_,_,_,rfl,_⟩:=k;rfl
  |dict _=>obtain⟨_,_,rfl,_⟩:=k;rfl
theorem JC(I:Inv fx c){n:Nat}{fs:List (Nat×AV)}(e:c.g[n]? =some (.inst cl fs))(ha:T.tb.eY cl x=true){av:AV}(hv:BE x fs=some av){expr:Bool}
  (q:∀v s',ae c.s s'->s'.heap=c.s.heap->cN c.γ c.g.length c.s.heap av v->Q v s'):zx (zv prog w) A (getAttr (.ref (c.γ.aI n).1) (T.tb.nm x) expr) Q E c.s:=by
 obtain⟨od,ps,hi,ho,hd,hf,hl⟩:=lY (I.g.objs n _ e);refine zg (λqT iM=>?_) (tok.eY cl x ha);refine ze qT λcd km=>(zg (λk1 k2=>?_) km);refine zg (λk3 EU=>?_) iM;refine zg (λk4 _=>?_) EU;refine ze ((rn hf).1 _ hv) λv kn=>(zg (λev a=>?_) kn);refine get_value I.g.K hi k4 ?_ (mP a) (q v _ (ae.toks _ _) rfl a);have own:PySem.W.ownOf cd (some od) (T.tb.nm x)=some (some v):=(if_pos k2).trans ((hl _).trans (congrArg some ev))
 delta findObj
 refine gR k1 (gR k3 ?_);refine(?_:(PySem.W.ownOf cd (some od) (T.tb.nm x)).bind _=_);exact gR own rfl
theorem JD{a:CE}(hb:d9 (aH T.tb.nm a)=true)(ha:ai A call fx a):ai A call fx (.eY a x p):=λc r I h=>by
 refine(?_:zx _ _ (do
  let o ←attributeBase (aH T.tb.nm a) (T.tb.nm x) fx.env (YJ (aH T.tb.nm a) fx.env)
  standAt p.atName
  let r ←holding [o] (getAttr o (T.tb.nm x) true);letTemporaryGo (aH T.tb.nm a) o r
  pure r) _ _ _)
 exact gR (ft hb ..) (zf (ha.d7 I (.refl _) h λa1 c1 v1 h I1 K1 V1 _=>zf (wpAny_standAt (zf (zT (h.opt λx hx h=>h.bO.2.opt λav d e=>by
  have q:=gj hx;cases q.1;exact gR V1.1 (JC I1 q.2 h.bO.1 d λv s' g e' a=>zf (wpAny_letTemporaryGo (zl (e.1▸QE.from K1 (QE.dD I1 g (gR e' a))))))))))))
end
variable{fs:List (Nat×AV)}
structure mR(lt:Nat->Nat->Bool)(n:Nat):Prop where
 tr:∀a b c,lt a b=true->lt b c=true->lt a c=true
 tot:∀a b,a<n->b<n->a≠b->lt b a=false->lt a b=true
 asy:∀a b,lt a b=true->lt b a=false
noncomputable def el(p:Array Nat)(i:Nat):Nat:=p.getD i 0
theorem mS(p:Array Nat)(i:Nat):el p i=(p[i]?).getD 0:=Array.getD_eq_getD_getElem? ..
def jc(lt:Nat->Nat->Bool)(n:Nat)(i j:Nat)(C:Bool->zt->Prop)(s:zt):Prop:=aG (i<n) (j<n) (C (lt i j) s)
def Arr(n:Nat)(p:Array Nat):Prop:=p.size=n/\p.Perm (ZW n).toArray
section
variable{lt:Nat->Nat->Bool}{n:Nat}{p:Array Nat}{k l r:Nat}
theorem Arr.list(a:Arr n p):p.toList.Perm (ZW n):=Array.perm_iff_toList_perm.mp a.2
theorem Arr.at(a:Arr n p)(hi:i<n):p.toList[i]? =some (el p i):=by refine gR ZX ?_;refine gR (mS ..) (gR ((y6 (a.1.symm▸hi)) ..) ?_);rfl
theorem Arr.hZ(a:Arr n p)(hi:i<n):el p i<n:=adI.mp (a.list.mem_iff.mp (zy (a.at hi)))
theorem Arr.ne(a:Arr n p)(oW:i<j)(hj:j<n):el p i≠el p j:=λe=>
 have hi:=ZA oW hj
 absurd ((Y7 (zr.mp (a.at hi)).1 (a.list.nodup_iff.mpr List.nodup_range)).mp ((a.at hi).trans ((congrArg some e).trans (a.at hj).symm))) (zU oW)
theorem Arr.rev(a:Arr n p)(i j:Nat):Arr n (kas_rev p i j):=⟨(mirror_size _ _ _ _).trans a.1,(mirror_perm _ _ _ _).trans a.2⟩
theorem Arr.bubble(a:Arr n p)(i j:Nat):Arr n (bubble p i j):=⟨(bubble_size _ _ _).trans a.1,(bubble_perm _ _ _).trans a.2⟩
def Up(lt:Nat->Nat->Bool)(p:Array Nat)(k:Nat):Prop:=∀i j,i<j->j<k->lt (el p i) (el p j)=true
def Dn(lt:Nat->Nat->Bool)(p:Array Nat)(k:Nat):Prop:=∀i j,i<j->j<k->lt (el p j) (el p i)=true
theorem Up.succ(o:mR lt n)(u:Up lt p (k+1))(h:lt (el p k) (el p (k+1))=true):Up lt p (k+2):=λi j oW hj=>
 (ZY.mp hj).elim (u i j oW) λe=>by
  subst e;exact(ZY.mp oW).elim (λq=>o.tr _ _ _ (u i k q (Zl k)) h) λq=>q▸h
theorem Dn.succ(o:mR lt n)(u:Dn lt p (k+1))(h:lt (el p (k+1)) (el p k)=true):Dn lt p (k+2):=λi j oW hj=>
 (ZY.mp hj).elim (u i j oW) λe=>by
  subst e;exact(ZY.mp oW).elim (λq=>o.tr _ _ _ h (u i k q (Zl k))) λq=>q▸h
theorem OG:Up lt p 1:=λ_ _ h h1=>absurd (zF h (Zg h1)) (Zw _)
theorem EV(o:mR lt n)(a:Arr n p){Q:Nat->zt->Prop}(q:∀r,r+1<=n->Up lt p (r+1)->(r+1<n->lt (el p (r+1)) (el p r)=true)->Q (r+1) s) f:∀{k},k+1+f=n->Up lt p (k+1)->(kas_asc p f (k+1)).kasWp (jc lt n) Q s:=by
 induction f with
 |zero=>exact λh u=>q _ (zO h) u λz=>absurd h (zU z)
 |succ f ih=>
  intro k h u;have h2:k+1<n:=h▸Yh (Zu f);refine(?_:jc lt n (el p (k+1)) (el p k) _ s);refine⟨a.hZ h2,a.hZ (Yq h2),?_⟩;cases hc:lt (el p (k+1)) (el p k) with
  |true=>exact q k (Zz h2) u λ_=>hc
  |false=>exact ih ((ZZ _ _).trans h) (u.succ o (o.tot _ _ (a.hZ (Yq h2)) (a.hZ h2) (a.ne (Zl k) h2) hc))
theorem JE(o:mR lt n)(a:Arr n p){Q:Array Nat×Nat×Nat->zt->Prop}(q:∀r,r+1<=n->Dn lt p (r+1)->Q (p,r+1,0) s) f:∀{k},k+1+f=n->Dn lt p (k+1)->(kas_desc f p (k+1) 0).kasWp (jc lt n) Q s:=by
 induction f with
 |zero=>exact λh u=>q _ (zO h) u
 |succ f ih=>
  intro k h u;have h2:k+1<n:=h▸Yh (Zu f);have e1:=a.hZ h2;have e2:=a.hZ (Yq h2);refine(?_:jc lt n (el p (k+1)) (el p k) _ s);refine⟨e1,e2,?_⟩;cases hc:lt (el p (k+1)) (el p k) with
  |true=>exact ih ((ZZ _ _).trans h) (u.succ o hc)
  |false=>
   refine(?_:jc lt n (el p k) (el p (k+1)) _ s);refine⟨e2,e1,?_⟩;exact gR (o.tot _ _ e2 e1 (a.ne (Zl k) h2) hc ..) (q k (Zz h2) u)
theorem xR(hk:k+1<=p.size)(hi:i<k+1):el (kas_rev p 0 (k+1)) i=el p (k - i):=by refine gR (mS ..) (gR (getElem?_mirror_all hk ..) (gR (if_pos ⟨zE _,hi⟩ ..) ?_));refine gR (mS ..) (gR (yu ..) ?_);rfl
theorem EW(o:mR lt n)(a:Arr n p)(hk:k+1<=n)(d:Dn lt p (k+1)){Q:Nat×Array Nat->zt->Prop}(h:∀r p',r+1<=n->Arr n p'->Up lt p' (r+1)->Q (r+1,p') s):(kas_tail3 (k+1) n p).kasWp (jc lt n) Q s:=by refine gR (Yi ..) ?_;have z:=a.1.symm▸hk;refine EV o (a.rev 0 (k+1)) (λr h2 u _=>h r _ h2 (a.rev 0 _) u) _ (Yr hk) λi j oW hj=>(gR (xR z (ZA oW hj) ..) (gR (xR z hj ..) ?_));exact d _ _ (Nat.sub_lt_sub_left (zF oW (Zg hj)) oW) (yk (ad7 ..))
theorem EX(o:mR lt n)(a:Arr n p)(hn:1<=n){Q:Nat×Array Nat->zt->Prop}(h:∀r p',r+1<=n->Arr n p'->Up lt p' (r+1)->Q (r+1,p') s):(kas_count n p).kasWp (jc lt n) Q s:=by
 refine gR (Yi ..) (EV o a (λr h2 u vX=>?_) (n - 1) (Yr hn) OG);by_cases e:(r+1==n)=true
 ·exact gR (if_pos e ..) (h r p h2 a u)
 ·refine gR (if_neg e ..) ?_
  have h3:=Nat.lt_of_le_of_ne h2 λq=>e (beq_iff_eq.mpr q);cases r with
  |succ r=>
   refine gR (if_pos (adp (Zu r)) ..) (?_:jc lt n (el p 0) (el p (r+1)) _ s);refine⟨a.hZ hn,a.hZ h2,?_⟩;exact gR (u 0 (r+1) (Zu r) (Zl _) ..) (h _ p h2 a u)
  |zero=>
   refine gR (if_neg (yv 1) ..) (gR (Yi ..) ?_);exact JE o a (λr h4 d=>EW o a h4 d h) (n - 2) (Yr h3) (Dn.succ o (λ_ _ x y=>absurd (zF x (Zg y)) (Zw _)) (vX h3))
theorem mid(h:l<r):l<=(l+r)/2/\(l+r)/2<r:=⟨(Nat.le_div_iff_mul_le (by decide)).mpr (Nat.mul_two l▸zG (Zz h) l),(Nat.div_lt_iff_lt_mul (by decide)).mpr (Nat.mul_two r▸Nat.add_lt_add_right h r)⟩
theorem EY(o:mR lt n)(a:Arr n p)(hk:k<n)(u:Up lt p k){Q:Nat->zt->Prop}(q:∀l,l<=k->(∀i,i<l->lt (el p i) (el p k)=true)->(∀i,l<=i->i<k->lt (el p k) (el p i)=true)->Q l s) f:
  ∀{l r},r<=l+f->l<=r->r<=k->(∀i,i<l->lt (el p i) (el p k)=true)->(∀i,r<=i->i<k->lt (el p k) (el p i)=true)->(kas_place p k f l r).kasWp (jc lt n) Q s:=by
 induction f with
 |zero=>exact λhf hl hr h1 h2=>q _ (zk hl hr) h1 λi x=>h2 i (zk hf x)
 |succ f ih=>
  intro l r hf hl hr h1 h2;unfold kas_place;by_cases e:l≥r
  ·exact gR (if_pos e ..) (q l (zk hl hr) h1 λi x=>h2 i (zk e x))
  ·refine gR (if_neg e ..) ?_
   have m:=mid (Nat.lt_of_not_le e);have hm:=zF m.2 hr;have e1:=a.hZ (ZA hm hk);refine(?_:jc lt n (el p k) (el p ((l+r)/2)) _ s);refine⟨a.hZ hk,e1,?_⟩;cases hc:lt (el p k) (el p ((l+r)/2)) with
   |true=>exact ih (Zg (zF m.2 hf)) m.1 (Zz hm) h1 λi x y=>(Yj x).elim (λz=>z▸hc) λz=>o.tr _ _ _ hc (u _ _ z y)
   |false=>
    have hc:=o.tot _ _ e1 (a.hZ hk) (a.ne hm hk) hc;exact ih (zk hf (zk (zV m.1 (f+1)) (zO (ZZ _ f).symm))) m.2 hr (λi x=>(Yj (Zg x)).elim (λz=>z▸hc) λz=>o.tr _ _ _ (u _ _ z hm) hc) h2
theorem OH(hk:k<p.size)(hl:l<=k) i:el (bubble p k (k - l)) i=if i=l then el p k else if l<i/\i<=k then el p (i - 1) else el p i:=by exact gR (mS ..) (gR (getElem?_bubble hk _ (ad7 _ _) ..) (gR (Nat.sub_sub_self hl ..) (gR (mS ..) (gR (mS ..) (gR (mS ..) (gR (apply_ite (aeh · 0) ..) (gR (apply_ite (aeh · 0) ..) rfl)))))))
theorem OI(o:mR lt n){Q:Array Nat->zt->Prop}(h:∀p',Arr n p'->Up lt p' n->Q p' s) f:∀{p k},k+f=n->Arr n p->Up lt p k->(kas_bin f p k).kasWp (jc lt n) Q s:=by
 induction f with
 |zero=>exact λhk a u=>h _ a (hk▸u)
 |succ f ih=>
  intro p k hk a u;have hkn:=hk▸Yh (Zu f);have z:=a.1.symm▸hkn;refine gR (Yi ..) (EY o a hkn u (λl hl h1 h2=>ih ((ZZ _ _).trans hk) (a.bubble _ _) λi j oW hj=>?_) k (zO (yu k).symm) (zE k) (zm k) (λ_ x=>absurd x (Zw _)) λi x y=>absurd x (Nat.not_le_of_lt y));have lo:∀i,i<l->el (bubble p k (k - l)) i=el p i:=λi x=>by exact gR (OH z hl ..) (gR (if_neg (zU x) ..) (gR (if_neg λy=>aea x y.1 ..) rfl))
  have at_:el (bubble p k (k - l)) l=el p k:=gR (OH z hl ..) (gR (if_pos rfl ..) rfl);have hi:∀i,l<=i->i<k->el (bubble p k (k - l)) (i+1)=el p i:=λi x y=>by refine gR (OH z hl ..) (gR (if_neg (yD (yk x)) ..) (gR (if_pos ⟨yk x,y⟩ ..) ?_));rfl
  rcases Y8 j l with q |q |q
  ·refine gR (lo i (ZA oW q) ..) (gR (lo j q ..) ?_)
   exact u i j oW (zF q hl)
  ·refine gR q (gR (lo i (q▸oW) ..) (gR at_ ?_))
   exact h1 i (q▸oW)
  ·cases j with
   |zero=>exact absurd q (Zw _)
   |succ m=>
    have hm:=yP hj;have hlm:=Zg q;refine gR (hi m hlm hm ..) ?_;rcases Y8 i l with t |t |t
    ·exact gR (lo i t ..) (u i m (zF t hlm) hm)
    ·refine gR t (gR at_ ?_)
     exact h2 m hlm hm
    ·cases i with
     |zero=>exact absurd t (Zw _)
     |succ i=>
      have him:=yP oW;exact gR (hi i (Zg t) (ZA him hm) ..) (u i m him hm)
theorem JF(o:mR lt n)(hn:1<=n){Q:Array Nat->zt->Prop}(h:∀p',Arr n p'->Up lt p' n->Q p' s):(kas_sort n).kasWp (jc lt n) Q s:=by
 refine gR (Yi ..) (EX o ⟨by exact gR zS (gR yl rfl),.refl _⟩ hn λr p' h2 a u=>(?_:(if r+1<n then kas_bin (n - max (r+1) 1) p' (max (r+1) 1) else .ret p').kasWp (jc lt n) Q s));by_cases e:r+1<n
 ·refine gR (if_pos e ..) (gR (Nat.max_eq_left (Zu r) ..) ?_)
  exact OI o h _ (Yr h2) a u
 ·exact gR (if_neg e ..) (h p' a (yS h2 (ZS e)▸u))
end
section
set_option backward.match.sparseCases true
theorem tV(d:α) l:(ZW l.length).map (λi=>l.getD i d)=l:=by
 refine Y9 λi=>(gR Zd ?_);by_cases q:i<l.length
 ·refine gR (Yb q ..) ?_;refine gR (zB q ..) (gR (yQ ..) ?_);refine gR ZM (gR (zB q ..) ?_);rfl
 ·refine gR (Zs (ZS (yl▸q)) ..) (gR (Zs (ZS q) ..) ?_);rfl
section
variable{lt:Nat->Nat->Bool}{n:Nat}
theorem wp_at{Iu:Nat->Nat->(Bool->zt->Prop)->zt->Prop}(h:∀i j C,jc lt n i j C s->Iu i j C s){Q:α->zt->Prop}(t:KasT α):t.kasWp (jc lt n) Q s->t.kasWp Iu Q s:=by
 induction t with
 |ret _=>exact id
 |ask i j k ih=>exact λq=>h i j _ ⟨q.1,q.2,ih _ q.3⟩
abbrev fy(a:zJ)(h h':yi):Prop:=∀b o,b≠a->h.get? b=some o->h'.get? b=some o
theorem xT(h:m<64):m<=sizeLine:=zk (Zz h) (by decide)
theorem B1{k:Nat}{κ:SortKind}{P:YQ->zt->Prop}(ho:s.heap.get? a=some (aO vs k))(h64:vs.length<64)(o:mR lt vs.length)
  (hk:∀h' Q,fy a s.heap h'->2<=vs.length->Q κ {s with heap:=h'}->zx (zv prog w) A (keyKind' vs.toArray) Q E {s with heap:=h'})
  (hc:∀h' i j C,fy a s.heap h'->i<vs.length->j<vs.length->C (lt i j) {s with heap:=h'}->zx (zv prog w) A (keyLt' κ (vs.getD i .none) (vs.getD j .none)) C (λ_ _=>False) {s with heap:=h'})
  (h:∀p h' c,Arr vs.length p->Up lt p vs.length->fy a s.heap h'->h'.get? a=some (aO (p.toList.map λi=>vs.getD i .none) c)->P (.done (.ret .none)) {s with heap:=h'}):
  zx (zv prog w) A (Yc.«list.sort» ⟨[.ref a],[]⟩) P E s:=by
 have ho:=ho;obtain⟨e1,OJ⟩:∃e1,(s.heap.update a (ym λ_=>(#[]))).get? a=some (seqObj "list" #[] e1):=⟨_,get?_update_seq ho λ_=>#[]⟩;have hsz:=(zS ..).symm▸xT h64;refine gR (list_sort_plain ..) (zf (listItems_at ho rfl (zf (listUpdate_at ho rfl (zf (seqEpoch_at OJ rfl (zf (wpAny_newTuple (zf (wpAny_newList (zT ?_) (zE _))) hsz)))) hsz (zE _)))));dsimp only;generalize hH:((s.heap.update a (ym λ_=>(#[]))).push {cls:=.type "tuple",data:=.seq vs.toArray.toList.toArray}).push {cls:=.type "list",data:=.seq ([]).toArray}=H;have keep:fy a s.heap H:=λb x hb e=>hH▸zj _ (zj _ ((ZG _ _ _ _ hb).trans e));have at_:=hH▸zj _ (zj _ OJ);have tail:∀tW p,(arrOf tW).map (·.2)=adw (p.toList.map λi=>vs.getD i .none)->failedOf tW=none->Arr vs.length p->Up lt p vs.length->zx (zv prog w) A (do
   let JG:=(←seqEpoch a) != e1
   Builtin.List.listUpdate (.ref a) λ_=>(arrOf tW).map (·.2)
   if let some e:=failedOf tW then rule "list.sort.comparison-raised";throw e
   if JG then rule "list.sort.modified";raiseError "ValueError" "list modified during sort"
   ret .none) P E {s with heap:=H}:=λtW p ea ef ar up=>by
  refine gR ea (gR ef ?_);refine zf (seqEpoch_at at_ rfl ?_);refine zf (listUpdate_at at_ rfl ?_ (zE _) ?_)
  ·exact gR (bne_self_eq_false ..) (zl (h p _ _ ar up (λb x hb e=>(ZG _ _ _ _ hb).trans (keep b x hb e)) (get?_update_seq at_ λ_=>adw (p.toList.map λi=>vs.getD i yp))))
  ·refine gR zS (gR (zA ..) ?_);refine gR yn (gR ar.1 ?_)
   exact zQ (xT h64)
 by_cases h2:vs.toArray.size<2
 ·refine gR (if_pos h2 ..) (gR (if_pos h2 ..) ?_)
  refine zf (zl ?_);refine gR (StateT.run_pure ..) (zf (zl (tail _ (ZW vs.length).toArray ?_ rfl ⟨by exact gR zS (gR yl rfl),.refl _⟩ λi j x y=>?_)))
  ·refine(?_:(vs.toArray.zip vs.toArray).map (·.2)=adw ((ZW vs.length).map λi=>vs.getD i .none))
   refine gR (tV ..) ?_;apply Array.toList_inj.mp;simp[List.map_snd_zip]
  ·exact absurd (zF x (Zg (zF y (Zg (zS ..▸h2))))) (Zw _)
 ·refine gR (if_neg h2 ..) (gR (if_neg h2 ..) ?_)
  have h2:=ZS (zS ..▸h2);refine zf (hk H _ keep h2 ?_);have est:SortSt.mk' κ (vs.toArray.zip vs.toArray) #[] 7 none=kas_st κ (pairsOf vs) (adw (ZW vs.length)):=
   (congrArg (λx=>SortSt.mk' κ x #[] 7 none) ((kas_range (pairsOf vs)).symm.trans (gR (pairsOf_size ..) rfl)))
  have ask:(kas_sort vs.length).kasWp (kas_cmp prog w A κ (pairsOf vs)) (λp s'=>aG (Arr vs.length p) (Up lt p vs.length) (s'={s with heap:=H})) {s with heap:=H}:=by exact gL (kas_ask_eq ..) (wp_at (λi j C q=>hc H i j C keep q.1 q.2 q.3) _ (JF o (Z0 h2) λp' a u=>⟨a,u,rfl⟩))
  have run:=kas_runs (E:=E) (Q:=λ_ tW s'=>∃p:Array Nat,eX (arrOf tW=p.map (kas_item (pairsOf vs))) (failedOf tW=none) (Arr vs.length p) (Up lt p vs.length) (s'={s with heap:=H}))
   h2 h64 (λp' tW s' a1 a2 a3 a4=>⟨p',a2,a3,a4.1,a4.2,a4.3⟩) ask
  rw[←est] at run;refine zf (zI run (λx s' q=>?_) λ_ _ e=>e);refine ze q λp q=>(gR q.5 (tail x.2 p ?_ q.2 q.3 q.4));apply Array.toList_inj.mp;refine gR q.1 (gR Array.map_map (gR adq ?_));exact yH λi _=>congrArg (·.2) (kas_item_eq ..)
end
end
theorem mT a:∀b,Sd a b=decide (a<b):=by
 induction a with
 |nil=>intro b;cases b with
  |nil=>exact(decide_eq_false (adJ [])).symm
  |cons _ _=>exact(decide_eq_true (List.nil_lt_cons _ _)).symm
 |cons x r ih=>
  intro b;cases b with
  |nil=>exact(decide_eq_false (List.not_lt_nil _)).symm
  |cons y t=>
   refine(?_:(if(x==y)=true then Sd r t else decide (x<y))=_);by_cases e:x=y
   ·subst e
    refine gR (beq_self_eq_true ..) (gR (if_pos rfl ..) (gR (ih ..) ?_));exact decide_eq_decide.mpr (List.cons_lt_cons_self).symm
   ·exact gR (if_neg λq=>e (eq_of_beq q) ..) (decide_eq_decide.mpr ⟨λq=>adx.mpr (.inl q),λq=>(adx.mp q).resolve_right λz=>e z.1⟩)
theorem eh{a b:D}(h:cE a b=true)(ki:∀i j,a=.int i->b=.int j->i<j->P)(ks:∀x y,a=.str x->b=.str y->x.cps.toList<y.cps.toList->P):P:=by
 cases a with
 |int i=>cases b with
  |int j=>exact ki i j rfl rfl (of_decide_eq_true h)
  |_=>exact absurd h zi
 |str x=>cases b with
  |str y=>exact ks x y rfl rfl (of_decide_eq_true ((mT _ _).symm.trans h))
  |_=>exact absurd h zi
 |_=>exact absurd h zi
theorem gx(i j:Int):zD (.int i) (.int j)=(i==j):=by simp only[zD]
theorem rp{a b:D}(ha:hV a=true)(hb:hV b=true)(h:zD a b=true):a=b:=by
 cases a with
 |int i=>cases b with
  |int j=>exact congrArg _ (eq_of_beq ((gx i j).symm.trans h))
  |str y=>exact absurd h (by simp[zD])
  |_=>exact absurd hb zi
 |str x=>cases b with
  |int j=>exact absurd h (by simp[zD])
  |str y=>exact congrArg _ (of_decide_eq_true ((cw x y).symm.trans h))
  |_=>exact absurd hb zi
 |_=>exact absurd ha zi
theorem tX{a b:D}(h:cE a b=true):cE b a=false/\zD b a=false:=eh h
 (λi j ea eb l=>ea▸eb▸⟨decide_eq_false (Int.lt_asymm l),(gx j i).trans (beq_eq_false_iff_ne.mpr λe=>Int.lt_irrefl _ (e▸l))⟩)
 λx y ea eb l=>ea▸eb▸⟨(mT _ _).trans (decide_eq_false (List.lt_asymm l)),(cw y x).trans (decide_eq_false λe=>adJ _ (e▸l))⟩
theorem xU{a b c:D}(h:cE a b=true)(k:cE b c=true):cE a c=true:=eh h
 (λi j ea eb l=>eh k (λj' m OK ec l'=>ea▸ec▸decide_eq_true (Int.lt_trans l (PyData.int.inj (eb.symm.trans OK)▸l'))) λx y OK _ _=>nomatch eb.symm.trans OK)
 λx y ea eb l=>eh k (λj' m OK _ _=>nomatch eb.symm.trans OK) λy' z OK ec l'=>ea▸ec▸(mT _ _).trans (decide_eq_true (List.lt_trans l (PyData.str.inj (eb.symm.trans OK)▸l')))
theorem xV{a b:D}(h:cE a b=true):zD a b=false:=eh h
 (λi j ea eb l=>ea▸eb▸(gx i j).trans (beq_eq_false_iff_ne.mpr λe=>Int.lt_irrefl _ (e▸l)))
 λx y ea eb l=>ea▸eb▸(cw x y).trans (decide_eq_false λe=>adJ _ (e▸l))
theorem jG{a b:D}{r t:List D}(h:jr (a::r) (b::t)=true):(zD a b=true/\jr r t=true)\/cE a b=true:=by
 by_cases e:zD a b=true
 ·exact .inl ⟨e,(if_pos e).symm.trans h⟩
 ·exact .inr ((if_neg e).symm.trans h)
theorem EZ{xs:List D}:∀{ys:List D},xs.all hV=true->ys.all hV=true->jr xs ys=true->jr ys xs=false:=by
 induction xs with
 |nil=>intro ys _ _ _;cases ys <;> rfl
 |cons a r ih=>
  intro ys hx hy h;cases ys with
  |nil=>exact absurd h zi
  |cons b t=>
   refine ag λ_ k=>(zg (λx1 x2=>?_) (aa hx));refine zg (λy1 y2=>?_) (aa hy);refine k ?_;rcases jG h with⟨e,h3⟩ |h
   ·cases rp x1 y1 e
    exact(if_pos e).trans (ih x2 y2 h3)
   ·have z:=tX h
    exact(if_neg λq=>zi (z.2.symm.trans q)).trans z.1
theorem JH{xs:List D}:∀{ys zs:List D},xs.all hV=true->ys.all hV=true->zs.all hV=true->jr xs ys=true->jr ys zs=true->jr xs zs=true:=by
 induction xs with
 |nil=>
  intro ys zs _ _ _ _ k;cases zs with
  |nil=>cases ys <;> exact absurd k zi
  |cons _ _=>rfl
 |cons a r ih=>
  intro ys zs hx hy hz h k;cases ys with
  |nil=>exact absurd h zi
  |cons b t=>
   cases zs with
   |nil=>exact absurd k zi
   |cons c u=>
    obtain⟨x1,x2⟩:=aa hx;refine zg (λy1 y2=>?_) (aa hy);refine zg (λz1 z2=>?_) (aa hz);rcases jG h with⟨e,h3⟩ |h
    ·cases rp x1 y1 e
     rcases jG k with⟨e,k3⟩ |k
     ·exact(if_pos e).trans (ih x2 y2 z2 h3 k3)
     ·exact(if_neg λq=>zi ((xV k).symm.trans q)).trans k
    ·have k:cE a c=true:=by
      rcases jG k with⟨e,_⟩ |k
      ·cases rp y1 z1 e;exact h
      ·exact xU h k
     exact(if_neg λq=>zi ((xV k).symm.trans q)).trans k
def kd(x:D):Bool:=isStr x||i7 x
theorem jH{x:D}(h:d4 x y=true):(∃l l',x=.tuple l/\y=.tuple l'/\jr l l'=true)\/cE x y=true:=by
 cases x with
 |tuple l=>cases y with
  |tuple l'=>exact .inl ⟨l,l',rfl,rfl,h⟩
  |_=>exact absurd h zi
 |_=>exact .inr h
theorem E0{x:D}(h:cE x y=true):d4 x y=true:=eh h (λ_ _ e e' _=>by subst e;exact gL e' h) λ_ _ e e' _=>by subst e;exact gL e' h
theorem JI{x:D}(h:cE x y=true){l:List D}(e:y=.tuple l):P:=eh h (λ_ _ _ e' _=>nomatch e.symm.trans e') λ_ _ _ e' _=>nomatch e.symm.trans e'
theorem tY{x:D}(h:cE x y=true){l:List D}(e:x=.tuple l):P:=eh h (λ_ _ e' _ _=>nomatch e.symm.trans e') λ_ _ e' _ _=>nomatch e.symm.trans e'
theorem xW{x:D}(hx:kd x=true)(hy:kd y=true)(h:d4 x y=true):d4 y x=false:=by
 rcases jH h with⟨l,l',rfl,rfl,k⟩ |k
 ·exact EZ hx hy k
 ·have z:=(tX k).1
  exact abG.mpr λq=>(jH q).elim (λ⟨_,_,_,e,_⟩=>tY k e) λq=>zi (z.symm.trans q)
theorem E3{x z:D}(hx:kd x=true)(hy:kd y=true)(hz:kd z=true)(h:d4 x y=true)(k:d4 y z=true):d4 x z=true:=by
 rcases jH h with⟨l,l',rfl,e,h3⟩ |h3
 ·rcases jH k with⟨m,m',e',rfl,k3⟩ |k3
  ·subst e
   cases e';exact JH hx hy hz h3 k3
  ·exact tY k3 e
 ·rcases jH k with⟨m,m',e',_⟩ |k3
  ·exact JI h3 e'
  ·exact E0 (xU h3 k3)
theorem tZ{l:List D}(h:eZ l=true):l.Pairwise λa b=>(d4 a b||d4 b a)=true:=by
 induction l with
 |nil=>exact .nil
 |cons x r ih=>
  refine zg (λh1 h2=>?_) (aa h);exact yg.mpr ⟨λy hy=>zC.mp h1 y hy,ih h2⟩
theorem E4{l:List D}(h:l.Pairwise λa b=>(d4 a b||d4 b a)=true):eZ l=true:=by
 induction l with
 |nil=>rfl
 |cons x r ih=>
  refine ag λ_ k=>(zg (λh1 h2=>?_) (yg.mp h));exact k ((zY _ _).mpr ⟨zC.mpr h1,ih h2⟩)
theorem vY{l:List D}(p:l'.Perm l)(h:eZ l=true):eZ l'=true:=E4 ((p.pairwise_iff λ{a b} z=>(Bool.or_comm _ _).trans z).mpr (tZ h))
theorem qh x l:(aT.vv x l).Perm (x::l):=by
 induction l with
 |nil=>exact .refl _
 |cons y r ih=>
  refine(?_:(if d4 y x=true then y::aT.vv x r else x::y::r).Perm _)
  split
  ·exact(ih.cons y).trans (.swap _ _ _)
  ·exact .refl _
theorem dZ l:(aT l).Perm l:=by
 induction l with
 |nil=>exact .refl _
 |cons x r ih=>exact(qh x (aT r)).trans (ih.cons x)
def gy(l:List D):Prop:=l.Pairwise λa b=>d4 a b=true
theorem t4{x:D}{l:List D}(hk:∀z∈x::l,kd z=true)(hd:∀z∈l,(d4 x z||d4 z x)=true)(s:gy l):gy (aT.vv x l):=by
 induction l with
 |nil=>exact List.pairwise_singleton _ _
 |cons y r ih=>
  refine zg (λs1 s2=>?_) (yg.mp s);refine(?_:gy (if d4 y x=true then y::aT.vv x r else x::y::r));by_cases c:d4 y x=true
  ·refine gR (if_pos c ..) (yg.mpr ⟨λz hz=>?_,ih (λz hz=>hk z ((zK.mp hz).elim (λe=>e▸.head _) λq=>.tail _ (.tail _ q))) (λz hz=>hd z (.tail _ hz)) s2⟩)
   exact(zK.mp ((qh x r).mem_iff.mp hz)).elim (λe=>e▸c) (s1 z)
  ·refine gR (if_neg c ..) ?_
   have xy:=(zW.mp (hd y (.head _))).resolve_right c;exact yg.mpr ⟨λz hz=>(zK.mp hz).elim (λe=>e▸xy) λq=>E3 (hk x (.head _)) (hk y (.tail _ (.head _))) (hk z (.tail _ (.tail _ q))) xy (s1 z q),s⟩
theorem gD{l:List D}(hk:∀z∈l,kd z=true)(hd:eZ l=true):gy (aT l):=by
 induction l with
 |nil=>exact .nil
 |cons x r ih=>
  refine zg (λh1 h2=>?_) (aa hd);exact t4 (λz hz=>hk z ((zK.mp hz).elim (λe=>e▸.head _) λq=>.tail _ ((dZ r).mem_iff.mp q))) (λz hz=>zC.mp h1 z ((dZ r).mem_iff.mp hz)) (ih (λz hz=>hk z (.tail _ hz)) h2)
theorem lu{a:List D}:∀{b:List D},(∀z∈a,kd z=true)->a.Perm b->gy a->gy b->a=b:=by
 induction a with
 |nil=>exact λ_ h _ _=>(List.nil_perm.mp h).symm
 |cons x a ih=>
  intro b hk h sa sb;cases b with
  |nil=>exact absurd h.length_eq (Nat.succ_ne_zero _)
  |cons y b=>
   refine zg (λa1 a2=>?_) (yg.mp sa);refine zg (λb1 b2=>?_) (yg.mp sb);have e:=(zK.mp (h.mem_iff.mp (yx ..))).elim id λhx=>(zK.mp (h.mem_iff.mpr (yx))).elim Eq.symm λhy=>
    absurd (xW (hk x (.head _)) (hk y (.tail _ hy)) (a1 y hy)) λq=>zi (q.symm.trans (b1 x hx))
   subst e;exact gR (ih (λz hz=>hk z (.tail _ hz)) ((List.perm_cons x).mp h) a2 b2 ..) rfl
theorem JJ{xs:List D}(h:xs.all isStr=true):∃ks:List Str,xs=ks.map .str:=by
 induction xs with
 |nil=>exact⟨[],rfl⟩
 |cons x r ih=>
  refine zg (λh1 h2=>?_) (aa h);refine ze (ba h1) λl rm=>(gR rm ?_);refine ze (ih h2) λks jb=>(gR jb ?_);exact⟨l::ks,rfl⟩
theorem f5{p:D}(h:j8 p=true):c8 λk ks=>p=.tuple ((k::ks).map .str):=by
 cases p with
 |tuple xs=>
  cases xs with
  |nil=>exact absurd h zi
  |cons x xs=>
   refine zg (λh1 h2=>?_) (aa h);refine ze (ba h1) λk qY=>(gR qY ?_);refine ze (JJ h2) λks vF=>(gR vF ?_);exact⟨k,ks,rfl⟩
 |_=>exact absurd h zi
theorem B2{p:D}(h:isInt p=true):∃i,p=.int i:=by
 cases p with
 |int i=>exact⟨i,rfl⟩
 |_=>exact absurd h zi
theorem iC{p:D}(h:ml p=true):c8 λn x=>p=.tuple [.int n,.str x]:=by
 refine ze (vt h) λl jx=>?_;obtain⟨e,h⟩:=jx;cases fV e;cases l with
 |nil=>exact absurd h zi
 |cons a r=>
  refine zg (λh1 h=>?_) (aa h);refine ze (B2 h1) λn ia=>(gR ia ?_);cases r with
  |nil=>exact absurd h zi
  |cons b r=>
   obtain⟨h2,h⟩:=aa h;refine ze (ba h2) λx xX=>(gR xX ?_);cases r with
   |nil=>exact⟨n,x,rfl⟩
   |cons _ _=>exact absurd h zi
theorem B3(ks:List Str):(ks.map Yo).all hV=true:=zC.mpr λ_ hx=>let⟨_,_,e⟩:=zH.mp hx;e▸rfl
theorem ib{l:List D}(h:sortable l=true):aF (∀z∈l,kd z=true) (eZ l=true):=by
 refine zg (λh1 h2=>?_) (aa h);refine⟨λz hz=>?_,h2⟩;refine YA (zW.mp h1) (λh=>?_) λh=>?_
 ·rcases zW.mp h with h |h
  ·refine ze (ba (zC.mp h z hz)) λx hX=>(gR hX ?_);rfl
  ·obtain⟨k,ks,E5⟩:=f5 (zC.mp h z hz);exact gR E5 (B3 (k::ks))
 ·obtain⟨n,x,kn⟩:=iC (zC.mp h z hz);refine gR kn ?_;rfl
inductive rq:D->D->Prop
 |i (x y:Int):rq (.int x) (.int y)
 |s (x y:Str):rq (.str x) (.str y)
section
variable{Q:Bool->zt->Prop}
theorem oneLt_int{a b:Int}{t u:Tok}{Q:Bool->zt->Prop}(h:Q (decide (a<b)) s):zx (zv prog w) A (oneLt' true (.int a t) (.int b u)) Q E s:=by refine gR (oneLt'_eq ..) (zf (wpAny_cRoomFor_byValue rfl ?_));refine zf (wpAny_callSpecialIfBound?_slot (typeIs_int s a t) PySem.slot_int_lt (wpAny_call_entry PySem.slot_int_lt (typeIs_int s a t) PySem.entry_int_lt ?_ (PySem.args_int_lt _ _)));refine(?_:zx _ _ (ret (.bool (decide (a<b)))) _ _ s);exact zl ⟨_,rfl,wpAny_truthy_bool h⟩
theorem OL{f:Bool}{a b:D}(k:rq a b)(da:DR L a u)(db:DR L b v)(q:Q (cE a b) s):zx (zv prog w) A (oneLt' f u v) Q E s:=by
 cases k with
 |i x y=>
  obtain⟨t,E6⟩:=da;refine gR E6 ?_;refine ze db λt' vZ=>(gR vZ ?_);cases f with
  |true=>exact oneLt_int q
  |false=>exact kat_one _ _ (adO q)
 |s x y=>
  obtain⟨_,t,kC⟩:=da;refine gR kC ?_;refine zg (λ_ OM=>?_) db;refine ze OM λt' kj=>(gR kj ?_);have q:Q (Sd x.cps.toList y.cps.toList) s:=q;rw[mT] at q;cases f with
  |true=>exact oneLt_str q
  |false=>exact kat_one _ _ (PyProof.Rows.lt_str q)
theorem Ur{a b:D}(k:rq a b)(da:DR L a u)(db:DR L b v)(q:Q (zD a b) s):zx (zv prog w) A (eqBool u v) Q E s:=by
 cases k with
 |i x y=>
  obtain⟨t,Us⟩:=da;refine gR Us ?_;refine ze db λt' Eo=>(gR Eo ?_);exact wpAny_eqBool_int (gx x y▸q)
 |s x y=>
  obtain⟨_,t,E7⟩:=da;refine gR E7 ?_;refine zg (λ_ iV=>?_) db;refine ze iV λt' q9=>(gR q9 ?_);exact wpAny_eqBool_str (cw x y▸q)
theorem ON{fin:Bool}{xs:List D}:∀{ys:List D} {vs ws:List zo} {i:Nat},(∀p∈xs.zip ys,rq p.1 p.2)->aU L xs vs->aU L ys ws->fin=decide (xs.length<ys.length)->Q (jr xs ys) s->KatLex prog w A true fin Q (vs.zip ws) i s:=by
 induction xs with
 |nil=>
  intro ys vs ws i _ h1 _ hf q;refine gR h1 (kat_nil (hf▸?_));cases ys with
  |nil=>exact q
  |cons _ _=>exact q
 |cons a r ih=>
  intro ys vs ws i k h1 h2 hf q;cases ys with
  |nil=>
   refine gR h2 (gR List.zip_nil_right ?_);exact kat_nil (hf▸q)
  |cons b t=>
   obtain⟨v,tl,ia,d1,d2⟩:=h1;refine gR ia ?_;obtain⟨u,tl',JK,e1,e2⟩:=h2;refine gR JK ?_;have k0:rq a b:=k (a,b) (.head _);refine gR List.zip_cons_cons (kat_cons (Ur k0 d1 e1 (kat_go (λe=>kat_yes (ih (λp hp=>k p (.tail _ hp)) d2 e2 (hf.trans (decide_eq_decide.mpr Nat.succ_lt_succ_iff)) ((if_pos e:jr (a::r) (b::t)=_)▸q))) λe=>kat_no (OL k0 d1 e1 ((if_neg (abG.mp e):jr (a::r) (b::t)=_)▸q)))))
theorem OO(hL:Sub L s.heap.get?){xs ys:List D}(k:∀p∈xs.zip ys,rq p.1 p.2)(hu:DR L (.tuple xs) u)(hv:DR L (.tuple ys) v)(q:Q (d4 (.tuple xs) (.tuple ys)) s):
  zx (zv prog w) A (keyLt' (tuples' true) u v) Q E s:=by
 obtain⟨a,vs,n,ru,ha,da⟩:=hu;refine gR ru ?_;obtain⟨b,ws,m,t5,hb,db⟩:=hv;refine gR t5 ?_;refine kat_lt (hL _ _ ha) rfl (hL _ _ hb) rfl (ON k da db ?_ q);exact gR zS (gR zS (gR da.length (gR db.length rfl)))
theorem B4{ks js:List Str}:∀p∈(ks.map Yo).zip (js.map Yo),rq p.1 p.2:=λp hp=>by
 refine zg (λh1 h2=>?_) (YR hp);obtain⟨x,_,e⟩:=zH.mp h1;obtain⟨y,_,e'⟩:=zH.mp h2;exact e▸e'▸.s x y
end
section
theorem B5(hL:Sub L h.get?){M:Model}{T:zo}{l:List D}(hp:∀x∈l,c8 λy r=>aF (x=.tuple (y::r)) (∀v,DR L y v->ad8 M h (typeOf v) T)):∀{vs:List zo},aU L l vs->∃fs,aG (KatTups h vs fs) (fs.length=l.length) (∀v∈fs,ad8 M h (typeOf v) T):=by
 induction l with
 |nil=>exact λd=>d▸⟨[],trivial,rfl,λ_ h=>nomatch h⟩
 |cons x r ih=>
  intro vs d;obtain⟨v,t,OP,hx,ht⟩:=d;refine gR OP ?_;obtain⟨fs,z⟩:=ih (λx hx=>hp x (.tail _ hx)) ht;obtain⟨y,r',e,k⟩:=hp x (.head _);subst e;obtain⟨a,ws,n,Ut,ha,f,RA,rfl,hf,_⟩:=hx;refine gR Ut ?_;exact⟨f::fs,.cons (hL _ _ ha) rfl rfl rfl z.1,congrArg (·+1) z.2,λu hu=>(zK.mp hu).elim (λe=>e▸k f hf) (z.3 u)⟩
theorem xY{l:List D}{d:D}(h:i<l.length):l[i]? =some (l.getD i d):=by refine gR ZM (gR (zB h ..) ?_);rfl
theorem xZ(h:vs[i]? =some v):vs.getD i .none=v:=by refine gR ZM (gR h ?_);rfl
theorem E8{l:List D}(h:aU L l vs) d {p:List Nat} (hp:∀i∈p,i<l.length):aU L (p.map λi=>l.getD i d) (p.map λi=>vs.getD i .none):=by
 induction p with
 |nil=>rfl
 |cons i p ih=>
  refine ze (h.get (xY (d:=d) (hp i (.head _)))) λv OQ=>(zg (λhv dv=>?_) OQ);exact .cons ((xZ hv).symm▸dv:DR L (l.getD i d) (vs.getD i .none)) (ih λj hj=>hp j (.tail _ hj))
theorem JL(hL:Sub L s.heap.get?)(hn:L a=none){k:Nat}{l:List D}{P:YQ->zt->Prop}(ho:s.heap.get? a=some (aO vs k))(hd:aU L l vs)(hs:sortable l=true)(hz:l.length<64)
  (h:∀h' c fR,fy a s.heap h'->h'.get? a=some (aO fR c)->aU L (aT l) fR->P (.done (.ret .none)) {s with heap:=h'}):zx (zv prog w) A (Yc.«list.sort» ⟨[.ref a],[]⟩) P E s:=by
 have keep:∀h',fy a s.heap h'->Sub L h'.get?:=λh' k b o e=>k b o (λq=>nomatch (hn.symm.trans (q▸e):none=some o)) (hL _ _ e);have lv:=hd.length;obtain⟨kk,db⟩:=ib hs;have get:∀i,i<vs.length->aG (l.getD i .none∈l) (DR L (l.getD i .none) (vs.getD i .none)) (l[i]? =some (l.getD i .none)):=λi hi=>by
  have e:=xY (d:=.none) (lv▸hi);refine ze (hd.get e) λv Uu=>(zg (λhv dv=>?_) Uu);exact⟨zy e,(xZ hv).symm▸dv,e⟩
 have oB:mR (λi j=>decide (i<vs.length)&&decide (j<vs.length)&&d4 (l.getD i .none) (l.getD j .none)) vs.length:=by
  have ins:∀{a b},(decide (a<vs.length)&&decide (b<vs.length)&&d4 (l.getD a .none) (l.getD b .none))=true->aG (a<vs.length) (b<vs.length) (d4 (l.getD a .none) (l.getD b .none)=true):=λz=>
   have⟨z1,z3⟩:=aa z;have⟨z1,z2⟩:=aa z1;⟨of_decide_eq_true z1,of_decide_eq_true z2,z3⟩
  have out:∀{a b},a<vs.length->b<vs.length->(decide (a<vs.length)&&decide (b<vs.length)&&d4 (l.getD a .none) (l.getD b .none))=d4 (l.getD a .none) (l.getD b .none):=λx y=>by
   refine gR (decide_eq_true x ..) (gR (decide_eq_true y ..) ?_);rfl
  refine⟨λa b c x y=>?_,λa b x y ve z=>?_,λa b x=>?_⟩
  ·have x:=ins x
   have y:=ins y;exact(out x.1 y.2).trans (E3 (kk _ (get a x.1).1) (kk _ (get b x.2).1) (kk _ (get c y.2).1) x.3 y.3)
  ·refine(out x y).trans ?_
   have z:=(out y x).symm.trans z;have pw:=Y0.mp (tZ db);have e1:=(get a x).3;have f1:=(zr.mp e1).2;have f2:=(zr.mp ((get b y).3)).2;rcases Nat.lt_or_gt_of_ne ve with q |q
   ·exact(zW.mp (f1▸f2▸pw a b (lv▸x) (lv▸y) q)).resolve_right λw=>zi (z.symm.trans w)
   ·exact(zW.mp (f1▸f2▸pw b a (lv▸y) (lv▸x) q)).resolve_left λw=>zi (z.symm.trans w)
  ·have x:=ins x
   exact(out x.2 x.1).trans (xW (kk _ (get a x.1).1) (kk _ (get b x.2).1) x.3)
 have fin:∀p,l.all p=true->∀κ,(∀h' Q,fy a s.heap h'->2<=vs.length->Q κ {s with heap:=h'}->zx (zv prog w) A (keyKind' vs.toArray) Q E {s with heap:=h'})->
   (∀h' x y u v Q,fy a s.heap h'->p x=true->p y=true->DR L x u->DR L y v->Q (d4 x y) {s with heap:=h'}->zx (zv prog w) A (keyLt' κ u v) Q (λ_ _=>False) {s with heap:=h'})->
   zx (zv prog w) A (Yc.«list.sort» ⟨[.ref a],[]⟩) P E s:=λp ha κ hk hc=>
  B1 ho (lv▸hz) oB hk (λh' i j C kb hi hj q=>by
   rw[decide_eq_true hi,decide_eq_true hj] at q;exact hc h' _ _ _ _ C kb (zC.mp ha _ (get i hi).1) (zC.mp ha _ (get j hj).1) (get i hi).2 (get j hj).2 q) λp' h' c ar up kb e=>by
   have pe:(p'.toList.map λi=>l.getD i .none).Perm l:=(ar.list.map _).trans (lv▸.of_eq (tV _ l));have so:gy (p'.toList.map λi=>l.getD i .none):=Y0.mpr λi j hi hj oW=>by
    have hj':j<vs.length:=by refine gL ar.1 (gL yn (gL (zA (f:=λi=>l.getD i .none) ..) ?_));exact hj
    refine gR (List.getElem_map ..) (gR (List.getElem_map ..) ?_);refine gR (((zr.mp (ar.at (ZA oW hj'))).2) ..) (gR (((zr.mp (ar.at hj')).2) ..) ?_);exact(aa (up i j oW hj')).2
   exact h h' c _ kb e ((lu (λz hz=>kk z (pe.mem_iff.mp hz)) (pe.trans (dZ l).symm) so (gD kk db))▸E8 hd .none λi hi=>lv▸adI.mp (ar.list.mem_iff.mp hi))
 have Uv:∀p T,l.all p=true->(ZF T==ZF T)=true->(ZF T != ZF "tuple")=true->(∀x,p x=true->c8 λy r=>aF (x=.tuple (y::r)) (∀h v,DR L y v->ad8 (zv prog w) h (typeOf v) (.type T)))->(∀x y,p x=true->p y=true->∃xs ys,x=.tuple xs/\y=.tuple ys/\∀z∈xs.zip ys,rq z.1 z.2)->
   zx (zv prog w) A (Yc.«list.sort» ⟨[.ref a],[]⟩) P E s:=λp T ha t1 t2 hf hs=>fin p ha (tuples' true)
  (λh' Q kb h2 q=>have⟨fs,z⟩:=B5 (keep h' kb) (λx hx=>let⟨y,r,e⟩:=hf x (zC.mp ha x hx);⟨y,r,e.1,e.2 h'⟩) hd
   kat_kind z.1 (z.2▸(λq=>lv▸zF Nat.two_pos q) h2) z.3 t1 (gR t2 q))
  λh' x y u v Q kb hx hy hu hv q=>by
   refine ze (hs x y hx hy) λxs Uw=>?_;obtain⟨ys,rfl,rfl,k⟩:=Uw;exact OO (keep h' kb) k hu hv q
 rcases zW.mp (aa hs).1 with hs |hs
 ·refine YA (zW.mp hs) (λhs=>?_) λhs=>?_
  ·refine fin isStr hs oneType' (λh' Q _ h2 q=>kas_kind (T:=.type "str") h2 (λv hv=>?_) (by decide) (by decide) q) λh' x y u v Q _ hx hy hu hv q=>?_
   ·refine ze (y3 hv) λi hi=>?_
    refine ze (hd.Ja hi) λp Mw=>?_;obtain⟨x,rfl⟩:=ba (zC.mp hs p (zy Mw.1));obtain⟨_,t,Ux⟩:=Mw.2;refine gR Ux ?_;exact adZ rfl
   ·obtain⟨x,rfl⟩:=ba hx
    obtain⟨y,rfl⟩:=ba hy;obtain⟨_,t,Uy⟩:=hu;refine gR Uy ?_;refine zg (λ_ Uz=>?_) hv;obtain⟨t',UA⟩:=Uz;refine gR UA ?_;exact kas_lt_str (mT x.cps.toList y.cps.toList▸q)
  ·refine Uv j8 "str" hs (by decide) (by decide) (λx hx=>?_) λx y hx hy=>?_
   ·obtain⟨k,ks,E9⟩:=f5 hx;refine gR E9 ?_
    exact⟨_,_,rfl,λh v dv=>by refine zg (λ_ t6=>?_) dv;exact ze t6 λt UB=>(gR UB (adZ rfl))⟩
   ·obtain⟨k,ks,UC⟩:=f5 hx;refine gR UC ?_
    obtain⟨j,js,UD⟩:=f5 hy;refine gR UD ?_;exact⟨_,_,rfl,rfl,B4⟩
 ·refine Uv ml "int" hs rfl rfl (λx hx=>?_) λx y hx hy=>?_
  ·obtain⟨k,ks,tB⟩:=iC hx;refine gR tB ?_
   exact⟨_,_,rfl,λh v dv=>ze dv λt t7=>(gR t7 (adZ rfl))⟩
  ·obtain⟨k,ks,mJ⟩:=iC hx;refine gR mJ ?_
   obtain⟨j,js,jb⟩:=iC hy;refine gR jb ?_;refine⟨_,_,rfl,rfl,λz hz=>?_⟩;cases hz with
   |head=>exact .i _ _
   |tail _ hz=>cases hz with
    |head=>exact .s _ _
    |tail _ hz=>nomatch hz
end
variable{M:Model}
def gW(h:yi)(d:zJ)(es:Array yL)(ep:Nat):Prop:=∃o,aG (h.get? d=some o) o.ExactDict (o.data=.dict es ep)
theorem gW.at_{d:zJ}{es:Array yL}(x:gW h d es ep)(k:∀o,h.get? d=some o->h'.get? d=some o):gW h' d es ep:=let⟨o,ho,r,r'⟩:=x;⟨o,k o ho,r,r'⟩
theorem gW.typeIs{d:zJ}{es:Array yL}(x:gW s.heap d es ep):s.TypeIs (.ref d) "dict":=let⟨o,ho,hc,_⟩:=x;⟨o,ho,hc.1⟩
theorem gW.lt{d:zJ}{es:Array yL}(x:gW h d es ep):d<h.objs.size:=let⟨_,ho,_,_⟩:=x;zZ ho
section
theorem kE(hh:A.handled=none){Q:α->zt->Prop}{K:zo->zt->Prop}(h:∀h' e,(∀b o,s.heap.get? b=some o->h'.get? b=some o)->(∃o,h'.get? e=some o/\o.cls=.type "StopIteration")->K (.ref e) {s with heap:=h'}):
  zx (zv prog w) A (do let e ←newExc (.type "StopIteration") [];raiseNew e) Q K s:=by
 refine zf (zf (wpAny_newObj_type ?_ (by size_fits)));refine zf (wpAny_of_eq (a:=yp) rfl ?_);refine wpAny_newObj_type (wpAny_raiseNew_none hh (h _ _ (λb o e=>zj _ (zj _ e)) ⟨_,zq _ rfl,rfl⟩)) (by size_fits)
theorem Fc{d:zJ}{es:Array yL}(hd:(d==sysModules)=false)(x:gW s.heap d es ep)
  (hQ:Q (.ref s.heap.objs.size) {s with heap:=s.heap.push {cls:=.type "dict_keyiterator",data:=.fields #[.ref d,.int 0 0,.int es.size 0,.int ep 0]}}):zx (zv prog w) A (pyIter (.ref d)) Q E s:=by
 have hT:=x.typeIs;refine ze x λo ry=>?_;obtain⟨ho,hc,JM⟩:=ry;refine wpAny_pyIter_slot hT F.slot_dict_iter (wpAny_call_entry F.slot_dict_iter hT F.entry_dict_iter ?_ (F.args_dict_iter_1 _));refine zf (zf (wpAny_notOrdered_dict hT ?_));refine(?_:zx _ _ (pure (Zm d)) _ _ s);refine zl (?_:zx _ _ (Yv d >>=_) _ _ s);unfold Yv;refine gR (if_neg (by refine gR hd ?_;exact zi) ..) ?_;refine zf (zl (zf (wpAny_dictEntries ho JM (zf (wpAny_dictEpoch ho JM ?_)))));exact zf (wpAny_newObj_type (zl ⟨_,rfl,"dict_keyiterator",_,⟨_,zq _ rfl,rfl⟩,F.slot_dict_keyiterator_next.lookup,hQ⟩))
theorem t9{it d:zJ}{es:Array yL}(hh:A.handled=none)(hit:s.heap.IsKeyIter it d i es.size ep)(x:gW s.heap d es ep){Q:Option zo->zt->Prop}
  (h1:∀e h',es[i]? =some e->h'.IsKeyIter it d (i+1) es.size ep->ZN it s.heap h'->Q (some e.key) {s with heap:=h'})
  (h0:es[i]? =none->∀h',yT it s.heap h'->Q none {s with heap:=h'}):zx (zv prog w) A (pyNext (.ref it)) Q E s:=by
 refine ze (id hit) λo qX=>(zg (λho km=>?_) qX);refine zg (λhc hd=>?_) km;refine ze x λod kn=>?_;obtain⟨Mx,JN,x6⟩:=kn;refine zf (wpAny_attempt (ZJ hit.typeIs F.slot_dict_keyiterator_next
  (wpAny_call_entry F.slot_dict_keyiterator_next hit.typeIs F.entry_dict_keyiterator_next ?_ (F.args_dict_keyiterator_next_1 _))))
 refine zf (zl (zf (zf (zf (wpAny_typeNameOfWhole_keyiter hit.typeIs (zl (zf (wpAny_fieldsOf ho hd ?_))))))));refine gR (if_neg (show ¬(Builtin.Dict_items.ownsTuple "dict_keyiterator"=true) by decide) ..) (iT (zi) (zf (zl (zf (wpAny_dictEntries Mx x6 ?_)))));refine iT (by simp) (zf (zl (zf (wpAny_dictEpoch Mx x6 ?_))));refine iT (by simp) (zl ?_);dsimp only;refine gR (if_neg (by omega)) (gR (yB ..) ?_);cases he:es[i]? with
 |some e=>
  refine zf (zf (wpAny_typeNameOfWhole_keyiter hit.typeIs (zl (zf (wpAny_isOneOf_keyiter hit.typeIs ?_)))));refine(?_:zx _ _ (setField (.ref it) 1 (rawInt (i+1)) >>=_) _ _ s);refine zf (wpAny_setField ho hd (by simp) ?_);have ua:(s.heap.update it (ya (·.setIfInBounds 1 (rawInt (i+1))))).IsKeyIter it d (i+1) es.size ep:=
   ⟨_,Ze _ ho (Z1 (ZO hd _)),(abO ..).trans hc,by refine gR (ZO hd ..) ?_;simp[rawInt]⟩
  refine zf (zT (zf (wpAny_isOneOf_keyiter ua.typeIs ?_)));exact zl (zl ⟨_,rfl,zl (h1 e _ he ua (ZU ..))⟩)
 |none=>
  refine zf (zf (wpAny_typeNameOfWhole_keyiter hit.typeIs (zl ?_)));refine zf (wpAny_setField ho hd (zw (zE _)) ?_);refine kE (A:=A.in1) hh λh2 e k2 ⟨o,ho,hc⟩=>(zf (wpAny_isInstance ⟨o,ho,hc⟩ isSubtype_stop ?_));exact zl (h0 he h2 λb o hb e=>k2 b o ((ZU ..).extBut b o hb e))
def UE(es:Array yL)(i:Nat)(v:zo):Prop:=∃e,es[i]? =some e/\v=e.key
theorem B6(hh:A.handled=none)(I d:zJ)(ve:d≠I) es ep:
  Walks prog w A I [I,d] [I] es.size (UE es) (λi h=>h.IsKeyIter I d i es.size ep/\gW h d es ep) where
 sub:=λb hb=>by simp at hb;simp[hb]
 frame:=λ_ _ _ st hk=>⟨st.1.at λo e=>hk I (by simp) o e,st.2.at_ λo e=>hk d (by simp) o e⟩
 item:=λi s Q E hi st hQ=>t9 hh st.1 st.2
  (λe h' he ua hs=>hQ _ h' s.toks ⟨e,he,rfl⟩ ⟨ua,st.2.at_ λo ho=>hs.extBut d o ve ho⟩ λb o hb e=>hs.extBut b o (λh=>hb (by simp[h])) e)
  (λhe=>absurd he (by simp[hi]))
 done:=λs Q E st hQ=>t9 hh st.1 st.2 (λe h' he=>absurd he (by simp)) (λ_ h' he'=>hQ h' s.toks λb o hb e=>he' b o (λh=>hb (by simp[h])) e)
 self:=λ_ _ _ _ st hQ=>wpAny_pyIter_keyiter st.1 hQ
theorem JO{d:zJ}{es:Array yL}(lo:(d==sysModules)=false):KdlSrc prog w "dict" d d es.size (UE es) (λh=>gW h d es ep) where
 type:=λ_ hm=>hm.typeIs
 there:=λ_ hm=>⟨hm.lt,hm.lt⟩
 keep:=λ_ _ hm hk=>hm.at_ λo e=>hk d (.inl rfl) o e
 notList:=by decide
 notTuple:=by decide
 hint:=λ_ _ _ _ hm hq=>kdl_hint_dict hm.typeIs hq
 iter:=λ_ _ hh hm=>⟨_,_,(λ_ _ hq=>Fc lo hm hq),B6 hh _ d (zU hm.lt) es ep,⟨⟨_,zq _ rfl,rfl,rfl⟩,hm.at_ λ_ e=>zj _ e⟩⟩
end
section
theorem mU{p:D->Bool}{l:List D}(h:l'.Perm l)(a:l.all p=true):l'.all p=true:=zC.mpr λx hx=>zC.mp a x (h.mem_iff.mp hx)
theorem oX{l:List D}(h:l'.Perm l)(s:sortable l=true):sortable l'=true/\aT l'=aT l:=by refine zg (λs1 s2=>?_) (aa s);have s':=(zY _ _).mpr ⟨zW.mpr ((zW.mp s1).imp (λz=>zW.mpr ((zW.mp z).imp (mU h) (mU h))) (mU h)),vY h s2⟩;have k:=ib s;have k':=ib s';exact⟨s',lu (λz hz=>k'.1 z ((dZ l').mem_iff.mp hz)) ((dZ l').trans (h.trans (dZ l).symm)) (gD k'.1 k'.2) (gD k.1 k.2)⟩
theorem kF(hL:Sub L s.heap.get?){x:zo}{l:List D}(hs:sortable l=true)(hz:l.length<64)
  (hc:∀R,(∀vs l' s',ae s s'->l'.Perm l->aU L l' vs->R vs s')->zx (zv prog w) A.in1 (collect x) R E s)
  (h:∀s' c fR k,ae s s'->s'.heap.get? c=some (aO fR k)->s.heap.get? c=none->aU L (aT l) fR->Q (.ref c) s'):zx (zv prog w) A (call (.builtin "sorted") [x]) Q E s:=by
 refine call_function_entry kind_sorted plain_sorted entry_sorted (args_sorted1 _) (zf (zl (zf (hc _ λvs l' s' g pm d=>?_))));have lz:=pm.length_eq;refine zg (λhs es=>?_) (oX pm hs);replace h:=(es).symm▸h;refine zf (wpAny_newList ?_ (gR d.length (bc (Zz (ZA (lz.symm▸hz) (by decide))))));have hn:s.heap.get? s'.heap.objs.size=none:=by
  cases q:s.heap.get? s'.heap.objs.size with
  |none=>rfl
  |some o=>have:=g.sub _ _ q;rw[ao] at this;exact nomatch this
 have JP:L s'.heap.objs.size=none:=by
  cases q:L s'.heap.objs.size with
  |none=>rfl
  |some o=>have:=hL _ _ q;replace this:=hn▸this;exact nomatch this
 have ho:(s'.heap.push {cls:=.type "list",data:=.seq vs.toArray}).get? s'.heap.objs.size=some (aO vs 0):=zq _ rfl;refine zf (zT (wpAny_call_entry slot_list_sort ⟨_,ho,rfl⟩ entry_list_sort
  (JL (L:=L) (λb o e=>zj _ (g.sub _ _ (hL _ _ e))) JP ho d hs (lz.symm▸hz) λh' c fR kb e dv=>?_) (args_list_sort _)))
 exact⟨_,rfl,zl ⟨_,rfl,h _ _ fR c ⟨λb o e=>kb b o (by rintro rfl;replace e:=hn▸e;exact nomatch e) (zj _ (g.sub _ _ e)),g.os,g.gens⟩ e hn dv⟩⟩
theorem rA(hL:Sub L s.heap.get?){n:Nat}{l:List D}(ha:s.heap.get? a=some (aO vs n))(hd:aU L l vs)(hs:sortable l=true)(hz:l.length<64)
  (h:∀s' c fR k,ae s s'->s'.heap.get? c=some (aO fR k)->s.heap.get? c=none->aU L (aT l) fR->Q (.ref c) s'):zx (zv prog w) A (call (.builtin "sorted") [.ref a]) Q E s:=by
 refine kF hL hs hz (λR r=>collect_list ⟨_,ha,rfl,_,rfl⟩ (r vs _ _ ⟨λb o e=>?_,rfl,rfl⟩ (.refl _) hd) (gR hd.length (bc (Zz (ZA hz (by decide)))))) h;exact(ZG _ _ _ _ (zU (zZ e))).trans (zj _ e)
theorem qi:∀{l:List D} {acc:List zo},acc.length=l.length->(∀(i:Nat) v,acc[i]? =some v->∃p,l[i]? =some p/\DR L p v)->aU L l acc
 |[],[],_,_=>.nil
 |[],_::_,e,_=>by cases e
 |_::_,[],e,_=>by cases e
 |p::r,v::t,e,h=>by
  refine ze (h 0 v rfl) λp' iV=>?_;obtain rfl:=zh iV.1;exact .cons iV.2 (qi (Yw e) λi u hu=>h (i+1) u hu)
theorem mV(hh:A.handled=none)(hL:Sub L s.heap.get?){es:Array yL}{l:List D}(hS:(a==sysModules)=false)(ha:gW s.heap a es ep)(hz:l.length<64)(hs:sortable l=true)
  (he:es.size=l.length) (hk:∀(i:Nat) e,es[i]? =some e->∃p,l[i]? =some p/\DR L p e.key)
  (h:∀s' c fR k,ae s s'->s'.heap.get? c=some (aO fR k)->s.heap.get? c=none->aU L (aT l) fR->Q (.ref c) s'):zx (zv prog w) A (call (.builtin "sorted") [.ref a]) Q E s:=by
 refine kF hL hs hz (λR r=>kdu_collect (JO hS) hh ha (gR he (bc (Zz (ZA hz (by decide))))) λh' tk acc kb it=>r _ _ _ ⟨kb,rfl,rfl⟩ (.refl _) ?_) h;refine qi (gR yn (gR it.1 (gR he rfl))) λi v hv=>?_;rw[ZX] at hv;refine ze (it.2 i v hv) λe rB=>(zg (λe1 kh=>?_) rB);refine gR kh ?_;exact hk i e e1
theorem oY(hh:A.handled=none)(hL:Sub L s.heap.get?)(hS:(a==sysModules)=false)(ha:s.heap.DictOf (zR prog w) a ps)(hz:ps.length<64)(ho:∀p∈ps,Zh p.1=true)(hs:sortable (ps.map λp=>.str p.1)=true)
  (h:∀s' c fR k,ae s s'->s'.heap.get? c=some (aO fR k)->s.heap.get? c=none->aU L (aT (ps.map λp=>.str p.1)) fR->Q (.ref c) s'):zx (zv prog w) A (call (.builtin "sorted") [.ref a]) Q E s:=by
 refine ze ha λo qz4=>(ze qz4 λes Ms=>(ze Ms λep xX=>(zg (λh1 JK=>?_) xX)));refine zg (λh2 j4=>?_) JK;refine zg (λh3 oZ=>?_) j4;refine zg (λ_ Fd=>?_) oZ;refine zg (λh5 _=>?_) Fd;have hl:es.size=ps.length:=by refine gL h5.length ?_;simp
 refine mV hh hL hS ⟨o,h1,h2,h3⟩ (by simpa using hz) hs (by simpa using hl) (λi e he=>?_) h
 ·have hi:i<ps.length:=by exact hl▸(yo.mp he).1
  have e1:ps[i]? =some (ps[i].1,ps[i].2):=zB hi;refine⟨.str ps[i].1,by refine gR Zd (gR e1 ?_);rfl,ho _ (ads hi),?_⟩;exact adP (h5.get? (by refine gR ZX ?_;exact he) e1).1
theorem mW(hh:A.handled=none)(hL:Sub L s.heap.get?){xs:List (List aA×zJ×zo)}(hS:(a==sysModules)=false)(ha:s.heap.DictOfH (tupleKind (aE)) a xs)(hz:xs.length<64)
  (hd:aU L (xs.map λx=>.tuple (x.1.map aV)) (xs.map λx=>.ref x.2.1)) (hs:sortable (xs.map λx=>.tuple (x.1.map aV))=true)
  (h:∀s' c fR k,ae s s'->s'.heap.get? c=some (aO fR k)->s.heap.get? c=none->aU L (aT (xs.map λx=>.tuple (x.1.map aV))) fR->Q (.ref c) s'):zx (zv prog w) A (call (.builtin "sorted") [.ref a]) Q E s:=by
 refine ze ha λo ry=>(ze ry λes hX=>(ze hX λep o8=>(zg (λh1 kj=>?_) o8)));refine zg (λh2 rD=>?_) kj;refine zg (λh3 OR=>?_) rD;refine zg (λh4 _=>?_) OR;refine mV hh hL hS ⟨o,h1,h2,h3⟩ (by simpa using hz) hs (by simpa using size_of_entries h4) (λi e he=>?_) h;rw[entry_at h4] at he;refine ze (Zk.mp he) λx v5=>(zg (λhx km=>?_) v5);refine gL km ?_;exact hd.Ja (by refine gR Zd (gR hx ?_);rfl)
theorem x7:∀{l:List D} {vs:List zo} {ns:List Int},aU L l vs->l.mapM intD=some ns->∃xs:List (Int×Tok),vs=xs.map (λp=>.int p.1 p.2)/\xs.map (·.1)=ns
 |[],_,_,hd,h=>by
  obtain rfl:=zh h;exact gR hd ⟨[],rfl,rfl⟩
 |p::r,_,_,⟨v,t,e,d,ds⟩,h=>by
  refine gR e ?_;rw[List.mapM_cons] at h;obtain⟨n,hn,h⟩:=Yg.mp h;refine ze (Yg.mp h) λns ub=>?_;obtain rfl:=zh ub.2;obtain⟨xs,OS,i9⟩:=x7 ds ub.1;refine gL i9 (gR OS ?_);cases p with
  |int i=>
   injection hn with hn
   refine gL hn (ze d λk uc=>(gR uc ?_));exact⟨(i,k)::xs,rfl,rfl⟩
  |_=>cases hn
theorem fold_min:∀(r:List Int) x,(r.foldl (λm y=>if y<m then y else m) x∈x::r)/\∀y∈x::r,r.foldl (λm y=>if y<m then y else m) x<=y
 |[],x=>⟨.head _,λy hy=>gR (zX.mp hy ..) (Int.le_refl _)⟩
 |z::r,x=>by
  have e:(z::r).foldl (λm y=>if y<m then y else m) x=r.foldl (λm y=>if y<m then y else m) (if z<x then z else x):=rfl;have⟨a,b⟩:=fold_min r (if z<x then z else x);refine gR e ?_;have c:=b _ (.head _);refine⟨?_,λy hy=>?_⟩
  ·refine YA (zK.mp a) (λe=>?_) λe=>?_
   ·refine gR e ?_;split
    ·exact .tail _ (.head _)
    ·exact .head _
   ·exact .tail _ (.tail _ e)
  ·have h1:(if z<x then z else x)<=x:=if c:z<x then(if_pos c).symm▸adv c else(if_neg c).symm▸Int.le_refl x
   have h2:(if z<x then z else x)<=z:=if c:z<x then(if_pos c).symm▸Int.le_refl z else(if_neg c).symm▸Y5.mp c
   rcases zK.mp hy with rfl |hy
   ·exact aeb c h1
   ·rcases zK.mp hy with rfl |hy
    ·exact aeb c h2
    ·exact b _ (.tail _ hy)
theorem x8{l:List Int}{m:Int}(hm:BH l=some m)(num:Nat->Int)(hn:∀i,i<l.length->l[i]? =some (num i)):num (argBest (λi j=>decide (num i<num j)) (l.length - 1))=m:=by
 refine zg (λa b=>?_) (argBest_lt num (l.length - 1));cases l with
 |nil=>cases hm
 |cons x r=>
  obtain rfl:=zh hm;refine zg (λc d=>?_) (fold_min r x);have hp:0<(x::r).length:=Zu _;refine ze (y3 c) λj hj=>?_;have hjl:=(zr.mp hj).1;exact Int.le_antisymm ((zh (hj.symm.trans (hn j hjl)))▸(b j (Zg hjl))) (d _ (zy (hn (argBest (λi j=>decide (num i<num j)) ((x::r).length - 1)) (yk a))))
theorem B7(hh:A.handled=none){n:Nat}{l:List D}{ns:List Int}{m:Int}(ha:s.heap.get? a=some (aO vs n))(hd:aU L l vs)(hi:l.mapM intD=some ns)(hm:BH ns=some m)
  (h:∀s' k,ae s s'->Q (.int m k) s'):zx (zv prog w) A (call (.builtin "min") [.ref a]) Q E s:=by
 refine ze (x7 hd hi) λxs lN=>?_;obtain⟨rfl,rfl⟩:=lN;have hx:0<xs.length:=by cases xs with |nil=>cases hm |cons _ _=>exact Zu _
 refine min_intList (xs:=xs.toArray) hh ⟨_,ha,rfl,n,by simp[intItems]⟩ hx λv h' tk hv hk=>(ze (intItems_at hv) λt lL=>(gR lL ?_));have e:=x8 hm (numAt xs.toArray) λi hi=>by
  have hi':i<xs.length:=by simpa using hi
  simp[numAt,Zd,zB hi']
 rw[show xs.toArray.size - 1=(xs.map (·.1)).length - 1 by simp] at*;exact gR e (h _ t ⟨hk,rfl,rfl⟩)
end
theorem qj:∀n:Fin 100,Zh (digits n.val)=true/\(digits n.val).length<=2:=by decide+kernel
section
variable{call:Call}
theorem f6(ok:bF fx)(I:aS γ g s){x:Str}{p:Pos}{mg:Str->Option zo}(hm:T.top.Ns mainGlobals mg)(hv:mg x=some v)(hk:fx.env.kindOf x=some .globalImplicit)(hd:(x==("__debug__"))=false)
   (q:Q v s):zx (zv prog w) A (YJ (.Name x p) fx.env) Q E s:=by
 exact wpAny_Name (PySem.W.ks_loadName_global ok.kind hk (loadGlobal_global (ok.globals▸hm.keeps λa o e=>(I.top a o e).2) hv q)) hd
theorem cK(ok:bF fx)(I:aS γ g s){x:Str}{p:Pos}(hx:(x,v)∈dc)(hk:fx.env.kindOf x=some .globalImplicit)(hd:(x==("__debug__"))=false)
   (q:Q v s):zx (zv prog w) A (YJ (.Name x p) fx.env) Q E s:=by
 obtain⟨mg,mb,z⟩:=tok.glob;exact wpAny_Name (PySem.W.ks_loadName_global ok.kind hk (loadGlobal_builtin (ok.globals▸z.1.keeps λa o e=>(I.top a o e).2) (z.3 _ hx).1 (ok.builtins▸z.2.keeps λa o e=>(I.top a o e).2) (z.3 _ hx).2 q)) hd
theorem OT(ok:bF fx){p:Pos}(hk:fx.env.kindOf (T.tb.nm x)=some .globalImplicit)(hd:(T.tb.nm x==("__debug__"))=false):ai A call fx (.gk x p):=λc r I h=>h.opt λq d h=>by
 obtain⟨mg,mb,z⟩:=tok.glob;refine ze (z.4 x q d) λv ud=>(zg (λe D=>?_) ud);exact f6 ok I.g z.1 e hk hd (QE.data I (.refl _) (.refl _) h.1.symm (D.sub λb o e=>aB (I.g.top b o e).1 (I.g.top b o e).2))
theorem f7 p:∀{es:cz},fY es->(backTo p (starEach (cn T.tb.nm es) fx.env)).any (·.1)=false
 |.nil,_=>rfl
 |.cons a r,h=>by
  refine gR (aj h.1 ..) (gR (ay ..) ?_);refine gR List.any_cons (gR (f7 p h.2 ..) ?_);rfl
theorem de p {f:zo} {es:cz} (h:fY es) {Q:Args->zt->Prop}
  (k:zx (zv prog w) A (spliced (backTo p (starEach (cn T.tb.nm es) fx.env))) (λvs s'=>Q ⟨vs,[]⟩ s') E s):zx (zv prog w) A (evalArgs f true (backTo p (starEach (cn T.tb.nm es) fx.env)) []) Q E s:=by
 cases es with
 |nil=>
  refine(?_:zx _ _ (spliced [] >>=_) Q E s);refine zf (zI k (λvs s' h'=>?_) λ_ _ x=>x);refine zf (zl ?_);exact zT (zf (zl (zf (zl (zl h')))))
 |cons a r=>
  revert k
  refine gR (aj h.1 ..) (gR (ay ..) ?_);exact evalArgs_plain
theorem bC{x:Str}{np p:Pos}{es:List Ye}{f:zo}(hf:∀Q:zo->zt->Prop,Q f s->zx (zv prog w) A (YJ (.Name x np) fx.env) Q E s)
  (h:zx (zv prog w) A (callWith p f [] (backTo p (starEach es fx.env)) []) Q E s):zx (zv prog w) A (YJ (.Call (.Name x np) es [] p) fx.env) Q E s:=
 wpAny_Call_ofName (hf _ h)
theorem My b:(mu b,fZ b)∈dc:=by
 cases b
 ·exact .head _
 ·exact .tail _ (.head _)
 ·exact .tail _ (.tail _ (.head _))
 ·exact .tail _ (.tail _ (.tail _ (.head _)))
 ·exact .tail _ (.tail _ (.tail _ (.tail _ (.head _))))
 ·exact .tail _ (.tail _ (.tail _ (.tail _ (.tail _ (.head _)))))
 ·exact .tail _ (.tail _ (.tail _ (.tail _ (.tail _ (.tail _ (.head _))))))
 ·exact .tail _ (.tail _ (.tail _ (.tail _ (.tail _ (.tail _ (.tail _ (.head _)))))))
theorem lx{b:BI}{p:Pos}{first:List zo}{args:List (Bool×Sem zo)}(hp:args.any (·.1)=false)
  (h:zx (zv prog w) A (evalArgs (fZ b) true args []) (λa az=>zx (zv prog w) A (ZP (fZ b) (first++a.pos) a.kw) Q E az) E s):zx (zv prog w) A (callWith p (fZ b) first args []) Q E s:=by
 have e:(∃id,fZ b=.builtin id)\/∃T,fZ b=.type T:=by cases b <;> first |exact .inl ⟨_,rfl⟩ |exact .inr ⟨_,rfl⟩
 rcases e with⟨id,e⟩ |⟨T,e⟩
 ·rw[e] at h⊢;exact callWith_builtin hp h
 ·rw[e] at h⊢;exact yI hp h
theorem iL.length:∀{bT:List (D×D)} {ps:List (Str×zo)},iL L bT ps->ps.length=bT.length
 |[],_,h=>by obtain rfl:_=_:=h;rfl
 |(_,_)::_,_,⟨_,_,_,e,_,_,b⟩=>by refine gR e ?_;simp[iL.length b]
theorem iU.keys{len:Nat}:∀{es:List (D×AV)} {ps:List (Str×zo)},iU γ len h es ps->es.map (·.1)=ps.map λp=>Yo p.1
 |[],_,k=>by obtain rfl:_=_:=k;rfl
 |(_,_)::_,_,⟨s,v,t,e,q,_,_,b⟩=>by refine gR e (gR q ?_);exact gR Zo (gR (iU.keys b ..) rfl)
theorem jo.keys{len:Nat}:∀{es:List (D×AV)} {xs:List (List aA×zJ×zo)},jo γ len h es xs->es.map (·.1)=xs.map λx=>yq (x.1.map aV)
 |[],_,k=>by obtain rfl:_=_:=k;rfl
 |(_,_)::_,_,⟨ks,a,v,t,e,q,_,_,b⟩=>by refine gR e (gR q ?_);exact gR Zo (gR (jo.keys b ..) rfl)
theorem ue{l:List D}(h:vN c (.list l) v l):mi λa vs n=>aG (v=.ref a) (aU (lk c.γ.R c.s.heap) l vs) (c.s.heap.get? a=some (aO vs n)):=by obtain⟨a,vs,n,e,d,o⟩:=h;exact⟨a,vs,n,e,d,(o.resolve_left λq=>nomatch q.1).2⟩
def ic(L:cT)(h:yi)(a:zJ):D->Prop
 |.list l=>c8 λvs k=>h.get? a=some (aO vs k)/\aU L l vs
 |.dict bT=>∃ps,h.DictOf (zR prog w) a ps/\iL L bT ps
 |_=>False
theorem x9(I:Inv fx c)(g:ae c.s s'){ad:zJ}(hn:c.s.heap.get? ad=none)(o:ic (lk c.γ.R c.s.heap) s'.heap ad r):DR (lk c.γ.R s'.heap) r (.ref ad):=by
 cases r with
 |list l=>obtain⟨vs,k,h,d⟩:=o;exact⟨ad,vs,k,rfl,aB (I.g.bU hn) h,d.sub (bR g)⟩
 |dict bT=>refine ze o λps mQ=>(zg (λmN d=>?_) mQ);refine ze mN λob tD=>(ze tD λes Fe=>(ze Fe λep UG=>(zg (λho r=>?_) UG)));exact⟨ad,ps,rfl,I.g.tE hn,⟨ob,es,ep,aB (I.g.bU hn) ho,r⟩,iL.sub (bR g) d⟩
 |_=>exact o.elim
noncomputable def JQ:BI->Bool
 |.list |.dict |.sorted=>true
 |_=>false
section
variable{a:AV}{p:D}
theorem rE(I:Inv fx c){b:BI}(hb:JQ b=true)(ha:du fx c a v)(ep:mm c.e c.g a=some p)(h:(Rx b p).is r)
  (q:∀ad s',ae c.s s'->c.s.heap.get? ad=none->ic (lk c.γ.R c.s.heap) s'.heap ad r->Q (.ref ad) s'):zx (zv prog w) A (ZP (fZ b) [v]) Q E c.s:=by
 cases b with
 |list=>
  refine O.cV h λl el h=>?_;obtain⟨ad,vs,n,S⟩:=cu I ha ep el;refine gR S.1 ?_;cases h.2;have hz:=S.2.length▸of_decide_eq_true h.1;exact S.3.elim (λo=>Eh (.inr rfl) (aw o.2).2 rfl rfl hz λs' k g h=>q _ s' g (ao _) ⟨vs,k,h,S.2⟩) λo=>Eh (.inl rfl) o.2 rfl rfl hz λs' k g h=>q _ s' g (ao _) ⟨vs,k,h,S.2⟩
 |dict=>
  refine O.cV h λbT e h=>?_;cases pU e;obtain⟨ad,ps,S⟩:=tL I ha ep;refine gR S.1 ?_;cases h.2;exact Ot S.3 S.2 (S.4.length▸of_decide_eq_true (aa h.1).2) λs' g h=>q _ s' g (ao _) ⟨ps,h,S.4⟩
 |sorted=>
  refine O.cV h λl e h=>?_;cases eT e;obtain⟨ad,vs,n,S⟩:=ue (cu I ha ep rfl);refine gR S.1 ?_;cases h.2;exact rA (cM _ _) S.3 S.2 (aa h.1).1 (of_decide_eq_true (aa h.1).2) λs' cc fR k g h w d=>q cc s' g w ⟨fR,k,h,d⟩
 |_=>exact absurd hb zi
theorem JR(I:Inv fx c)(hu:A.units+64<yA)(hh:A.handled=none){b:BI}(ha:du fx c a v)(ep:mm c.e c.g a=some p)(h:(Rx b p).is r)
  (q:∀z s',ae c.s s'->DR (lk c.γ.R s'.heap) r z->Q z s'):zx (zv prog w) A (ZP (fZ b) [v]) Q E c.s:=by
 cases b with
 |len=>
  refine O.cV h λl el h=>?_;obtain⟨ad,vs,n,S⟩:=cu I ha ep el;cases S.1;cases h.2;have hz:=S.2.length▸of_decide_eq_true h.1;have q:∀s' k,ae c.s s'->Q (.int (vs.length) k) s':=λs' k g=>q _ s' g ⟨k,by exact gR S.2.length rfl⟩;exact S.3.elim (λo=>BS (aw o.2).2 hz λs' k g _=>q s' k g) λo=>BR o.2 hz λs' k g _=>q s' k g
 |tuple=>
  refine O.cV h λl el h=>?_;obtain⟨ad,vs,n,S⟩:=cu I ha ep el;cases S.1;cases h.2;exact S.3.elim (λo=>tF (aw o.2).2 (q _ _ (.refl _) ⟨ad,vs,n,rfl,o.2,S.2⟩)) λo=>
   tG o.2 (S.2.length▸of_decide_eq_true h.1) λs' cc g h w=>q _ s' g ⟨cc,vs,0,rfl,aB (I.g.bU w) h,S.2.sub (bR g)⟩
 |int=>exact h.elim
 |str=>
  refine O.cV h λi e h=>?_;cases dR e;obtain⟨t,qT⟩:=fL I ha ep;refine gR qT ?_;refine zg (λh0 h1=>?_) (aa h.1);exact Tz (of_decide_eq_true h0) (of_decide_eq_true h1) λs' k g _=>q _ s' g (h.2▸⟨(qj ⟨i.toNat,(aec (of_decide_eq_true h0)).mpr (Int.lt_trans (of_decide_eq_true h1) (by decide))⟩).1,_,rfl⟩)
 |min=>
  refine O.cV h λl e h=>O.cV h λns en h=>O.cV h λm em h'=>?_;cases eT e;obtain⟨ad,vs,n,S⟩:=ue (cu I ha ep rfl);exact gR S.1 (B7 hh S.3 S.2 en em λs' k g=>q _ s' g (h'▸⟨k,rfl⟩))
 |_=>exact rE I rfl ha ep h λad s' g hn o=>q _ s' g (x9 I g hn o)
end
theorem Ff:∀{es:List (D×AV)} {xs:List (List aA×zJ×zo)},jo c.γ c.g.length c.s.heap es xs->
  aU (lk c.γ.R c.s.heap) (xs.map λx=>.tuple (x.1.map aV)) (xs.map λx=>.ref x.2.1)
 |[],_,h=>by obtain rfl:_=_:=h;exact rfl
 |(_,_)::_,_,⟨ks,a,v,t,e,q,r,b,d⟩=>gR e (.cons r (Ff d))
theorem Mz:∀{es:List (D×AV)} {ps:List (Str×zo)},iU c.γ c.g.length c.s.heap es ps->∀p∈ps,Zh p.1=true
 |[],_,h=>by obtain rfl:_=_:=h;intro p hp;cases hp
 |(_,_)::_,_,⟨s,v,t,e,q,z,_,d⟩=>by
  refine gR e ?_;intro p hp;rcases zK.mp hp with rfl |hp
  ·exact z
  ·exact Mz d p hp
theorem Aa{es:List (D×AV)}{n:Nat}(hz:decide (es.length<64)=true)(e:n=(es.map (·.1)).length):n<64:=by refine gR e (gR (zA ..) ?_);exact of_decide_eq_true hz
section
variable{a:AV}
theorem Fg(I:Inv fx c)(hh:A.handled=none){n:Nat}(ha:du fx c (.o n) v)(h:((O.of c.g[n]?).bind Mf).is r)
  (q:∀ad s',ae c.s s'->c.s.heap.get? ad=none->ic (lk c.γ.R c.s.heap) s'.heap ad r->Q (.ref ad) s'):zx (zv prog w) A (ZP (fZ .sorted) [v]) Q E c.s:=O.cV h λo hs h=>by
 cases o with
 |list l=>exact rE I rfl ha (show(c.g[n]?.bind NS)=_ by refine gR hs ?_;rfl) h q
 |inst _ _=>exact h.elim
 |dict es=>
  obtain⟨h0,h1⟩:=aa h.1;have hS:=eU I hs;refine gR ha.1 ?_;cases h.2;obtain⟨_,⟨ps,d,k⟩ |⟨xs,d,k⟩⟩:=I.g.objs n _ hs
  ·have ek:=k.keys
   have hl:=Aa h1 (gR ek (gR (zA ..) rfl));rw[ek] at q h0;exact oY hh (cM _ _) hS d hl (Mz k) h0 λs' cc fR kk g h w d=>q cc s' g w ⟨fR,kk,h,d⟩
  ·have ek:=k.keys
   have hl:=Aa h1 (gR ek (gR (zA ..) rfl));rw[ek] at q h0;exact mW hh (cM _ _) hS d hl (Ff k) h0 λs' cc fR kk g h w d=>q cc s' g w ⟨fR,kk,h,d⟩
theorem Ab(I:Inv fx c)(hh:A.handled=none){b:BI}(hb:JQ b=true)(ha:du fx c a v)(h:(cbA c.e c.g b a).is r)
  (q:∀ad s',ae c.s s'->c.s.heap.get? ad=none->ic (lk c.γ.R c.s.heap) s'.heap ad r->Q (.ref ad) s'):zx (zv prog w) A (ZP (fZ b) [v]) Q E c.s:=by
 have UH:((O.of (mm c.e c.g a)).bind (Rx b)).is r->zx (zv prog w) A (ZP (fZ b) [v]) Q E c.s:=λh=>O.cV h λp ep h=>rE I hb ha ep h q;cases b with
 |sorted=>
  cases a with
  |o n=>exact Fg I hh ha h q
  |_=>exact UH h
 |list=>exact UH h
 |dict=>exact UH h
 |_=>exact absurd hb zi
theorem JS(I:Inv fx c)(hu:A.units+64<yA)(hh:A.handled=none){b:BI}(ha:du fx c a v)(h:(cbA c.e c.g b a).is r)
  (q:∀z s',ae c.s s'->DR (lk c.γ.R s'.heap) r z->Q z s'):zx (zv prog w) A (ZP (fZ b) [v]) Q E c.s:=by
 have UH:((O.of (mm c.e c.g a)).bind (Rx b)).is r->zx (zv prog w) A (ZP (fZ b) [v]) Q E c.s:=λh=>O.cV h λp ep h=>JR I hu hh ha ep h q;cases b with
 |sorted=>exact Ab I hh rfl ha h λad s' g hn o=>q _ s' g (x9 I g hn o)
 |_=>exact UH h
end
theorem OU(ok:bF fx)(hu:A.units+64<yA)(hh:A.handled=none){b:BI}{a:CE}{p:Pos}(hk:fx.env.kindOf (mu b)=some .globalImplicit)(hs:notStar (aH T.tb.nm a)=true)
  (ha:ai A call fx a):ai A call fx (.cb b a pf p):=λc r I h=>by
 refine bC (λQ q=>cK ok I.g (My b) hk (by cases b <;> decide) q) (gR (aj hs ..) (gR (ay ..) ?_));exact lx rfl (evalArgs_plain (spliced_cons (ha.d7 I (.refl _) h λa1 c1 v1 h I1 K1 V1 _=>spliced_nil (h.fH λq d h=>JS I1 hu hh V1 d λz s' g D=>QE.data I1 K1 g h.1.symm D))))
end
section
variable{call:Call}
structure cX(a:zJ)(s s':zt):Prop where
 at_:∀b,b≠a->s'.heap.get? b=s.heap.get? b
 os:s'.os=s.os
 gens:s'.gens=s.gens
theorem cX.kH{f:Obj->Obj}{k:Nat}:cX a s {s with heap:=s.heap.update a f,toks:=k}:=⟨λ_ hb=>ZG _ _ _ _ hb,rfl,rfl⟩
theorem cX.cU{k:Nat}(h:ZN a s.heap h'):cX a s {s with heap:=h',toks:=k}:=⟨λb hb=>h.2 b hb,rfl,rfl⟩
theorem cX.sub{R:zJ->Role}{r:Role}(k:cX a s s')(hr:R a=r)(hn:(r.Rz==Role.free.Rz)=false):Sub (lk R s.heap) (lk R s'.heap):=λb o hb=>
 aB (aw hb).1 ((k.at_ b λe=>bA hr hn (e▸(aw hb).1)).trans (aw hb).2)
theorem ly{m:Str->Option zo}(k:∀o,h.get? a=some o->h'.get? a=some o)(x:h.Ns a m):h'.Ns a m:=by refine ze x λo mX=>(ze mX λes uc=>(ze uc λep E6=>(zg (λho r=>?_) E6)));exact⟨o,es,ep,k _ ho,r⟩
theorem iD{v:Option zo}(k:∀o,h.get? a=some o->h'.get? a=some o)(x:h.IsCell a v):h'.IsCell a v:=by refine ze x λo mY=>(zg (λho r=>?_) mY);exact⟨o,k _ ho,r⟩
theorem rF{l:List D}(UI:∀l,sl≠.ro l)(h:(e.set i sl)[j]? =some (.ro l)):e[j]? =some (.ro l):=by
 by_cases q:j=i
 ·subst q
  have hj:j<e.length:=by have:=(zr.mp h).1;simpa using this
  rw[ZQ hj] at h;obtain rfl:=zh h;exact absurd rfl (UI l)
 ·rwa [Z5 (Z8 q)] at h
theorem Inv.Fh(I:Inv fx c)(UI:∀l,sl≠.ro l)(OV:∃aQ,c.e[i]? =some aQ/\aQ.Jb=true)(hr:c.γ.R (c.γ.own i)=.own i)(k:cX (c.γ.own i) c.s s')(ha:(s'.heap.get? (c.γ.own i)).isSome)
  (hs:∀x o,(i,x,o)∈fx.lay->∀ov,(∃aQ,c.e[i]? =some aQ/\aJ c.γ c.g.length c.s.heap ov i aQ)->aJ c.γ c.g.length s'.heap ov i sl):
  Inv fx {c with e:=bh c.e i sl,s:=s'}/\Ext c {c with e:=bh c.e i sl,s:=s'}:=by
 have keep:∀b o,c.γ.R b≠.own i->c.s.heap.get? b=some o->s'.heap.get? b=some o:=λb o h e=>(k.at_ b ((λb h e=>h (gR e hr)) b h)).trans e;have hf:∀a o,c.γ.R a=.free->c.s.heap.get? a=some o->c.γ.R a=.free/\s'.heap.get? a=some o:=λa o r e=>⟨r,keep a o (bA r rfl) e⟩;have slots:∀ov j fc,(c8 λx o=>(j,x,o)∈fx.lay)->(∀aQ,c.e[j]? =some aQ->aJ c.γ c.g.length c.s.heap ov j aQ)->(bh c.e i sl)[j]? =some fc->aJ c.γ c.g.length s'.heap ov j fc:=by
  rintro ov j fc ⟨x,o,hx⟩ h e;by_cases q:j=i
  ·subst q
   unfold bh at e;have hj:j<c.e.length:=by have:=(zr.mp e).1;simpa using this
   rw[ZQ hj] at e;obtain rfl:=zh e;exact hs x o hx ov ⟨_,zB hj,h _ (zB hj)⟩
  ·unfold bh at e
   rw[Z5 (Z8 q)] at e;exact aJ.au (γ:=c.γ) (γ':=c.γ) hf (zm _) (λ_ _=>rfl)
    (λa o h e=>⟨rfl,keep a o (by rcases h with h |h <;> refine gR h ?_ <;> simp[q]) e⟩) (λ_=>rfl) (h fc e)
 refine⟨⟨⟨λn o e=>?_,λa r=>?_,λa o e=>?_,k.os.trans I.g.os,k.gens.trans I.g.gens⟩,⟨?_,λj x a hx=>?_,I.q6 λa o r e=>⟨r,o,keep a o (bA r rfl) e,.refl o⟩⟩⟩,⟨hf,λa o r e=>⟨r,keep a o (bA r rfl) e⟩,zm _,λ_ _=>rfl,λa o r e=>⟨r,o,keep a o (bA r rfl) e,.refl o⟩⟩,rfl,λj l h=>?_,λa o r e=>⟨r,o,keep a o (bA r rfl) e,.refl o⟩,λh=>?_⟩
 ·exact dW.au (γ:=c.γ) (γ':=c.γ) hf (zm _) (zr.mp e).1 (λ_ _=>rfl) (λa o j r e=>⟨r,keep a o (bA r rfl) e⟩) (I.g.objs n o e)
 ·by_cases q:a=c.γ.own i
  ·exact gR q ha
  ·exact gR (k.at_ a q ..) (I.g.live a r)
 ·obtain⟨r,e'⟩:=I.g.top a o e
  exact hf a o r e'
 ·obtain⟨m,a,b,f⟩:=I.f.ns
  exact⟨m,ly (λo e=>keep _ o (bA b rfl) e) a,b,λj x hx fc e=>slots _ j fc ⟨x,_,hx⟩ (f j x hx) e⟩
 ·refine ze (I.f.cells j x a hx) λov v7=>?_;obtain⟨b,r,f⟩:=v7
  exact⟨ov,iD (λo e=>keep _ o (by rcases r.1 with r |r <;> refine gR r ?_ <;> simp) e) b,r,λfc e=>slots _ j fc ⟨x,_,hx⟩ f e⟩
 ·exact rF UI h
 ·refine ze OV λaQ oZ=>(zg (λh0 h1=>?_) oZ)
  rw[h i aQ h0] at h1;exact nomatch h1
theorem aS.jd(I:aS γ g s){n:Nat}{b:Bool}(hr:γ.R a=.g n b)(k:cX a s s')(ha:(s'.heap.get? a).isSome){o:bW}
  (ho:dW γ g.length s'.heap n o):aS γ (g.set n o) s'/\ak γ g.length s.heap γ (g.set n o).length s'.heap:=by
 have keep:∀x o,(∀q,γ.R x≠.g n q)->s.heap.get? x=some o->s'.heap.get? x=some o:=λx o h e=>(k.at_ x ((λx h e=>h b (gR e hr)) x h)).trans e;have hf:∀x o,γ.R x=.free->s.heap.get? x=some o->γ.R x=.free/\s'.heap.get? x=some o:=λx o r e=>⟨r,keep x o (λ_=>bA r rfl) e⟩;refine⟨⟨λm q e=>?_,λx r=>?_,λx q e=>?_,k.os.trans I.os,k.gens.trans I.gens⟩,⟨hf,λx q r e=>⟨r,keep x q (λ_=>bA r rfl) e⟩,by refine gR YS ?_;exact zm _,λ_ _=>rfl,λx q r e=>⟨r,q,keep x q (λ_=>bA r rfl) e,.refl q⟩⟩⟩
 ·refine gR YS ?_
  by_cases q':m=n
  ·subst q'
   have hm:m<g.length:=by have:=(zr.mp e).1;simpa using this
   rw[ZQ hm] at e;obtain rfl:=zh e;exact ho
  ·rw[Z5 (Z8 q')] at e
   exact dW.au (γ:=γ) (γ':=γ) hf (zm _) (zr.mp e).1 (λ_ _=>rfl) (λx o j r e=>⟨r,keep x o (by refine gR r ?_;simp[q']) e⟩) (I.objs m q e)
 ·by_cases q:x=a
  ·exact gR q ha
  ·exact gR (k.at_ x q ..) (I.live x r)
 ·refine zg (λr e'=>?_) (I.top x q e)
  exact hf x q r e'
theorem vH.ext{n:Nat}(f:vH fx γ e n h)(hl:n<=n')(hk:∀a o,(γ.R a=.free\/γ.R a=.aM\/γ.R a=.sys\/γ.R a=.fr\/∃i,γ.R a=.own i)->h.get? a=some o->h'.get? a=some o):vH fx γ e n' h':=by
 have sl:∀ov i sl,aJ γ n h ov i sl->aJ γ n' h' ov i sl:=λov i sl x=>
  aJ.au (γ:=γ) (γ':=γ) (λa o r e=>⟨r,hk a o (.inl r) e⟩) hl (λ_ _=>rfl) (λa o r e=>⟨rfl,hk a o (by refine YA r (λr=>?_) λr=>?_;exact .inr (.inr (.inr (.inr ⟨_,r⟩)));exact .inr (.inl r)) e⟩) (λ_=>rfl) x
 refine⟨?_,λj x a hx=>?_,λa ha=>let⟨r,m,n⟩:=f.out a ha;⟨r,m,ly (λo e=>hk a o (.inr (.inr (.inr (.inl r)))) e) n⟩⟩
 ·obtain⟨m,a,b,q⟩:=f.ns
  exact⟨m,ly (λo e=>hk _ o (.inr (.inr (.inl b))) e) a,b,λi x hx s' e=>sl _ i s' (q i x hx s' e)⟩
 ·refine ze (f.cells j x a hx) λov kC=>?_;obtain⟨b,r,q⟩:=kC
  exact⟨ov,iD (λo e=>hk _ o (by rcases r.1 with r |r;exact .inr (.inr (.inl r));exact .inr (.inr (.inr (.inl r)))) e) b,r,λs' e=>sl _ j s' (q s' e)⟩
theorem Inv.jd(I:Inv fx c){n:Nat}{b:Bool}(hr:c.γ.R a=.g n b)(k:cX a c.s s')(ha:(s'.heap.get? a).isSome){o:bW}
  (ho:dW c.γ c.g.length s'.heap n o):Inv fx {c with g:=c.g.set n o,s:=s'}/\Ext c {c with g:=c.g.set n o,s:=s'}:=by
 refine zg (λx y=>?_) (I.g.jd hr k ha ho);exact⟨⟨x,I.f.ext y.len λz o r e=>(k.at_ z (by rintro rfl;rw[hr] at r;simp at r)).trans e⟩,y,rfl,λ_ _ h=>h,λz o r e=>⟨r,o,(k.at_ z (by rintro rfl;rw[hr] at r;simp at r)).trans e,.refl o⟩,λ_=>rfl⟩
end
section
variable{call:Call}
theorem mZ nm:∀es:cz,(cn nm es).length=es.len:=cz.ind rfl λ_ _ ih=>congrArg (·+1) ih
theorem m3 p:∀{es:cz},fY es->(backTo p (starEach (cn T.tb.nm es) fx.env)).all (λx=>!x.1)=true
 |.nil,_=>rfl
 |.cons a r,h=>by
  refine gR (aj h.1 ..) (gR (ay ..) ?_);refine gR Z9 (gR (m3 p h.2 ..) ?_);rfl
theorem qk{a:CE}(hb:d9 (aH T.tb.nm a)=true)(hs:fY es)(hl:es.len<29)(bk:(pa.endLine==p.line)=true)(ha:ai A call fx a)(I:Inv fx c){r:R β}{f:AV×Env×G->W β}
  (er:Rn call ((cC T.tb a c.e c.g).bind f) r)
  (k:∀a1 c' v,Rn call (f (a1,c'.e,c'.g)) r->Inv fx c'->Ext c c'->du fx c' a1 v->adf prog w A (XE c r) name v p (backTo p (starEach (cn T.tb.nm es) fx.env)) Q c'.s):
  zx (zv prog w) A (YJ (.Call (.Attribute (aH T.tb.nm a) name pa) (cn T.tb.nm es) [] p) fx.env) Q (XE c r) c.s:=by
 refine wpAny_Call_method_lateS (ft hb) ?_ bk (ha.d7 I (.refl _) er λa1 c1 v1 e1 I1 K1 V1 _=>k a1 c1 v1 e1 I1 K1 V1);refine gR (m3 p hs ..) (gR (mZ ..) ?_);exact decide_eq_true (ZK hl)
theorem jI{l:zJ}{items:List zo}{n:Nat}{id:String}{args:List (Bool×Sem zo)}(slot:PySem.Slot "list" name id)(ty:typeOf (.builtin id)=pure (.type "method_descriptor"))(hl:s.heap.get? l=some (aO items n))
  (h:zx (zv prog w) A (callWith p (.builtin id) [.ref l] args []) Q E s):adf prog w A E name (.ref l) p args Q s:=
 ⟨"list",id,PySem.F.plainAttrs_list,slot,ty,⟨_,hl,rfl⟩,λa e=>by cases e;exact⟨_,hl,rfl⟩,h⟩
theorem Ac{d:zJ}{id:String}{args:List (Bool×Sem zo)}(slot:PySem.Slot "dict" name id)(ty:typeOf (.builtin id)=pure (.type "method_descriptor"))(hm:s.heap.DictOf (zR prog w) d ps)
  (h:zx (zv prog w) A (callWith p (.builtin id) [.ref d] args []) Q E s):adf prog w A E name (.ref d) p args Q s:=by
 obtain⟨o,_,_,JT⟩:=id_ hm;exact⟨"dict",id,PySem.F.plainAttrs_dict,slot,ty,⟨_,JT.1,JT.2.1.1⟩,λa e=>by cases e;exact⟨_,JT.1,JT.2.1.2.1⟩,h⟩
where id_ {d:zJ} {ps:List (Str×zo)} (x:s.heap.DictOf (zR prog w) d ps):s.heap.DictOf (zR prog w) d ps:=x
theorem ie(I:Inv fx c)(V:du fx c (.w i) v){l:List D}(hs:c.e[i]? =some (.ol l)):
  v=.ref (c.γ.own i)/\c.γ.R (c.γ.own i)=.own i/\c8 λvs k=>c.s.heap.get? (c.γ.own i)=some (aO vs k)/\aU (lk c.γ.R c.s.heap) l vs:=by
 refine zg (λe UJ=>?_) V;obtain⟨x,o,hx⟩:=UJ;exact ze (slot_of I hx hs) λov ab9=>⟨e,ab9.1.2⟩
theorem je{vs:List zo}{n:Nat}{f:Array zo->Array zo}{out:List zo}(e:h.get? a=some (aO vs n))(hf:f vs.toArray=out.toArray):∃k,(h.update a (ym f)).get? a=some (aO out k):=
 ⟨_,by refine gR (Ze _ e rfl ..) ?_;show some (ym f (aO vs n))=_;unfold aO ym;simp only[hf] <;> rfl⟩
theorem lZ(I:Inv fx c)(K:Ext c₀ c)(eb:c.γ.own i=b){l:List D}(hs:c.e[i]? =some (.ol l))(hr:c.γ.R b=.own i){f:Array zo->Array zo}{vs out:List zo}{n k:Nat}(e:c.s.heap.get? b=some (aO vs n))(hf:f vs.toArray=out.toArray)
  (d:aU (lk c.γ.R c.s.heap) l' out) {a:AV}  (ha:∀c',Ext c c'->du fx c' a v) {r:R (AV×Env×G)} (er:r=.ok (a,bh c.e i (.ol l'),c.g)):
  QE fx c₀ r v {c.s with heap:=c.s.heap.update b (ym f),toks:=k}:=by
 subst eb;obtain⟨k',e'⟩:=je e hf;have sm:cX (c.γ.own i) c.s {c.s with heap:=c.s.heap.update (c.γ.own i) (ym f),toks:=k}:=.kH;obtain⟨I',K'⟩:=I.Fh (sl:=.ol l') (λ_=>by simp) ⟨_,hs,rfl⟩ hr sm (zp.mpr ⟨_,e'⟩) (λx o hx ov ⟨aQ,h0,h1⟩=>by
  cases zh (hs.symm.trans h0);exact⟨h1.1,hr,out,k',e',d.sub (sm.sub hr rfl)⟩)
 exact⟨a,_,er,rfl,I',K.trans K',ha _ K'⟩
theorem kI(I:Inv fx c)(K:Ext c1 c)(V:du fx c1 (.w i) v){l:List D}(hs:c.e[i]? =some (.ol l)):
  mi λb vs k=>eX (v=.ref b) (c.γ.own i=b) (c.γ.R b=.own i) (c.s.heap.get? b=some (aO vs k)) (aU (lk c.γ.R c.s.heap) l vs):=by
 refine zg (λe tO=>?_) (ie I (V.au K) hs);refine zg (λr UK=>?_) tO;obtain⟨vs,k,h⟩:=UK;exact⟨_,vs,k,e,rfl,r,h.1,h.2⟩
theorem m4{o:Option Slot}{l:List D}(h:o.bind DP=some l):o=some (.ol l):=by
 refine ze (bind_some h) λsl EG=>?_;obtain⟨UL,h⟩:=EG;refine gR UL ?_;cases sl with
 |ol q=>exact congrArg (λl=>some (Slot.ol l)) (zh h)
 |_=>exact ns h
section
variable{n:Nat}{m:BM}{vs:List AV}{r:R (AV×Env×G)}
theorem l4(h:Rn call (fH (So e g (.w i) m vs)) r)(k:∀l q,e[i]? =some (.ol l)->(bmW m vs l).is q->r=.ok (q.1,bh e i (.ol q.2),g)->P):P:=
 h.Ov λ_ q er=>O.cV q λl hl q=>O.iz q λz hz e=>k l z (m4 hl) hz (er.trans (congrArg _ (Eq.symm e)))
theorem Ad(h:Rn call (fH (So e g (.o n) m vs)) r)(k:∀o q,g[n]? =some o->(bmO m vs o).is q->r=.ok (q.1,e,g.set n q.2)->P):P:=
 h.Ov λ_ q er=>O.cV q λo ho q=>O.iz q λz hz e=>k o z ho hz (er.trans (congrArg _ (Eq.symm e)))
end
theorem B8{o:bW}{l:List D}(h:Sn o=some l):o=.list l:=by
 cases o with
 |list q=>exact congrArg _ (zh h)
 |_=>exact ns h
theorem kJ{o:bW}{l:List (D×AV)}(h:IS o=some l):o=.dict l:=by
 cases o with
 |dict q=>exact congrArg _ (zh h)
 |_=>exact ns h
theorem MA{m:BM}{z:Bool}(h:Ss e g (.w i) m z=true):∃l,e[i]? =some (.ol l):=
 let⟨l,h⟩:=zp.mp (aa h).1
 ⟨l,m4 h⟩
theorem Ae{n:Nat}{m:BM}{z:Bool}(h:Ss e g (.o n) m z=true):∃o,g[n]? =some o/\IT m z o=true:=by
 have h:(g[n]?.map (IT m z)).getD false=true:=h;cases ho:g[n]? with
 |none=>rw[ho] at h;exact absurd h zi
 |some o=>rw[ho] at h;exact⟨o,rfl,h⟩
theorem jJ:du fx c (.d .none) .none:=rfl
theorem jK{n m:Nat}(e:n=m)(h:m<=lim):n<=sizeLine:=e▸bb h
theorem MB{a:CE}{m:BM}(hb:d9 (aH T.tb.nm a)=true)(hs:fY es)(hl:es.len<29)(bk:(pa.endLine==p.line)=true)(ha:ai A call fx a)
  (k:∀c r a1 c1 v1,Ss c1.e c1.g a1 m es.Su=true->Rn call ((ka T.tb es c1.e c1.g).bind λz=>fH (So z.2.1 z.2.2 a1 m z.1)) r->Inv fx c1->Ext c c1->du fx c1 a1 v1->
   adf prog w A (XE c r) (vz m) v1 p (backTo p (starEach (cn T.tb.nm es) fx.env)) (QE fx c r) c1.s):ai A call fx (.bm a m es pa p):=
 λc r I h=>qk hb hs hl bk ha I h λa1 c1 v1 h I1 K1 V1=>k c r a1 c1 v1 h.bO.1 h.bO.2 I1 K1 V1
def Bm1(A:ZV)(call:Call)(fx:Fx)(x:CE)(p:Pos)(m:BM)(c:ah)(r:R (AV×Env×G))(a1:AV)(c1:ah)(v1:zo):Prop:=
 Rn call ((cC T.tb x c1.e c1.g).bind λz=>fH (So z.2.1 z.2.2 a1 m [z.1])) r->Inv fx c1->Ext c c1->du fx c1 a1 v1->
   adf prog w A (XE c r) (vz m) v1 p [(false,YJ (aH T.tb.nm x) fx.env)] (QE fx c r) c1.s
theorem v8{a x:CE}{m:BM}(hb:d9 (aH T.tb.nm a)=true)(hx:notStar (aH T.tb.nm x)=true)(bk:(pa.endLine==p.line)=true)(ha:ai A call fx a)
  (k:∀c r a1 c1 v1,Ss c1.e c1.g a1 m false=true->Bm1 A call fx x p m c r a1 c1 v1):ai A call fx (.bm a m (.cons x .nil) pa p):=
 MB hb ⟨hx,trivial⟩ (yd rfl) bk ha λc r a1 c1 v1 hk h I1 K1 V1=>by
  refine(?_:adf prog w A _ _ _ _ (backTo p (starEach [aH T.tb.nm x] fx.env)) _ _);refine gR (aj hx ..) (gR (ay ..) ?_);exact k c r a1 c1 v1 hk (Rn.bu h) I1 K1 V1
theorem Fi{a x:CE}{m:BM}(hm:∀z o,IT m z o=false)(hb:d9 (aH T.tb.nm a)=true)(hx:notStar (aH T.tb.nm x)=true)(bk:(pa.endLine==p.line)=true)(ha:ai A call fx a)
  (k:∀c r i c1 v1 l0,c1.e[i]? =some (.ol l0)->Bm1 A call fx x p m c r (.w i) c1 v1):ai A call fx (.bm a m (.cons x .nil) pa p):=
 v8 hb hx bk ha λc r a1 c1 v1 hk=>by
  cases a1 with
  |d q=>exact absurd hk zi
  |o n=>refine ze (Ae hk) λo UM=>(zg (λ_ hk=>?_) UM);exact absurd ((hm _ o).symm.trans hk) zi
  |w i=>exact ze (MA hk) λl0 JU=>(k c r i c1 v1 l0 JU)
theorem JV{x:CE}(rG:ai A call fx x){r:R (AV×Env×G)}{l0:List D}(JU:c1.e[i]? =some (.ol l0)):Bm1 A call fx x p .append c r (.w i) c1 v1:=λh I1 K1 V1=>by
 obtain⟨rfl,_,vs0,k0,z⟩:=ie I1 V1 JU;exact jI PySem.F.slot_list_append PySem.F.type_list_append z.1 (P.append_list (rG.d7 I1 K1 h λa2 c2 v2 h I2 K2 V2 fT=>l4 h λl q hs hw er=>O.cV (o:=dA a2) hw λp' ea hw=>by
  cases bL ea;cases hw.2;obtain⟨b,vs,k,z⟩:=kI I2 fT V1 hs;cases z.1;exact⟨vs.toArray,k,jK z.5.length (Zz (of_decide_eq_true hw.1)),z.4,lZ I2 K2 z.2 hs z.3 z.4 (List.push_toArray ..) (z.5.append (.one V2)) (λ_ _=>jJ) er⟩))
theorem JW(I:Inv fx c2)(K:Ext c c2){n:Nat}{l:List D}{p:D}(hs:c2.g[n]? =some (.list l))(V:DR (lk c2.γ.R c2.s.heap) p v)(hz:l.length<lim){r:R (AV×Env×G)}(er:r=.ok (.d .none,c2.e,c2.g.set n (.list (l++[p])))):
  c8 λxs k=>aG (xs.size<=yG) (c2.s.heap.get? (c2.γ.aI n).1=some {cls:=.type "list",data:=.seq xs k}) (QE fx c r .none {c2.s with heap:=c2.s.heap.update (c2.γ.aI n).1 (ym λxs=>xs.push v)}):=by
 refine zg (λr2 Fj=>?_) (I.g.objs n _ hs);obtain⟨vs,k,e,ds⟩:=Fj;obtain⟨k',e'⟩:=je (f:=λxs=>xs.push v) e (List.push_toArray ..);have sm:cX (c2.γ.aI n).1 c2.s {c2.s with heap:=c2.s.heap.update (c2.γ.aI n).1 (ym λxs=>xs.push v)}:=.kH;have z:=I.jd (o:=.list (l++[p])) r2 sm (zp.mpr ⟨_,e'⟩) ⟨r2,vs++[v],k',e',(ds.append (.one V)).sub (sm.sub r2 rfl)⟩;exact⟨vs.toArray,k,jK ds.length (Zz hz),e,.d .none,_,er,rfl,z.1,K.trans z.2,jJ⟩
theorem v9{a x:CE}(hb:d9 (aH T.tb.nm a)=true)(hx:notStar (aH T.tb.nm x)=true)(bk:(pa.endLine==p.line)=true)(ha:ai A call fx a)(rG:ai A call fx x):ai A call fx (.bm a .append (.cons x .nil) pa p):=
 v8 hb hx bk ha λc r a1 c1 v1 hk=>by
  cases a1 with
  |d q=>exact absurd hk zi
  |w i=>
   exact ze (MA hk) λl0 JU=>(JV rG JU)
  |o n=>
   refine ze (Ae hk) λo MC=>?_;cases o with
   |list l0=>
    intro h I1 K1 V1;refine zg (λr0 UN=>?_) (I1.g.objs n _ MC.1);obtain⟨vs0,k0,z⟩:=UN;exact gR V1.1 (jI PySem.F.slot_list_append PySem.F.type_list_append z.1 (P.append_list (rG.d7 I1 K1 h λa2 c2 v2 h I2 K2 V2 fT=>Ad h λo q hs hw er=>O.cV hw λl el hw=>O.cV (o:=dA a2) hw λp' ea hw=>by
     cases B8 el;cases bL ea;cases hw.2;obtain⟨xs,k,z⟩:=JW I2 K2 hs V2 (of_decide_eq_true hw.1) er;exact gL (fT.x.aI n V1.2 ..) ⟨xs,k,z.1,z.2,z.3⟩)))
   |_=>exact absurd MC.2 zi
theorem wb{a x:CE}(hb:d9 (aH T.tb.nm a)=true)(hx:notStar (aH T.tb.nm x)=true)(bk:(pa.endLine==p.line)=true)(ha:ai A call fx a)(rG:ai A call fx x):ai A call fx (.bm a .hK (.cons x .nil) pa p):=
 Fi (λz o=>by cases o <;> rfl) hb hx bk ha λc r i c1 v1 l0 JU h I1 K1 V1=>by
  obtain⟨rfl,_,vs0,k0,z0⟩:=ie I1 V1 JU;refine jI PySem.F.slot_list_extend PySem.F.type_list_extend z0.1 (seqMethod1_meets PySem.F.slot_list_extend PySem.F.entry_list_extend (rG.d7 I1 K1 h λa2 c2 v2 h I2 K2 V2 fT=>l4 h λl q hs hw er=>O.cV (o:=dA a2) hw λp' ea hw=>O.cV hw λl' el UO=>?_));cases bL ea;cases UO.2;obtain⟨b,vs,k,z⟩:=kI I2 fT V1 hs;obtain⟨ad,ws,n2,S⟩:=cu I2 V2 rfl el;have hz:vs.toArray.size+ws.toArray.size<=lim:=by have hz:=of_decide_eq_true UO.1;rw[←z.5.length,←S.2.length] at hz;exact hz
  have z2:=bb hz;have z0:¬(!(vs.toArray).isEmpty&&Builtin.List.listTooLong (vs.toArray.size+ws.toArray.size))=true:=λq=>absurd (of_decide_eq_true (aa q).2) (YK.mpr z2);have fin:QE fx c r .none {c2.s with heap:=c2.s.heap.update b (ym λxs=>xs++ws.toArray),toks:=c2.s.toks}:=
   lZ I2 K2 z.2 hs z.3 z.4 (by simp) (z.5.append S.2) (λ_ _=>jJ) er
  refine gR z.1 (gR S.1 ?_);exact S.3.elim (λo=>⟨⟨_,z.4,rfl⟩,PySem.F.args_list_extend_2 _ _,_,AutoSeq1.list_extend_list_tuple_0 _ vs.toArray _ ad ws.toArray _ z0 (zk (zu _ _) z2) (zQ z2),z.4,(aw o.2).2,fin⟩)
   λo=>⟨⟨_,z.4,rfl⟩,PySem.F.args_list_extend_2 _ _,_,AutoSeq1.list_extend_list_list_0 _ vs.toArray _ ad ws.toArray _ z0 (zk (zu _ _) z2) (zQ z2),z.4,o.2,fin⟩
theorem OW{x:Str}:∀{l:List D} {vs:List zo} {l':List D},aU L l vs->l.all isStr=true->IQ (.str x) l=some l'->
  ∃j,∃hj:j<vs.length,aG (vs[j].isStr x=true) (∀m hm,m<j->vs[m].isStr x=false) (aU L l' (vs.eraseIdx j)):=by
 intro l
 induction l with
 |nil=>exact λ_ _ h=>ns h
 |cons y r ih=>
  intro vs l' ds JX m5;obtain⟨v,tl,uf,dv,dt⟩:=ds;refine gR uf ?_;obtain⟨h1,h2⟩:=aa JX;obtain⟨z,rfl⟩:=ba h1;obtain⟨ok',u,Fm⟩:=dv;refine gR Fm ?_;have m5:(if zD (.str z) (.str x)=true then some r else(IQ (.str x) r).map (Yo z::·))=some l':=m5;rw[cw] at m5;by_cases q:z=x
  ·subst q
   replace m5:=(if_pos (decide_eq_true rfl)).symm.trans m5;obtain rfl:=zh m5;exact⟨0,Zu _,beq_self_eq_true _,λm hm h=>absurd h (Zw _),dt⟩
  ·replace m5:=(if_neg ((decide_eq_false q).symm▸zi)).symm.trans m5
   refine ze (map_some m5) λl'' xJ=>(gL xJ.2 ?_);obtain⟨j,JY⟩:=ih dt h2 xJ.1;refine⟨j+1,adp JY.1,JY.2.1,λm hm hmj=>?_,.cons ⟨ok',u,rfl⟩ JY.2.3⟩;cases m with
   |zero=>exact beq_eq_false_iff_ne.mpr q
   |succ m=>exact JY.2.2 m (yP hm) (yP hmj)
theorem wc{a x:CE}(hb:d9 (aH T.tb.nm a)=true)(hx:notStar (aH T.tb.nm x)=true)(bk:(pa.endLine==p.line)=true)(ha:ai A call fx a)(rG:ai A call fx x):ai A call fx (.bm a .hM (.cons x .nil) pa p):=
 Fi (λz o=>by cases o <;> rfl) hb hx bk ha λc r i c1 v1 l0 JU h I1 K1 V1=>by
  obtain⟨rfl,_,vs0,k0,z0⟩:=ie I1 V1 JU;refine jI PySem.F.slot_list_remove PySem.F.type_list_remove z0.1 (P.remove_list (rG.d7 I1 K1 h λa2 c2 v2 h I2 K2 V2 fT=>l4 h λl q hs hw er=>O.cV (o:=dA a2) hw λp' ea hw=>O.cV hw λx' ex UO=>O.cV UO.2 λl' m5 e=>?_));cases bL ea;cases fU ex;subst e;obtain⟨hz,JX⟩:=aa UO.1;obtain⟨b,vs,k,z⟩:=kI I2 fT V1 hs;refine zg (λ_ tJ=>?_) V2;obtain⟨t,EF⟩:=tJ;refine gR EF ?_;obtain⟨j,hj,q⟩:=OW z.5 JX m5;cases z.1;exact⟨vs.toArray,k,λy=>y.isStr x',j,hj,jK z.5.length (of_decide_eq_true hz),z.4,λy hy=>by
   refine ze (y3 (yZ.mpr hy)) λm hm=>?_;refine ze (z.5.Ja hm) λp' Fo=>?_;obtain⟨z,rfl⟩:=ba (zC.mp JX p' (zy Fo.1));obtain⟨_,u,jb⟩:=Fo.2;refine gR jb ?_;exact eqGives_str z x' u t,q.1,λm hm hmj=>q.2 m hm hmj,lZ I2 K2 z.2 hs z.3 z.4 (Ys ..) q.3 (λ_ _=>jJ) er⟩
end
section
variable{call:Call}
theorem ql{x:Str}:∀{t:List (Str×zo)},x∉t.map (·.1)->t.filter (λkv=>decide (kv.1≠x))=t
 |[],_=>rfl
 |(y,v)::r,h=>by
  simp only[Zo,zK,not_or] at h;exact gR List.filter_cons (gR (if_pos (by simpa using λe=>h.1 e.symm) ..) (gR (ql h.2 ..) rfl))
theorem Ag{len:Nat}{x:Str}:∀{es:List (D×AV)} {ps:List (Str×zo)},iU γ len h es ps->(ps.map (·.1)).Nodup->iU γ len h (tm (.str x) es) (without ps x)
 |[],_,k,_=>by obtain rfl:_=_:=k;rfl
 |(_,av)::r,_,⟨s,v,t,rfl,rfl,o,a,b⟩,n=>by
  simp only[Zo,ZR] at n;by_cases q:s=x
  ·subst q
   have e1:tm (.str s) ((.str s,av)::r)=r:=if_pos ((cw s s).trans (decide_eq_true rfl));have e2:without ((s,v)::t) s=t:=(List.filter_cons_of_neg (p:=λkv:Str×zo=>decide (kv.1≠s)) λh=>(of_decide_eq_true h:s≠s) rfl).trans (ql n.1);refine gR e1 (gR e2 ?_);exact b
  ·have e1:tm (.str x) ((.str s,av)::r)=(.str s,av)::tm (.str x) r:=if_neg λh=>q (of_decide_eq_true ((cw s x).symm.trans h))
   have e2:without ((s,v)::t) x=(s,v)::without t x:=List.filter_cons_of_pos (p:=λkv:Str×zo=>decide (kv.1≠x)) (decide_eq_true q);refine gR e1 (gR e2 ?_);exact⟨s,v,_,rfl,rfl,o,a,Ag b n.2⟩
theorem jf{len:Nat}:∀{es:List (D×AV)} {ps:List (Str×zo)},iU γ len h es ps->ps.length=es.length
 |[],_,k=>by obtain rfl:_=_:=k;rfl
 |(_,_)::_,_,⟨_,_,_,e,_,_,_,b⟩=>by refine gR e ?_;simp[jf b]
theorem Fp{a:CE}(hb:d9 (aH T.tb.nm a)=true)(bk:(pa.endLine==p.line)=true)(ha:ai A call fx a):ai A call fx (.bm a .pop .nil pa p):=
 MB hb trivial (show 0<29 by decide) bk ha λc r a1 c1 v1 hk h I1 K1 V1=>by
  cases a1 with
  |d q=>exact absurd hk zi
  |o n=>refine ze (Ae hk) λo o9=>?_;obtain⟨_,hk⟩:=o9;cases o <;> exact absurd hk zi
  |w i=>
   refine l4 (vs:=[]) h λl q hs hw er=>?_;obtain⟨h0,hz⟩:=aa hw.1;cases hw.2;obtain⟨kL,hr2,vs,k,z⟩:=ie I1 V1 hs;refine gR kL ?_;have ln:=z.2.length;have hy:l[l.length - 1]? =some (l.getLast?.getD .none):=by refine gR List.getLast?_eq_getElem? (gR (zB (Nat.sub_one_lt_of_lt (of_decide_eq_true h0)) ..) ?_);rfl
   refine ze (z.2.get hy) λv j4=>(zg (λhv dv=>?_) j4);have dl:aU (lk c1.γ.R c1.s.heap) l.dropLast (vs.eraseIdx (vs.length - 1)):=by refine gR List.dropLast_eq_take (gR (List.eraseIdx_eq_take_drop_succ ..) (gR (adt (Nat.le_succ_of_pred_le (zm (vs.length - 1))) ..) ?_));refine gR (YM ..) (gR ln ?_);exact z.2.take _
   refine jI PySem.F.slot_list_pop PySem.F.type_list_pop z.1 (P.pop_list (y:=v) z.1 ?_ ?_ (jK ln (of_decide_eq_true hz)))
   ·refine gR zS (gR ln ?_);exact(yw ..).trans hv
   ·exact lZ I1 K1 rfl hs hr2 z.1 (out:=vs.eraseIdx (vs.length - 1)) (Ys ..) dl (λc' K'=>du.au (a:=.d _) K' dv) er
theorem Fq{r:R (AV×Env×G)}(I2:Inv fx c2)(K2:Ext c c2){n:Nat}{es:List (D×AV)}{x:Str}{t:Tok}{av:AV}(hs:c2.g[n]? =some (.dict es))(fM:(es.all λe=>isStr e.1)=true)(hz:es.length<=lim)(hv:e6 (.str x) es=some av)(er:r=.ok (av,c2.e,c2.g.set n (.dict (tm (.str x) es)))):
  c8 λps v=>dQ (c2.s.heap.DictOf (zR prog w) (c2.γ.aI n).1 ps) (ps.length<=yG) (valueAt ps x=some v) (∀h',h'.DictOf (zR prog w) (c2.γ.aI n).1 (without ps x)->ZN (c2.γ.aI n).1 c2.s.heap h'->QE fx c r v {c2.s with heap:=h',toks:=c2.s.toks+1}):=by
 have O:=I2.g.objs n _ hs;refine ze (dX O fM) λps UP=>(zg (λhm kv=>?_) UP);refine ze ((jF kv).1 av hv) λv MD=>?_;have nd:(ps.map (·.1)).Nodup:=by refine ze hm λ_ Fe=>?_;obtain⟨_,_,_,_,_,_,_,nd⟩:=Fe;exact nd
 refine⟨ps,v,hm,jK (jf kv) hz,MD.1,λh' lO vf=>?_⟩;have sm:cX (c2.γ.aI n).1 c2.s {c2.s with heap:=h',toks:=c2.s.toks+1}:=.cU vf;have z:=I2.jd (o:=.dict (tm (.str x) es)) O.1 sm (by refine ze (id lO) λ_ mQ=>?_;obtain⟨_,_,ho,_⟩:=mQ;exact zp.mpr ⟨_,ho⟩)
  ⟨O.1,.inl ⟨_,lO,(Ag kv nd).au (sm.sub O.1 rfl) (zm _) λ_ _=>rfl⟩⟩
 exact⟨av,_,er,rfl,z.1,K2.trans z.2,(du.Jf MD.2).au z.2⟩
theorem Fs{a x:CE}(hb:d9 (aH T.tb.nm a)=true)(hx:notStar (aH T.tb.nm x)=true)(bk:(pa.endLine==p.line)=true)(ha:ai A call fx a)(rG:ai A call fx x):ai A call fx (.bm a .pop (.cons x .nil) pa p):=
 v8 hb hx bk ha λc r a1 c1 v1 hk=>by
  cases a1 with
  |d q=>exact absurd hk zi
  |w i=>exact absurd (aa hk).2 zi
  |o n=>
   refine ze (Ae hk) λo i9=>?_;cases o with
   |dict es0=>
    intro h I1 K1 V1;refine ze (dX (I1.g.objs n _ i9.1) i9.2) λps0 jw=>(zg (λhm0 _=>?_) jw);refine gR V1.1 (Ac PySem.F.slot_dict_pop PySem.F.type_dict_pop hm0 (method1_meetsIn PySem.F.slot_dict_pop PySem.F.entry_dict_pop (rG.d7 I1 K1 h λa2 c2 v2 h I2 K2 V2 fT=>Ad h λo q hs hw er=>O.cV hw λes el hw=>O.cV (o:=dA a2) hw λp' ea hw=>O.cV hw λx ex hw=>O.cV hw.2 λav hv e=>?_)));cases kJ el;cases bL ea;cases fU ex;subst e;obtain⟨_,t,mK⟩:=V2;refine gR mK ?_;obtain⟨fM,hz⟩:=aa hw.1;obtain⟨ps,v,z⟩:=Fq (t:=t) I2 K2 hs fM (of_decide_eq_true hz) hv er;exact gL (fT.x.aI n V1.2 ..) ⟨z.1.typeIs,PySem.F.args_dict_pop_2 _ _,_,meets_dict_pop_there (zR prog w) _ (strKind_is prog w x t) [] (.inl rfl) rfl,ps,v,z.1,z.2,z.3,λh' lO vf=>z.4 h' lO vf⟩
   |_=>exact absurd i9.2 zi
end
section
variable{call:Call}
theorem isi_call{p:D}(d:DR c.s.heap.get? p v)(q:∀s',ae c.s s'->s'.heap=c.s.heap->Q (.bool (Sw t p)) s'):
  zx (zv prog w) A (ZP (.builtin "isinstance") [v,.type (if t then "tuple" else "list")]) Q E c.s:=by
 have q1:=q c.s (.refl _) rfl;have q2:=q _ (ae.toks c.s (c.s.toks+1)) rfl;cases t <;> cases p
 case false.none=>obtain rfl:_=_:=d;exact IsiPair.NoneType_list q2
 case false.bool=>obtain rfl:_=_:=d;exact IsiPair.bool_list q2
 case false.int=>obtain⟨t,rfl⟩:=d;exact IsiPair.int_list q2
 case false.str=>obtain⟨_,t,rfl⟩:=d;exact IsiPair.str_list q2
 case false.list=>obtain⟨a,vs,n,rfl,h,_⟩:=d;exact IsiPair.list_list h rfl q1
 case false.tuple=>obtain⟨a,vs,n,rfl,h,_⟩:=d;exact IsiPair.tuple_list h rfl q2
 case false.dict=>obtain⟨a,ps,rfl,_,⟨o,es,ep,h,hc,_⟩,_⟩:=d;exact IsiPair.dict_list h hc.1 q2
 case true.none=>obtain rfl:_=_:=d;exact IsiPair.NoneType_tuple q2
 case true.bool=>obtain rfl:_=_:=d;exact IsiPair.bool_tuple q2
 case true.int=>obtain⟨t,rfl⟩:=d;exact IsiPair.int_tuple q2
 case true.str=>obtain⟨_,t,rfl⟩:=d;exact IsiPair.str_tuple q2
 case true.list=>obtain⟨a,vs,n,rfl,h,_⟩:=d;exact IsiPair.list_tuple h rfl q2
 case true.tuple=>obtain⟨a,vs,n,rfl,h,_⟩:=d;exact IsiPair.tuple_tuple h rfl q1
 case true.dict=>obtain⟨a,ps,rfl,_,⟨o,es,ep,h,hc,_⟩,_⟩:=d;exact IsiPair.dict_tuple h hc.1 q2
theorem OX(t:Bool):((if t then "tuple" else "list":Str),ZF (if t then "tuple" else "list"))∈dc:=match t with
 |true=>.tail _ (.tail _ (.head _))
 |false=>.tail _ (.tail _ (.tail _ (.head _)))
theorem JZ:(("isinstance":Str),Z3 "isinstance")∈dc:=by repeat (first |exact .head _ |apply List.Mem.tail)
theorem J0(ok:bF fx){a:CE}{pt:Pos}(hk:fx.env.kindOf "isinstance"=some .globalImplicit)(qf:fx.env.kindOf (if t then "tuple" else "list")=some .globalImplicit)(hs:notStar (aH T.tb.nm a)=true)
  (ha:ai A call fx a):ai A call fx (.Ru a t pt pf p):=λc r I h=>by
 refine bC (λQ q=>cK ok I.g JZ hk rfl q) (gR (aj hs ..) (gR (ay ..) ?_));refine gR (aj rfl ..) (gR (ay ..) ?_);refine callWith_builtin rfl (evalArgs_plain (spliced_cons (ha.d7 I (.refl _) h λa1 c1 v1 h I1 K1 V1 _=>spliced_cons ?_)));exact cK ok I1.g (OX t) qf (by cases t <;> decide) (spliced_nil (h.opt λp ea h=>isi_call (DR.sub (cM _ _) (V1.DD ea)) λs' g _=>QE.data I1 K1 g h.1.symm rfl))
noncomputable def Ft(P:CE->Prop):qN->Prop
 |.nil=>True
 |.lit _ _ r=>Ft P r
 |.val a _ r=>P a/\Ft P r
noncomputable def litsOk:qN->Prop
 |.nil=>True
 |.lit s _ r=>Zh (T.tb.nm s)=true/\litsOk r
 |.val _ _ r=>litsOk r
theorem jL:lim<=sizeLine:=by refine gR (jB ..) ?_;decide
theorem we{n:Int}(h:0<=n)(k:n<100):n.natAbs.log2<1920:=by
 have:n.natAbs<100:=na h k;by_cases z:n.natAbs=0
 ·refine gR z ?_;decide
 ·exact(Nat.log2_lt z).mpr (ZA this (by decide))
theorem qN.ind{P:qN->Prop}(h0:P .nil)(h1:∀s p r,P r->P (.lit s p r))(h2:∀a p r,P r->P (.val a p r)):∀es,P es
 |.nil=>h0
 |.lit s p r=>h1 s p r (qN.ind h0 h1 h2 r)
 |.val a p r=>h2 a p r (qN.ind h0 h1 h2 r)
theorem J1{d:D}{z:Str}(V:DR (lk c1.γ.R c1.s.heap) d v)(h:(fsD d).is z)(hz:z.length<=lim)(fin:∀s' t,ae c1.s s'->Zh z=true->Q (.str z t) s'):
  zx (zv prog w) A (formatField v adW) Q E c1.s:=by
 cases d with
 |str x=>
  subst h;refine zg (λox EC=>?_) V;refine ze EC λt UQ=>(gR UQ ?_);exact wpAny_formatField_str (fin _ _ (.refl _) ox) (fin _ _ (.toks _ _) ox) (zk hz jL)
 |int i=>
  refine ze V λt UR=>(gR UR ?_);cases h.2;obtain⟨h0,h1⟩:=aa h.1;have h0:=of_decide_eq_true h0;have h1:=of_decide_eq_true h1;refine wpAny_formatField_int (we h0 h1) ?_;rw[show Yd (toString i)=digits i.toNat by unfold digits;rw[YN h0]];exact fin _ (c1.s.toks+1) ((ae.toks c1.s (c1.s.toks+1)).trans (ae.toks _ (c1.s.toks+1+1))) (qj ⟨i.toNat,(aec h0).mpr h1⟩).1
 |_=>exact h.elim
theorem B9:∀ps,Ft (ai A call fx) ps->litsOk ps->∀(c₀ c:ah) acc,Zh acc=true->acc.length<=lim->Inv fx c->Ext c₀ c->∀{β:Type} (r:R β) f,Rn call ((SA T.tb ps acc c.e c.g).bind f) r->
  ∀{Q:Str->zt->Prop},(∀z c',Rn call (f (z,c'.e,c'.g)) r->Zh z=true->z.length<=lim->Inv fx c'->Ext c₀ c'->Q z c'.s)->
  Joins (zv prog w) A (XE c₀ r) (evalEach (toF T.tb.nm ps) fx.env) acc Q c.s:=by
 refine qN.ind (λ_ _ c₀ c acc oa la I K β r f er Q k=>k acc c er oa la I K) (λs p ps ih h ho c₀ c acc oa la I K β r f er Q k=>?_) (λa p ps ih h ho c₀ c acc oa la I K β r f er Q k=>?_)
 ·have z:=Rn.bO er
  have hl:=strLen_append ..▸of_decide_eq_true z.1;exact Y6 ⟨_,_,rfl,zk hl jL,ih h ho.2 c₀ {c with s:=_} (acc++T.tb.nm s) (gp oa ho.1) hl (I.dD (ae.toks c.s (c.s.toks+1))) (K.trans (.dD (ae.toks c.s (c.s.toks+1)))) r f z.2 k⟩
 ·refine wpAny_FormattedValue_plain (h.1.d7 I K (Rn.bu er) λa1 c1 v1 er I1 K1 V1 _=>(Rn.bu (x:=fH (fsP a1)) er).fH λz d er=>O.cV d λq ea d=>?_)
  have er:=Rn.bO (x:=(SA T.tb ps (acc++z) c1.e c1.g).bind f) er;have hz:=of_decide_eq_true er.1;have hl:=strLen_append ..▸hz;exact J1 (V1.DD ea) d (zk (Zf _ _) hz) λs' t g oz=>⟨z,t,rfl,zk hl jL,ih h.2 ho c₀ {c1 with s:=s'} (acc++z) (gp oa oz) hl (I1.dD g) (K1.trans (.dD g)) r f er.2 k⟩
noncomputable def Ca:qN->Nat
 |.nil=>0
 |.lit _ _ r=>Ca r+1
 |.val _ _ r=>Ca r+1
theorem Ah{nm:Nat->Str}{ps:qN}(h:1<=Ca ps):∃v r,toF nm ps=v::r:=by
 cases ps with
 |nil=>exact absurd h (show ¬1<=0 by decide)
 |lit s p r=>exact⟨_,_,rfl⟩
 |val s p r=>exact⟨_,_,rfl⟩
theorem J2{nm:Nat->Str}{ps:qN}(h:2<=Ca ps):mi λUS UT r=>toF nm ps=US::UT::r:=by
 cases ps with
 |nil=>exact absurd h (show ¬2<=0 by decide)
 |lit s p r=>obtain⟨v,t,e⟩:=Ah (Za h);exact⟨_,v,t,congrArg _ e⟩
 |val s p r=>obtain⟨v,t,e⟩:=Ah (Za h);exact⟨_,v,t,congrArg _ e⟩
theorem OY{ps:qN}(hl:2<=Ca ps)(h:Ft (ai A call fx) ps)(ho:litsOk ps):ai A call fx (.fs ps p):=λc r I er=>by
 obtain⟨US,UT,rr,e⟩:=J2 hl;have q:=B9 ps h ho c c adW (by decide+kernel) (by decide) I (.refl _) _ _ er (Q:=λz s'=>z.length<=yG/\QE fx c r (.str z s'.toks) {s' with toks:=s'.toks+1}) λz c' e1 oz lz I1 K1=>
  ⟨zk lz jL,QE.data (p:=.str z) I1 K1 (ae.toks _ _) e1.1.symm ⟨oz,_,rfl⟩⟩
 refine(?_:zx _ _ (YJ (.JoinedStr (toF T.tb.nm ps) p) fx.env) _ _ _);rw[e] at q⊢;exact wpAny_JoinedStr q
theorem Inv.OZ(I:Inv fx c)(OV:∃aQ,c.e[i]? =some aQ/\aQ.Jb=true)(hr:c.γ.R (c.γ.own i)=.own i):
  Inv fx {c with γ:={c.γ with R:=cx c.γ.R (c.γ.own i) .free},e:=bh c.e i .un}/\Ext c {c with γ:={c.γ with R:=cx c.γ.R (c.γ.own i) .free},e:=bh c.e i .un}:=by
 have same:∀b,c.γ.R b≠.own i->cx c.γ.R (c.γ.own i) .free b=c.γ.R b:=λb h=>aN (by rintro rfl;exact h hr);have hf:∀a o,c.γ.R a=.free->c.s.heap.get? a=some o->cx c.γ.R (c.γ.own i) .free a=.free/\c.s.heap.get? a=some o:=λa o r e=>⟨by refine gR (same a (bA r rfl) ..) ?_;exact r,e⟩;have slots:∀ov j fc,(∀aQ,c.e[j]? =some aQ->aJ c.γ c.g.length c.s.heap ov j aQ)->(bh c.e i .un)[j]? =some fc->aJ {c.γ with R:=cx c.γ.R (c.γ.own i) .free} c.g.length c.s.heap ov j fc:=by
  intro ov j fc h e;unfold bh at e;by_cases q:j=i
  ·subst q
   have hj:j<c.e.length:=by have:=(zr.mp e).1;simpa using this
   rw[ZQ hj] at e;obtain rfl:=zh e;trivial
  ·rw[Z5 (Z8 q)] at e
   exact aJ.au (γ:=c.γ) (γ':={c.γ with R:=cx c.γ.R (c.γ.own i) .free}) hf (zm _) (λ_ _=>rfl)
    (λa o h e=>⟨same a (by rcases h with h |h <;> refine gR h ?_ <;> simp[q]),e⟩) (λ_=>rfl) (h fc e)
 refine⟨⟨⟨λn o e=>?_,λa r=>?_,λa o e=>?_,I.g.os,I.g.gens⟩,⟨?_,λj x a hx=>?_,I.q6 λa o r e=>⟨(same a (bA r rfl)).trans r,o,e,.refl o⟩⟩⟩,⟨hf,λa o r e=>⟨by rewrite [show({c.γ with R:=cx c.γ.R (c.γ.own i) .free}:Gh).R=cx c.γ.R (c.γ.own i) .free from rfl];refine gR (same a (bA r rfl) ..) ?_;exact r,e⟩,zm _,λ_ _=>rfl,λa o r e=>⟨(same a (bA r rfl)).trans r,o,e,.refl o⟩⟩,rfl,λ_ _ h=>rF (λ_=>by simp) h,λa o r e=>⟨(same a (bA r rfl)).trans r,o,e,.refl o⟩,λh=>by refine ze OV λaQ mM=>(zg (λh0 h1=>?_) mM);rw[h i aQ h0] at h1;exact nomatch h1⟩
 ·exact dW.au (γ:=c.γ) (γ':={c.γ with R:=cx c.γ.R (c.γ.own i) .free}) hf (zm _) (zr.mp e).1 (λ_ _=>rfl) (λa o j r e=>⟨by rewrite [show({c.γ with R:=cx c.γ.R (c.γ.own i) .free}:Gh).R=cx c.γ.R (c.γ.own i) .free from rfl];refine gR (same a (bA r rfl) ..) ?_;exact r,e⟩) (I.g.objs n o e)
 ·refine I.g.live a λh=>r (?_:cx c.γ.R (c.γ.own i) .free a=.free)
  exact gR (same a (bA h rfl) ..) h
 ·obtain⟨r,e'⟩:=I.g.top a o e
  exact hf a o r e'
 ·obtain⟨m,a,b,f⟩:=I.f.ns
  exact⟨m,a,by show cx c.γ.R (c.γ.own i) .free _=_;refine gR (same _ (bA b rfl) ..) ?_;exact b,λj x hx fc e=>slots _ j fc (f j x hx) e⟩
 ·refine ze (I.f.cells j x a hx) λov oZ=>?_;obtain⟨b,r,f⟩:=oZ
  exact⟨ov,b,by show(cx c.γ.R (c.γ.own i) .free a=_\/cx c.γ.R (c.γ.own i) .free a=_)/\(_->cx c.γ.R (c.γ.own i) .free a=_);refine gR (same _ (by rcases r.1 with r |r <;> refine gR r ?_ <;> simp) ..) ?_;exact r,λfc e=>slots _ j fc f e⟩
theorem J3(ok:bF fx){o:Option zJ}(hx:(i,T.tb.nm x,o)∈fx.lay):ai A call fx (.j7 i x p):=λc r I h=>h.opt λd hd h=>by
 refine ze (bind_some hd) λsl UU=>?_;obtain⟨hs,hd⟩:=UU;refine ze (slot_of I hx hs) λov Fu=>?_;obtain⟨k,l⟩:=Fu;have fin:c.γ.R (c.γ.own i)=.own i->sl.Jb=true->∀v,(Ext c {c with γ:={c.γ with R:=cx c.γ.R (c.γ.own i) .free},e:=bh c.e i .un}->DR (lk (cx c.γ.R (c.γ.own i) .free) c.s.heap) d v)->QE fx c r v c.s:=λhr o v q=>by
  have z:=I.OZ ⟨_,hs,o⟩ hr;exact⟨.d d,{c with γ:={c.γ with R:=cx c.γ.R (c.γ.own i) .free},e:=bh c.e i .un},h.1.symm,rfl,z.1,z.2,q z.2⟩
 cases sl with
 |ol q=>
  cases hd;obtain⟨rfl,Iz,vs,n,e⟩:=k;exact ky ok hx l (fin Iz rfl _ λK'=>⟨c.γ.own i,vs,n,rfl,aB bw e.1,e.2.sub K'.x.sub⟩)
 |od q=>
  cases hd;obtain⟨rfl,Iz,ps,e,dk⟩:=k;refine ze (id e) λob UW=>(ze UW λes UX=>(ze UX λep Fj=>(zg (λho rest=>?_) Fj)));exact ky ok hx l (fin Iz rfl _ λK'=>⟨c.γ.own i,ps,rfl,I.g.jA (bA Iz rfl),⟨ob,es,ep,aB bw ho,rest⟩,iL.sub K'.x.sub dk⟩)
 |_=>exact ns hd
end
section
variable{call:Call}
theorem Inv.m7(I:Inv fx c)(k:ae c.s s') R' (hR:∀x,R' x=c.γ.R x\/(c.s.heap.get? x=none/\(s'.heap.get? x).isSome)):
  Inv fx {c with γ:={c.γ with R:=R'},s:=s'}/\Ext c {c with γ:={c.γ with R:=R'},s:=s'}:=by
 have old:∀x q,c.s.heap.get? x=some q->R' x=c.γ.R x:=λx q e=>(hR x).resolve_right λz=>by rw[z.1] at e;exact nomatch e
 have hf:∀a o,c.γ.R a=.free->c.s.heap.get? a=some o->R' a=.free/\s'.heap.get? a=some o:=λa o r e=>⟨by refine gR (old a o e ..) ?_;exact r,k.sub _ _ e⟩;refine⟨⟨⟨λn q e=>?_,λa r=>?_,λa q e=>?_,k.os.trans I.g.os,k.gens.trans I.g.gens⟩,⟨?_,λi x a hx=>?_,I.q6 λa o r e=>⟨(old a o e).trans r,o,k.sub _ _ e,.refl o⟩⟩⟩,⟨hf,λa o r e=>⟨(old a o e).trans r,k.sub _ _ e⟩,zm _,λ_ _=>rfl,λa o r e=>⟨(old a o e).trans r,o,k.sub _ _ e,.refl o⟩⟩,rfl,λ_ _ h=>h,λa o r e=>⟨(old a o e).trans r,o,k.sub _ _ e,.refl o⟩,λ_=>rfl⟩
 ·exact dW.au (γ:=c.γ) (γ':={c.γ with R:=R'}) hf (zm _) (zr.mp e).1 (λ_ _=>rfl) (λa o j r e=>⟨(old a o e).trans r,k.sub _ _ e⟩) (I.g.objs n q e)
 ·refine YA (hR a) (λh=>?_) λh=>?_
  ·have r':c.γ.R a≠.free:=gL h r
   exact ze (zp.mp (I.g.live a r')) λq hq=>(zp.mpr ⟨q,k.sub _ _ hq⟩)
  ·exact h.2
 ·obtain⟨r,e'⟩:=I.g.top a q e
  exact hf a q r e'
 ·obtain⟨m,a,b,f⟩:=I.f.ns
  obtain⟨oL,_,_,hL,_⟩:=id a;exact⟨m,a.keeps k.sub,(old _ _ hL).trans b,λi y hy sl hs=>aJ.au (γ:=c.γ) (γ':={c.γ with R:=R'}) hf (zm _) (λ_ _=>rfl) (λa o _ e=>⟨old a o e,k.sub _ _ e⟩) (λ_=>rfl) (f i y hy sl hs)⟩
 ·refine ze (I.f.cells i x a hx) λov UY=>?_;obtain⟨b,r,f⟩:=UY
  refine ze (id b) λoc UZ=>?_;obtain⟨hc,_⟩:=UZ;refine⟨ov,b.keeps k.sub,by rewrite [show({c.γ with R:=R'}:Gh).R=R' from rfl];refine gR (old _ _ hc ..) ?_;exact r,λsl hs=>?_⟩;exact aJ.au (γ:=c.γ) (γ':={c.γ with R:=R'}) hf (zm _) (λ_ _=>rfl) (λa o _ e=>⟨old a o e,k.sub _ _ e⟩) (λ_=>rfl) (f sl hs)
theorem Inv.aca(I:Inv fx c)(K:Ext c₀ c)(h0:c₀.s.heap.get? a=none)(hr:c.γ.R a=.aM)(ho:c.s.heap.get? a=some o){es:Array yL}(hd:o.data=.dict es ep)(k:cX a c.s s')(ha:(s'.heap.get? a).isSome) r:
  Inv fx {c with γ:={c.γ with R:=cx c.γ.R a r},s:=s'}/\Ext c₀ {c with γ:={c.γ with R:=cx c.γ.R a r},s:=s'}/\Sub (lk c.γ.R c.s.heap) (lk (cx c.γ.R a r) s'.heap):=by
 have ne:∀b,c.γ.R b≠.aM->b≠a:=λb h e=>h (gR e hr);have keep:∀b o,b≠a->c.s.heap.get? b=some o->s'.heap.get? b=some o:=λb o h e=>(k.at_ b h).trans e;have hf:∀b o,c.γ.R b=.free->c.s.heap.get? b=some o->cx c.γ.R a r b=.free/\s'.heap.get? b=some o:=λb o q e=>
  have n:=ne b (bA q rfl);⟨by refine gR (aN n ..) ?_;exact q,keep b o n e⟩
 have slots:∀ov i sl,aJ c.γ c.g.length c.s.heap ov i sl->aJ {c.γ with R:=cx c.γ.R a r} c.g.length s'.heap ov i sl:=by
  intro ov i sl x;cases sl with
  |un=>trivial
  |v b=>
   refine ze x λv Fu=>?_;obtain⟨e,x⟩:=Fu;exact⟨v,e,cN.au (γ:=c.γ) (γ':={c.γ with R:=cx c.γ.R a r}) (λb o e=>by refine zg (λz e'=>?_) (aw e);refine zg (λz1 z2=>?_) (hf b o z e');exact aB z1 z2) (zm _) (λ_ _=>rfl) x⟩
  |ol l=>
   refine zg (λq1 U0=>?_) x;obtain⟨q2,vs,n,q3,d⟩:=U0;have n1:=ne _ (bA q2 rfl);exact⟨q1,by show cx c.γ.R a r _=_;refine gR (aN n1 ..) ?_;exact q2,vs,n,keep _ _ n1 q3,d.sub λb o e=>by obtain⟨z,e'⟩:=aw e;obtain⟨z1,z2⟩:=hf b o z e';exact aB z1 z2⟩
  |ro l=>
   refine zg (λq1 U1=>?_) x;obtain⟨q2,vs,n,q3,d⟩:=U1;have n1:c.γ.own i≠a:=by intro e;rw[e,ho] at q3;obtain rfl:=zh q3;cases hd
   exact⟨q1,by show cx c.γ.R a r _=_;refine gR (aN n1 ..) ?_;exact q2,vs,n,keep _ _ n1 q3,d.sub λb o e=>by obtain⟨z,e'⟩:=aw e;obtain⟨z1,z2⟩:=hf b o z e';exact aB z1 z2⟩
  |od l=>
   refine zg (λq1 U2=>?_) x;obtain⟨q2,ps,q3,d⟩:=U2;have n1:=ne _ (bA q2 rfl);exact⟨q1,by show cx c.γ.R a r _=_;refine gR (aN n1 ..) ?_;exact q2,ps,cW (λo e=>keep _ _ n1 e) q3,iL.sub (λb o e=>by refine zg (λz e'=>?_) (aw e);refine zg (λz1 z2=>?_) (hf b o z e');exact aB z1 z2) d⟩
 refine⟨⟨⟨λn q e=>?_,λb q=>?_,λb q e=>?_,k.os.trans I.g.os,k.gens.trans I.g.gens⟩,⟨?_,λi x b hx=>?_,I.q6 λb o q e=>⟨(aN (ne b (bA q rfl))).trans q,o,keep b o (ne b (bA q rfl)) e,.refl o⟩⟩⟩,⟨⟨λb o q e=>?_,λb o q e=>?_,K.x.len,K.x.aI,λb o q e=>?_⟩,K.own,K.ro,λb o q e=>?_,K.env⟩,λb o e=>by obtain⟨z,e'⟩:=aw e;refine zg (λz1 z2=>?_) (hf b o z e');exact aB z1 z2⟩
 ·exact dW.au (γ:=c.γ) (γ':={c.γ with R:=cx c.γ.R a r}) (n:=c.g.length) hf (zm _) (zr.mp e).1 (λ_ _=>rfl)
   (λb o j q e=>have n:=ne b (bA q rfl);⟨by rewrite [show({c.γ with R:=cx c.γ.R a r}:Gh).R=cx c.γ.R a r from rfl];refine gR (aN n ..) ?_;exact q,keep b o n e⟩) (I.g.objs n q e)
 ·by_cases n:b=a
  ·exact gR n ha
  ·exact gR (k.at_ b n ..) (I.g.live b (gL (aN (R:=c.γ.R) (r:=r) n ..) q))
 ·obtain⟨r',e'⟩:=I.g.top b q e
  exact hf b q r' e'
 ·obtain⟨m,x,b,f⟩:=I.f.ns
  have n:=ne fx.env.locals (bA b rfl);exact⟨m,ly (λo e=>keep _ o n e) x,by show cx c.γ.R a r _=_;refine gR (aN n ..) ?_;exact b,λi x hx s' e=>slots _ _ _ (f i x hx s' e)⟩
 ·refine ze (I.f.cells i x b hx) λov U3=>?_;obtain⟨b',r',f⟩:=U3
  have n:b≠a:=by rintro rfl;refine ze b' λo' tJ=>?_;obtain⟨fK,Cb⟩:=tJ;rw[ho] at fK;obtain rfl:=zh fK;replace Cb:=hd▸Cb;cases Cb
  exact⟨ov,iD (λo e=>keep _ o n e) b',by show(cx c.γ.R a r b=_\/cx c.γ.R a r b=_)/\(_->cx c.γ.R a r b=_);refine gR (aN n ..) ?_;exact r',λs' e=>slots _ _ _ (f s' e)⟩
 ·have n:b≠a:=by rintro rfl;rw[h0] at e;cases e
  obtain⟨z,e'⟩:=K.x.j7 b o q e;exact⟨by show cx c.γ.R a r b=_;refine gR (aN n ..) ?_;exact z,keep b o n e'⟩
 ·have n:b≠a:=by rintro rfl;rw[h0] at e;cases e
  obtain⟨z,e'⟩:=K.x.aM b o q e;exact⟨by show cx c.γ.R a r b=_;refine gR (aN n ..) ?_;exact z,keep b o n e'⟩
 ·have n:b≠a:=by rintro rfl;rw[h0] at e;cases e
  obtain⟨z,o',e',q'⟩:=K.x.fr b o q e;exact⟨by show cx c.γ.R a r b=_;refine gR (aN n ..) ?_;exact z,o',keep b o' n e',q'⟩
 ·have n:b≠a:=by rintro rfl;rw[h0] at e;cases e
  obtain⟨z,o',e',q'⟩:=K.sys b o q e;exact⟨by show cx c.γ.R a r b=_;refine gR (aN n ..) ?_;exact z,o',keep b o' n e',q'⟩
noncomputable def pT.len:pT->Nat
 |.nil=>0
 |.cons _ _ r=>r.len+1
noncomputable def AllP(P:CE->Prop):pT->Prop
 |.nil=>True
 |.cons k v r=>P k/\P v/\AllP P r
noncomputable def RD(fx:Fx)(p:Pos):pT->List (Sem zo×Sem zo)
 |.nil=>[]
 |.cons k v r=>(YJ (aH T.tb.nm k) fx.env,do let x ←YJ (aH T.tb.nm v) fx.env;standAt p;pure x)::RD fx p r
theorem qm p:∀ps:pT,(evalEachOpt (DT T.tb.nm ps) fx.env).zip ((evalEach (DU T.tb.nm ps) fx.env).map λv=>do let x ←v;standAt p;pure x)=(RD fx p ps).map λp=>(some p.1,p.2)
 |.nil=>rfl
 |.cons k v r=>by
  show(_::(evalEachOpt (DT T.tb.nm r) fx.env).zip ((evalEach (DU T.tb.nm r) fx.env).map λv=>do let x ←v;standAt p;pure x))=_::(RD fx p r).map _;exact gR (qm p r ..) rfl
theorem rH p:∀ps:pT,(RD fx p ps).length=ps.len
 |.nil=>rfl
 |.cons k v r=>by show(RD fx p r).length+1=_;exact gR (rH p r ..) rfl
noncomputable def PsC(fx:Fx)(c:ah):List (D×AV)->List (zo×zo)->Prop
 |[],vs=>vs=[]
 |(k,a)::r,vs=>mi λkv v t=>dQ (vs=(kv,v)::t) (DR (lk c.γ.R c.s.heap) k kv) (du fx c a v) (PsC fx c r t)
theorem pT.ind{P:pT->Prop}(h0:P .nil)(h1:∀k v r,P r->P (.cons k v r)):∀es,P es
 |.nil=>h0
 |.cons k v r=>h1 k v r (pT.ind h0 h1 r)
theorem Cc p:∀ps,AllP (ai A call fx) ps->∀{c₀ c:ah},Inv fx c->Ext c₀ c->∀{β:Type} {r:R β} {f:List (D×AV)×Env×G->W β} {Q:List (zo×zo)->zt->Prop},Rn call ((evP T.tb ps c.e c.g).bind f) r->
  (∀as c' vs,Rn call (f (as,c'.e,c'.g)) r->Inv fx c'->Ext c₀ c'->PsC fx c' as vs->Ext c c'->Q vs c'.s)->zx (zv prog w) A (evalPairs (RD fx p ps)) Q (XE c₀ r) c.s:=by
 exact pT.ind (λ_ c₀ c I K β r f Q h k=>evalPairs_nil (k [] c [] h I K rfl (.refl _))) λk v rest ih h c₀ c I K β r f Q er q=>(evalPairs_cons (h.1.d7 I K (Rn.bu er) λa1 c1 v1 er I1 K1 V1 K01=>zf (h.2.1.d7 I1 K1 (Rn.bu er) λa2 c2 v2 er I2 K2 V2 fT=>zf (wpAny_standAt (zl
  (zI (ih h.2.2 I2 K2 (Rn.bu er) λas c3 vs er I3 K3 V3 B0=>(Rn.bu (x:=opt (dA a1)) er).opt λz ea er=>
   q ((z,a2)::as) c3 ((v1,v2)::vs) er I3 K3 ⟨v1,v2,vs,rfl,(V1.au (fT.trans B0)).DD ea,V2.au B0,V3⟩ (K01.trans (fT.trans B0))) (λ_ _ q=>q) λ_ _ q=>q))))))
noncomputable def PsK(fx:Fx)(c:ah):List (D×AV)->List (Str×zo)->Prop
 |[],vs=>vs=[]
 |(k,a)::r,vs=>mi λs v t=>eX (vs=(s,v)::t) (k=.str s) (Zh s=true) (du fx c a v) (PsK fx c r t)
theorem m8:∀{as:List (D×AV)} {vs:List (zo×zo)},PsC fx c as vs->(as.map (·.1)).all isStr=true->∃bT,Carries (zR prog w) vs bT/\PsK fx c as bT
 |[],_,h,_=>by obtain rfl:_=_:=h;exact⟨[],trivial,rfl⟩
 |(k,a)::r,_,⟨kv,v,t,e,d,x,y⟩,hs=>by
  refine gR e ?_;simp only[Zo,Z9,zY] at hs;obtain⟨s,rfl⟩:=ba hs.1;refine zg (λos U4=>?_) d;obtain⟨tk,U5⟩:=U4;refine gR U5 ?_;obtain⟨bT,h1,h2⟩:=m8 y hs.2;exact⟨(s,v)::bT,⟨strKind_is prog w s tk,rfl,h1⟩,s,v,bT,rfl,rfl,os,x,h2⟩
theorem kM{s:Str}:stored ps s v=if ps.any (λkv=>decide (kv.1=s)) then ps.map (λkv=>if kv.1=s then(kv.1,v) else kv) else ps++[(s,v)]:=rfl
theorem Ai{s:Str}:∀{m:List (D×D)} {ps:List (Str×zo)},iL L m ps->m.any (λe=>zD e.1 (.str s))=ps.any (λkv=>decide (kv.1=s))
 |[],_,h=>by obtain rfl:_=_:=h;rfl
 |(_,_)::_,_,⟨x,v,t,rfl,rfl,a,b⟩=>congr (congrArg or (cw x s)) (Ai b)
theorem rI{s:Str}{p:D}(d:DR L p u):∀{m:List (D×D)} {ps:List (Str×zo)},iL L m ps->
  iL L (m.map λe=>if zD e.1 (.str s) then(e.1,p) else e) (ps.map λkv=>if kv.1=s then(kv.1,u) else kv)
 |[],_,h=>by obtain rfl:_=_:=h;rfl
 |(_,_)::_,_,⟨x,v,t,rfl,rfl,a,b⟩=>lW (R:=λe kv=>iL L (e::_) (kv::_)) (cw x s) ⟨x,u,_,rfl,rfl,d,rI d b⟩ ⟨x,v,_,rfl,rfl,a,rI d b⟩
theorem Aj{s:Str}{p:D}(d:DR L p u):∀{m:List (D×D)} {ps:List (Str×zo)},iL L m ps->iL L (m++[(.str s,p)]) (ps++[(s,u)])
 |[],_,h=>by obtain rfl:_=_:=h;exact⟨s,u,[],rfl,rfl,d,rfl⟩
 |(_,_)::_,_,⟨x,v,t,rfl,rfl,a,b⟩=>⟨x,v,_,rfl,rfl,a,Aj d b⟩
theorem J4{s:Str}{p:D}(d:DR L p u){m:List (D×D)}(h:iL L m ps):iL L (dw (.str s) p m) (stored ps s u):=by
 refine gR kM ?_;unfold dw;refine gR (Ai h ..) ?_
 split
 ·exact rI d h
 ·exact Aj d h
theorem Ak{len:Nat}{s:Str}:∀{m:List (D×AV)} {ps:List (Str×zo)},iU γ len h m ps->m.any (λe=>zD e.1 (.str s))=ps.any (λkv=>decide (kv.1=s))
 |[],_,h=>by obtain rfl:_=_:=h;rfl
 |(_,_)::_,_,⟨x,v,t,rfl,rfl,_,a,b⟩=>congr (congrArg or (cw x s)) (Ak b)
theorem rJ{len:Nat}{s:Str}{p:AV}(d:cN γ len h p u):∀{m:List (D×AV)} {ps:List (Str×zo)},iU γ len h m ps->
  iU γ len h (m.map λe=>if zD e.1 (.str s) then(e.1,p) else e) (ps.map λkv=>if kv.1=s then(kv.1,u) else kv)
 |[],_,h=>by obtain rfl:_=_:=h;rfl
 |(_,_)::_,_,⟨x,v,t,rfl,rfl,o,a,b⟩=>lW (R:=λe kv=>iU γ len h (e::_) (kv::_)) (cw x s) ⟨x,u,_,rfl,rfl,o,d,rJ d b⟩ ⟨x,v,_,rfl,rfl,o,a,rJ d b⟩
theorem Al{len:Nat}{s:Str}(os:Zh s=true){p:AV}(d:cN γ len h p u):∀{m:List (D×AV)} {ps:List (Str×zo)},iU γ len h m ps->iU γ len h (m++[(.str s,p)]) (ps++[(s,u)])
 |[],_,h=>by obtain rfl:_=_:=h;exact⟨s,u,[],rfl,rfl,os,d,rfl⟩
 |(_,_)::_,_,⟨x,v,t,rfl,rfl,o,a,b⟩=>⟨x,v,_,rfl,rfl,o,a,Al os d b⟩
theorem Am{len:Nat}{s:Str}(os:Zh s=true){p:AV}(d:cN γ len h p u){m:List (D×AV)}(k:iU γ len h m ps):iU γ len h (dw (.str s) p m) (stored ps s u):=by
 refine gR kM ?_;unfold dw;refine gR (Ak k ..) ?_
 split
 ·exact rJ d k
 ·exact Al os d k
theorem Ao:∀{as:List (D×AV)} {bT:List (Str×zo)},PsK fx c as bT->as.all (λp=>fX p.2)=true->∀{m:List (D×AV)} {ps:List (Str×zo)},iU c.γ c.g.length c.s.heap m ps->
  iU c.γ c.g.length c.s.heap (as.foldl (λm kv=>dw kv.1 kv.2 m) m) (merged ps bT)
 |[],_,h,_,m,ps,k=>by obtain rfl:_=_:=h;exact k
 |(_,a)::r,_,⟨s,v,t,rfl,rfl,o,x,y⟩,hw,m,ps,k=>by
  simp only[Z9,zY] at hw;exact Ao y hw.2 (Am o (x.lT hw.1) k)
theorem df(ho:h.get? a=some o)(e:o={cls:=.type "dict",data:=.dict #[]}):h.DictOf (zR prog w) a []:=by subst e;exact⟨_,#[],0,ho,⟨rfl,rfl,by trivial⟩,rfl,λ_ he=>by simp at he,.nil,adH⟩
theorem O0{ps:pT}(h0:ps.len≠0)(hl:ps.len<=15)(h:AllP (ai A call fx) ps):ai A call fx (.nd ps p):=λc r I er=>by
 have z:=I.m7 (ae.push c.s {cls:=.type "dict",data:=.dict #[]}) (cx c.γ.R c.s.heap.objs.size .aM) (vU rfl);refine wpAny_Dict_pairs (knd:=zR prog w) (qm p ps) (λe=>h0 (by refine gL (rH p ps ..) (gR e ?_);rfl)) (gR (rH ..) hl) (Cc p ps h z.1 z.2 er λas c2 vs er I2 K2 V2 fT=>?_);have er:=er.bO;refine zg (λhg hw=>?_) (aa er.1);refine ze (m8 V2 (aa hg).1) λbT U6=>(zg (λC P=>?_) U6);obtain⟨z1,z2⟩:=fT.x.aM c.s.heap.objs.size _ bw (zq _ rfl);refine⟨bT,C,df z2 rfl,λh' hm vf=>?_⟩;obtain⟨I3,K3,sb⟩:=I2.aca K2 (ao _) z1 z2 rfl (cX.cU vf) (by refine ze hm λ_ t6=>(ze t6 λ_ U7=>(ze U7 λ_ U8=>(zg (λq _=>?_) U8)));exact zp.mpr ⟨_,q⟩) (.g c2.g.length false);have z:=gu (o:=.dict (as.foldl (λm kv=>dw kv.1 kv.2 m) [])) I3 (.refl _) (cx c2.γ.R c.s.heap.objs.size (.g c2.g.length false)) (c.s.heap.objs.size,0) (λx=>.inl rfl)
  ⟨rj,.inl ⟨merged [] bT,xP (P:=λa=>h'.DictOf (zR prog w) a _) hm,(Ao P hw (m:=[]) rfl).au sb (zN _) λj hj=>if_neg (zU hj)⟩⟩
 exact⟨.o c2.g.length,⟨⟨_,_,bV c2.γ.aI c2.g.length (c.s.heap.objs.size,0)⟩,c2.e,_,_⟩,er.2.1.symm,rfl,z.1,K3.trans z.2,rh,vV⟩
theorem J5:ai A call fx (.nd .nil p):=λc r I er=>by
 refine wpAny_Dict_empty ?_;have z:=gu (o:=.dict []) I (ae.push c.s {cls:=.type "dict",data:=.dict #[]}) (cx c.γ.R c.s.heap.objs.size (.g c.g.length false)) (c.s.heap.objs.size,0) (vU rfl)
  ⟨rj,.inl ⟨[],xP (P:=λa=>Heap.DictOf (zR prog w) _ a _) (df (zq _ rfl) rfl),rfl⟩⟩
 exact⟨.o c.g.length,⟨⟨_,_,bV c.γ.aI c.g.length (c.s.heap.objs.size,0)⟩,c.e,_,_⟩,er.1.symm,rfl,z.1,z.2,rh,vV⟩
end
section
noncomputable def lA(γ:Gh)(len:Nat)(h:yi):List AV->List zo->Prop
 |[],vs=>vs=[]
 |a::r,vs=>c8 λv t=>aG (vs=v::t) (cN γ len h a v) (lA γ len h r t)
def J6(A:ZV)(γ:Gh)(h:yi):Prop:=∀l,A.frames=some l->∀env∈l,env.scope.kind≠.module/\∃a,aG (env.frame=some a) (γ.R a=.fr) (∃m,h.Ns a m)
def iE(A:ZV)(fx:Fx):Prop:=∀l,A.frames=some l->∀env∈l,env.scope.kind≠.module/\∃a,env.frame=some a/\(a∈fx.out\/a=fx.env.locals)
def bS(A:ZV)(call:Call):Prop:=∀(f:Nat) (vs:List AV) (vals:List zo) (γ:Gh) (g:G) (s:zt) (R:yX->zt->Prop),
 aS γ g s->J6 A γ s.heap->lA γ g.length s.heap vs vals->call f vs g≠.no->
 (∀a g' γ' v s',call f vs g=.ok (a,g')->aS γ' g' s'->ak γ g.length s.heap γ' g'.length s'.heap->cN γ' g'.length s'.heap a v->R (.ok (.ret v)) s')->
 (∀x p g' γ' s',call f vs g=.ex p g'->X γ' s'.heap x p->aS γ' g' s'->ak γ g.length s.heap γ' g'.length s'.heap->R (.error x) s')->
 ZH (zv prog w) A (.call (.ref (T.fa f)) ⟨vals,[]⟩) R s
end
section
variable{call:Call}
theorem lA.au{n:Nat}(k:Sub (lk γ.R h) (lk γ'.R h'))(hl:n<=n')(hp:∀k,k<n->γ'.aI k=γ.aI k):
  ∀{as:List AV} {vs:List zo},lA γ n h as vs->lA γ' n' h' as vs
 |[],_,x=>x
 |_::_,_,⟨v,t,e,a,b⟩=>⟨v,t,e,a.au k hl hp,lA.au k hl hp b⟩
theorem Ep.lT:∀{as:List AV} {vs:List zo},Ep fx c as vs->as.all fX=true->lA c.γ c.g.length c.s.heap as vs
 |[],_,h,_=>h
 |_::_,_,⟨v,t,e,a,b⟩,n=>by
  simp only[Z9,zY] at n;exact⟨v,t,e,a.lT n.1,Ep.lT b n.2⟩
theorem lA.length{n:Nat}:∀{as:List AV} {vs:List zo},lA γ n h as vs->vs.length=as.length
 |[],_,h=>by obtain rfl:_=_:=h;rfl
 |_::_,_,⟨v,t,e,_,b⟩=>by refine gR e ?_;simp[lA.length b]
noncomputable def bX(γ:Gh):Gh:={γ with R:=λa=>match γ.R a with |.own _=>.aM |.sys=>.fr |r=>r}
theorem bM:(bX γ).R a=.free↔γ.R a=.free:=by refine(?_:(match γ.R a with |.own _=>Role.aM |.sys=>.fr |r=>r)=_↔_);cases q:γ.R a <;> simp
theorem wg{n:Nat}{k:Bool}:(bX γ).R a=.g n k↔γ.R a=.g n k:=by refine(?_:(match γ.R a with |.own _=>Role.aM |.sys=>.fr |r=>r)=_↔_);cases q:γ.R a <;> simp
theorem fz:(bX γ).R a=.fr↔(γ.R a=.fr\/γ.R a=.sys):=by refine(?_:(match γ.R a with |.own _=>Role.aM |.sys=>.fr |r=>r)=_↔_);cases q:γ.R a <;> simp
theorem dg:(bX γ).R a=.aM↔(γ.R a=.aM\/∃i,γ.R a=.own i):=by refine(?_:(match γ.R a with |.own _=>Role.aM |.sys=>.fr |r=>r)=_↔_);cases q:γ.R a <;> simp
theorem l5 γ h:Sub (lk γ.R h) (lk (bX γ).R h):=λb o e=>let⟨r,e'⟩:=aw e;aB (bM.mpr r) e'
theorem aS.bX(I:aS γ g s):aS (bX γ) g s where
 objs:=λn o e=>(I.objs n o e).au (γ':=Lw.bX γ) (λa o r e=>⟨bM.mpr r,e⟩) (zm _) (zr.mp e).1 (λ_ _=>rfl) (λa o j r e=>⟨wg.mpr r,e⟩)
 live:=λa r=>I.live a λh=>r (bM.mpr h)
 top:=λa o e=>⟨bM.mpr (I.top a o e).1,(I.top a o e).2⟩
 os:=I.os
 gens:=I.gens
noncomputable def back(γ γ':Gh):Gh:=⟨λa=>match γ.R a with |.own i=>.own i |.sys=>.sys |_=>γ'.R a,γ.own,γ'.aI⟩
theorem gG:∀ks:List aA,bK (ks.map aV)=true
 |[]=>rfl
 |.i _::r=>gG r
 |.s _::r=>gG r
section
variable{n:Nat}{P:zJ->Prop}(k:∀b o,¬P b->lk γ.R h b=some o->lk γ'.R h b=some o)(hd:∀b o,P b->lk γ.R h b=some o->o.cls=.type "dict")(hp:γ'.aI=γ.aI)
include k hd hp
theorem cN.eP:∀{a:AV} {v:zo},qQ a=true->cN γ n h a v->cN γ' n h a v
 |.d p,_,q,x=>DR.eP k hd q x
 |.o m,_,_,x=>⟨by refine gR hp ?_;exact x.1,x.2⟩
 |.w _,_,_,x=>x
theorem iU.eP:∀{es:List (D×AV)} {ps:List (Str×zo)},es.all (λe=>nodict e.1&&qQ e.2)=true->iU γ n h es ps->iU γ' n h es ps
 |[],_,_,x=>x
 |(_,_)::_,_,q,⟨s,v,t,e,z,y,a,b⟩=>by
  simp only[Z9,zY] at q;exact⟨s,v,t,e,z,y,cN.eP k hd hp q.1.2 a,iU.eP q.2 b⟩
theorem jo.eP:∀{es:List (D×AV)} {xs:List (List aA×zJ×zo)},es.all (λe=>nodict e.1&&qQ e.2)=true->jo γ n h es xs->jo γ' n h es xs
 |[],_,_,x=>x
 |(_,_)::_,_,q,⟨ks,a,v,t,e,z,r,b,c⟩=>by
  simp only[Z9,zY] at q;exact⟨ks,a,v,t,e,z,DR.eP k hd (gG ks) r,cN.eP k hd hp q.1.2 b,jo.eP q.2 c⟩
theorem oN.eP:∀{es:List (Nat×AV)} {ps:List (Str×zo)},es.all (λe=>qQ e.2)=true->oN γ n h es ps->oN γ' n h es ps
 |[],_,_,x=>x
 |(_,_)::_,_,q,⟨v,t,e,a,b⟩=>by
  simp only[Z9,zY] at q;exact⟨v,t,e,cN.eP k hd hp q.1 a,oN.eP q.2 b⟩
theorem dW.eP(hg:∀a m b,γ.R a=.g m b->γ'.R a=.g m b):∀{o:bW},gT o=true->dW γ n h m o->dW γ' n h m o
 |.list l,q,⟨r,vs,j,e,d⟩=>⟨by refine gR hp ?_;exact hg _ _ _ r,vs,j,by refine gR hp ?_;exact e,aU.eP k hd q d⟩
 |.dict es,q,⟨r,.inl ⟨ps,e,d⟩⟩=>⟨by rw[hp];exact hg _ _ _ r,.inl ⟨ps,by refine gR hp ?_;exact e,iU.eP k hd hp q d⟩⟩
 |.dict es,q,⟨r,.inr ⟨ps,e,d⟩⟩=>⟨by rw[hp];exact hg _ _ _ r,.inr ⟨ps,by refine gR hp ?_;exact e,jo.eP k hd hp q d⟩⟩
 |.inst c fs,q,⟨r1,r2,e,ps,d,f⟩=>⟨by refine gR hp ?_;exact hg _ _ _ r1,by refine gR hp ?_;exact hg _ _ _ r2,by refine gR hp ?_;exact e,ps,by refine gR hp ?_;exact d,oN.eP k hd hp q f⟩
end
structure ug(γ:Gh)(h:yi)(P:zJ->Prop)(lP:Gh):Prop where
 own:∀a,P a->(∃i,γ.R a=.own i)/\∀o,h.get? a=some o->o.cls=.type "dict"
 free:∀a,lP.R a=.free↔(γ.R a=.free\/P a)
 aM:∀a,lP.R a=.aM↔((γ.R a=.aM\/∃i,γ.R a=.own i)/\¬P a)
 fr:∀a,lP.R a=.fr↔(γ.R a=.fr\/γ.R a=.sys)
 g:∀a n k,lP.R a=.g n k↔γ.R a=.g n k
 aI:lP.aI=γ.aI
theorem ug.bX(γ:Gh)(h:yi):ug γ h (λ_=>False) (bX γ):=
 ⟨λ_ x=>x.elim,λa=>by rw[bM];simp,λa=>by rw[dg];simp,λa=>fz,λa n k=>wg,rfl⟩
theorem ug.rK{P:zJ->Prop}{lP:Gh}(L:ug γ s.heap P lP)(I:aS γ g s):aS lP g s where
 objs:=λn o e=>(I.objs n o e).au (γ':=lP) (λa o r e=>⟨(L.free a).mpr (.inl r),e⟩) (zm _) (zr.mp e).1 (λk _=>by exact gR L.aI rfl) (λa o j r e=>⟨(L.g a _ _).mpr r,e⟩)
 live:=λa r=>I.live a λh=>r ((L.free a).mpr (.inl h))
 top:=λa o e=>⟨(L.free a).mpr (.inl (I.top a o e).1),(I.top a o e).2⟩
 os:=I.os
 gens:=I.gens
theorem Inv.back(I:Inv fx c){P:zJ->Prop}{lP:Gh}(L:ug c.γ c.s.heap P lP){γ':Gh}{g':G}(I':aS γ' g' s')(K:ak lP c.g.length c.s.heap γ' g'.length s'.heap)(nd:(∃a,P a)->IU g'=true):
  Inv fx ⟨back c.γ γ',c.e,g',s'⟩/\Ext c ⟨back c.γ γ',c.e,g',s'⟩/\(∀a v,((∃a,P a)->qQ a=true)->cN γ' g'.length s'.heap a v->cN (back c.γ γ') g'.length s'.heap a v):=by
 have mine:∀a,(∃i,c.γ.R a=.own i)->(γ'.R a=.aM\/(P a/\γ'.R a=.free))/\∃o,c.s.heap.get? a=some o/\s'.heap.get? a=some o:=λa r=>by
  obtain⟨o,ho⟩:=zp.mp (I.g.live a (by obtain⟨i,r⟩:=r;refine gR (r ..) ?_;simp));by_cases p:P a
  ·obtain⟨z,e⟩:=K.j7 a o ((L.free a).mpr (.inr p)) ho
   exact⟨.inr ⟨p,z⟩,o,ho,e⟩
  ·obtain⟨z,e⟩:=K.aM a o ((L.aM a).mpr ⟨.inr r,p⟩) ho
   exact⟨.inl z,o,ho,e⟩
 have frs:∀a,(c.γ.R a=.fr\/c.γ.R a=.sys)->γ'.R a=.fr/\c8 λo o'=>aG (c.s.heap.get? a=some o) (s'.heap.get? a=some o') (bJ o o'):=λa r=>by
  refine ag λ_ k=>?_;obtain⟨o,ho⟩:=zp.mp (I.g.live a (by rcases r with r |r <;> refine gR (r ..) ?_ <;> simp));obtain⟨z,o',e,q⟩:=K.fr a o ((L.fr a).mpr r) ho;refine k ?_;exact⟨z,o,o',ho,e,q⟩
 have same:∀a r,γ'.R a=r->r≠.aM->r≠.fr->(r=.free->¬P a)->(Lw.back c.γ γ').R a=r:=λa r h n n' np=>by
  refine(?_:(match c.γ.R a with |.own i=>Role.own i |.sys=>.sys |_=>γ'.R a)=r);cases q:c.γ.R a with
  |own i=>
   rcases(mine a ⟨i,q⟩).1 with z |⟨p,z⟩
   ·exact absurd (h▸z) n
   ·exact absurd p (np (h▸z))
  |sys=>exact absurd (h▸(frs a (.inr q)).1) n'
  |_=>exact h
 have hf:∀a o,¬P a->γ'.R a=.free->s'.heap.get? a=some o->(Lw.back c.γ γ').R a=.free/\s'.heap.get? a=some o:=λa o np r e=>⟨same a _ r (by simp) (by simp) λ_=>np,e⟩;have hg:∀a m b,γ'.R a=.g m b->(Lw.back c.γ γ').R a=.g m b:=λa m b r=>same a _ r (by simp) (by simp) (by simp);have other:∀a,c.γ.R a=.free\/c.γ.R a=.aM\/c.γ.R a=.fr->(Lw.back c.γ γ').R a=γ'.R a:=λa h=>by
  refine(?_:(match c.γ.R a with |.own i=>Role.own i |.sys=>.sys |_=>γ'.R a)=_);rcases h with h |h |h <;> exact gR (h ..) rfl
 have fr0:∀a o,c.γ.R a=.fr->c.s.heap.get? a=some o->(Lw.back c.γ γ').R a=.fr/\∃o',s'.heap.get? a=some o'/\bJ o o':=λa o r e=>by
  refine ag λ_ k=>?_;obtain⟨z,o1,o',e1,e2,q⟩:=frs a (.inl r);rw[e] at e1;obtain rfl:=zh e1;refine k ?_;exact⟨by refine gR (other a (.inr (.inr r)) ..) ?_;exact z,o',e2,q⟩
 have Fv:∀a o,c.γ.R a=.sys->c.s.heap.get? a=some o->(Lw.back c.γ γ').R a=.sys/\∃o',s'.heap.get? a=some o'/\bJ o o':=λa o r e=>by
  refine ag λ_ k=>?_;obtain⟨z,o1,o',e1,e2,q⟩:=frs a (.inr r);rw[e] at e1;obtain rfl:=zh e1;refine k ?_;exact⟨by show(match c.γ.R a with |.own i=>Role.own i |.sys=>.sys |_=>γ'.R a)=_;exact gR (r ..) rfl,o',e2,q⟩
 have nP:∀a,(c.γ.R a=.free\/c.γ.R a=.aM\/c.γ.R a=.sys)->¬P a:=λa r p=>by
  obtain⟨⟨i,q⟩,_⟩:=L.own a p;rw[q] at r;simp at r
 have hf0:∀a o,c.γ.R a=.free->c.s.heap.get? a=some o->(Lw.back c.γ γ').R a=.free/\s'.heap.get? a=some o:=λa o r e=>by
  obtain⟨z,e'⟩:=K.j7 a o ((L.free a).mpr (.inl r)) e;exact⟨by refine gR (other a (.inl r) ..) ?_;exact z,e'⟩
 have hp0:∀k,k<c.g.length->(Lw.back c.γ γ').aI k=c.γ.aI k:=λk hk=>by refine gL (L.aI ..) ?_;exact K.aI k hk
 have U9:∀a o,c.γ.R a=.aM->c.s.heap.get? a=some o->γ'.R a=.aM/\s'.heap.get? a=some o:=λa o r e=>K.aM a o ((L.aM a).mpr ⟨.inl r,nP a (.inr (.inl r))⟩) e;have slots:∀ov i sl,aJ c.γ c.g.length c.s.heap ov i sl->aJ (Lw.back c.γ γ') g'.length s'.heap ov i sl:=λov i sl x=>
  aJ.au (γ:=c.γ) (γ':=Lw.back c.γ γ') (n:=c.g.length) (h:=c.s.heap) hf0 K.len hp0 (λa o r e=>by
   rcases r with r |r
   ·refine ag λ_ k=>?_
    obtain⟨_,o',h1,h2⟩:=mine a ⟨i,r⟩;rw[e] at h1;obtain rfl:=zh h1;refine k ?_;refine⟨?_,h2⟩;refine(?_:(match c.γ.R a with |.own i=>Role.own i |.sys=>.sys |_=>γ'.R a)=_);exact gR (r ..) rfl
   ·obtain⟨z,e'⟩:=U9 a o r e
    exact⟨by exact gR (other a (.inr (.inl r)) ..) (gR (z ..) (gR (r ..) rfl)),e'⟩) (λ_=>rfl) x
 have hk:∀b o,¬P b->lk γ'.R s'.heap b=some o->lk (Lw.back c.γ γ').R s'.heap b=some o:=λb o np e=>by
  obtain⟨z,e'⟩:=aw e;obtain⟨z1,z2⟩:=hf b o np z e';exact aB z1 z2
 have hd:∀b o,P b->lk γ'.R s'.heap b=some o->o.cls=.type "dict":=λb o p e=>by
  obtain⟨i,d⟩:=L.own b p;obtain⟨_,o',h1,h2⟩:=mine b i;rw[(aw e).2] at h2;obtain rfl:=zh h2;exact d _ h1
 refine⟨⟨⟨λn o e=>?_,λa r=>?_,λa o e=>?_,I'.os,I'.gens⟩,⟨?_,λj x a hx=>?_,I.q6 fr0⟩⟩,⟨⟨hf0,λa o r e=>?_,K.len,hp0,fr0⟩,rfl,λ_ _ h=>h,Fv,λ_=>rfl⟩,λa v an x=>?_⟩
 ·by_cases q:∃a,P a
  ·exact dW.eP hk hd rfl hg (zC.mp (nd q) o (zy e)) (I'.objs n o e)
  ·exact dW.au (γ:=γ') (γ':=Lw.back c.γ γ') (n:=g'.length) (h:=s'.heap) (λa o r e=>hf a o (λp=>q ⟨a,p⟩) r e) (zm _) (zr.mp e).1 (λ_ _=>rfl) (λa o j r e=>⟨hg a _ _ r,e⟩) (I'.objs n o e)
 ·by_cases q:(∃i,c.γ.R a=.own i)
  ·obtain⟨_,o,_,h⟩:=mine a q;exact zp.mpr ⟨o,h⟩
  ·by_cases q':c.γ.R a=.sys
   ·obtain⟨_,_,o',_,h,_⟩:=frs a (.inr q');exact zp.mpr ⟨o',h⟩
   ·refine I'.live a λh=>r (same a _ h (by simp) (by simp) λ_ p=>q (L.own a p).1)
 ·obtain⟨r,e'⟩:=I'.top a o e
  exact hf a o (nP a (.inl (I.g.top a o e).1)) r e'
 ·obtain⟨m,a,b,f⟩:=I.f.ns
  refine⟨m,bJ.ns (λo e=>(Fv _ o b e).2) a,?_,λj x hx fc e=>slots _ j fc (f j x hx fc e)⟩;refine(?_:(match c.γ.R fx.env.locals with |.own i=>Role.own i |.sys=>.sys |_=>γ'.R fx.env.locals)=_);exact gR (b ..) rfl
 ·refine ag λ_ k=>?_
  obtain⟨ov,b,r,f⟩:=I.f.cells j x a hx;obtain⟨o0,ho0,_⟩:=id b;refine k ?_;refine⟨ov,bJ.cell (λo e=>by rcases r.1 with r |r;exact(Fv a o r e).2;exact(fr0 a o r e).2) b,⟨?_,λhk=>(Fv a o0 (r.2 hk) ho0).1⟩,λfc e=>slots _ j fc (f fc e)⟩;rcases r.1 with r |r
  ·exact .inl (Fv a o0 r ho0).1
  ·exact .inr (fr0 a o0 r ho0).1
 ·obtain⟨z,e'⟩:=U9 a o r e
  exact⟨by show(Lw.back c.γ γ').R a=_;refine gR (other a (.inr (.inl r)) ..) ?_;exact z,e'⟩
 ·by_cases q:∃a,P a
  ·exact cN.eP hk hd rfl (an q) x
  ·exact cN.au (γ:=γ') (γ':=Lw.back c.γ γ') (n:=g'.length) (h:=s'.heap) (λb o e=>hk b o (λp=>q ⟨b,p⟩) e) (zm _) (λ_ _=>rfl) x
theorem rM{f:Nat}{vs:List AV}:(IP f vs g).run call=call f vs g:=by refine(?_:(W.of (call f vs g)).run call=_);cases call f vs g <;> rfl
theorem eQ(hc:bS A call)(hk:iE A fx)(I:Inv fx c)(K:Ext c₀ c){P:zJ->Prop}{lP:Gh}(L:ug c.γ c.s.heap P lP){f:Nat}{vs:List AV}(V:lA lP c.g.length c.s.heap vs vals){r:R β}{k:AV×G->W β}
  (er:Rn call ((IP f vs c.g).bind k) r) (nd:∀a g',Rn call (k (a,g')) r->(∃a,P a)->qQ a=true/\IU g'=true) {Q:yX->zt->Prop}
  (q:∀a c' v,Rn call (k (a,c'.g)) r->c'.e=c.e->Inv fx c'->Ext c₀ c'->du fx c' a v->Ext c c'->Q (.ok (.ret v)) c'.s)
  (qe:∀x s',XE c₀ r x s'->Q (.error x) s'):
  ZH (zv prog w) A (.call (.ref (T.fa f)) ⟨vals,[]⟩) Q c.s:=by
 refine hc f vs vals lP c.g c.s _ (L.rK I.g) (λl hl env he=>?_) V (λe=>er.vd.2 (rM.trans e)) (λa g' γ' v s' e I' K' V'=>?_) λx p g' γ' s' e hx I' K'=>?_
 ·refine ag λ_ k=>(zg (λe0 Va=>?_) (hk l hl env he));refine ze Va λa Vb=>?_;obtain⟨e1,e2⟩:=Vb
  refine k ?_;rcases e2 with e2 |rfl
  ·exact⟨e0,a,e1,(L.fr a).mpr (.inl (I.f.out a e2).1),(I.f.out a e2).2⟩
  ·obtain⟨m,n,b,_⟩:=I.f.ns
   exact⟨e0,_,e1,(L.fr _).mpr (.inr b),m,n⟩
 ·have e2:=er.at (rM.trans e)
  have z:=I.back L I' K' λh=>(nd a g' e2 h).2;exact q a ⟨back c.γ γ',c.e,g',s'⟩ v e2 rfl z.1 (K.trans z.2.1) (du.Jf (z.2.2 a v (λh=>(nd a g' e2 h).1) V')) z.2.1
 ·exact qe x s' (XE.from K ⟨p,g',γ',er.exc (rM.trans e),hx,I',⟨λa o r e=>K'.j7 a o ((L.free a).mpr (.inl r)) e,λa o r e=>K'.aM a o ((L.aM a).mpr ⟨.inl r,λp=>let⟨⟨i,q⟩,_⟩:=L.own a p;rno q r rfl⟩) e,K'.len,λk hk=>(K'.aI k hk).trans (gR L.aI rfl),λa o r e=>K'.fr a o ((L.fr a).mpr (.inl r)) e⟩,
   λa o r e=>have z:=K'.fr a o ((L.fr a).mpr (.inr r)) e;⟨.inl z.1,z.2⟩⟩)
theorem m9(hc:bS A call)(hk:iE A fx)(I:Inv fx c)(K:Ext c₀ c){f:Nat}{vs:List AV}(V:lA c.γ c.g.length c.s.heap vs vals)(ee:e=c.e){r:R (AV×Env×G)}
  (er:Rn call ((IP f vs c.g).bind λz=>.ok (z.1,e,z.2)) r):zx (zv prog w) A (ZP (.ref (T.fa f)) vals) (QE fx c₀ r) (XE c₀ r) c.s:=
 wpAny_call (eQ hc hk I K (.bX _ _) (V.au (γ':=bX c.γ) (l5 _ _) (zm _) λ_ _=>rfl) er (λ_ _ _ h=>h.elim λ_ h=>h.elim) (λa c2 v h ec I2 K2 V2 _=>⟨a,c2,ec▸ee▸h.1.symm,rfl,I2,K2,V2⟩) λ_ _ h=>h)
theorem O1(ok:bF fx)(lk:iE A fx)(hc:bS A call){f:Nat}(hf:(f,x)∈T.xA)(hk:fx.env.kindOf (T.tb.nm x)=some .globalImplicit)(hd:(T.tb.nm x==("__debug__"))=false)
  (h:gm (ai A call fx) es) (hs:fY es):ai A call fx (.cf f x es pf p):=λc r I er=>by
 refine zg (λVc Fw=>?_) (tok.xA f x hf);refine ze Vc λmg Ve=>(zg (λh1 h2=>?_) Ve);exact bC (λQ q=>f6 ok I.g h1 h2 hk hd q) (callWith_of (gR (f7 p hs ..) rfl) (keeps_K Fw) (de p hs
  (d8 p _ h hs I (.refl _) er λas c1 vs er I1 K1 V1 _ _=>⟨I1.g.K,m9 hc lk I1 K1 (V1.lT er.bO.1) rfl er.bO.2⟩)))
theorem Cd(I:Inv fx c):∀{as:List AV} {vals:List zo} {vs:List AV},Ep fx c as vals->lend c.e as=some vs->
  ∀lP,(∀a,lP.R a=.free↔(c.γ.R a=.free\/c8 λi bT=>aG (.w i∈as) (c.e[i]? =some (.od bT)) (a=c.γ.own i)))->lP.aI=c.γ.aI->lA lP c.g.length c.s.heap vs vals:=by
 intro as vals vs V hl lP IA vT;have sb:Sub (lk c.γ.R c.s.heap) (lk lP.R c.s.heap):=λb o e=>by refine zg (λr e'=>?_) (aw e);exact aB ((IA b).mpr (.inl r)) e'
 have go:∀Vf vals vs,(∀a∈Vf,a∈as)->Ep fx c Vf vals->lend c.e Vf=some vs->lA lP c.g.length c.s.heap vs vals:=by
  intro Vf
  induction Vf with
  |nil=>intro vals vs _ V h;obtain rfl:=zh h;exact V
  |cons a r ih=>
   intro vals vs hm V h;obtain⟨v,t,rfl,va,vr⟩:=V;have lO:∀a∈r,a∈as:=λa h=>hm a (.tail _ h);cases a with
   |w i=>
    obtain⟨sl,hs,h⟩:=bind_some h;obtain⟨bT,ek,h⟩:=bind_some h;refine ze (map_some h) λfR Fy=>(zg (λhv tA=>?_) Fy);refine gL tA ?_;obtain⟨rfl,x,o,hx⟩:=va;cases sl with
    |od ac9=>
     refine ag λ_ k=>?_;cases ek;refine ze (slot_of I hx hs) λov Vg=>(zg (λk _=>?_) Vg);obtain⟨_,Iz,ps,e,dk⟩:=k;refine ze (id e) λob Fz=>(ze Fz λes iV=>(ze iV λep ud=>(zg (λho rest=>?_) ud)));exact k ⟨_,t,rfl,⟨c.γ.own i,ps,rfl,I.g.jA (bA Iz rfl),⟨ob,es,ep,aB ((IA _).mpr (.inr ⟨i,bT,hm _ (.head _),hs,rfl⟩)) ho,rest⟩,iL.sub sb dk⟩,ih t fR lO vr hv⟩
    |_=>exact ns ek
   |d p=>
    obtain⟨fR,hv,rfl⟩:=Zk.mp h;exact⟨v,t,rfl,cN.au (γ:=c.γ) (γ':=lP) sb (zm _) (λ_ _=>by rw[vT]) va,ih t fR lO vr hv⟩
   |o n=>
    obtain⟨fR,hv,rfl⟩:=Zk.mp h;exact⟨v,t,rfl,cN.au (γ:=c.γ) (γ':=lP) sb (zm _) (λ_ _=>by rw[vT]) va,ih t fR lO vr hv⟩
 exact go as vals vs (λ_ h=>h) V hl
def ig(c:ah)(as:List AV)(a:zJ):Prop:=c8 λi bT=>aG (.w i∈as) (c.e[i]? =some (.od bT)) (a=c.γ.own i)
open Classical in
def ME(c:ah)(as:List AV):Gh:={c.γ with R:=λa=>if ig c as a then .free else(bX c.γ).R a}
open Classical in
theorem FA(I:Inv fx c){as:List AV}(V:Ep fx c as vals):ug c.γ c.s.heap (ig c as) (ME c as):=by
 have own:∀a,ig c as a->(∃i,c.γ.R a=.own i)/\∀o,c.s.heap.get? a=some o->o.cls=.type "dict":=by
  rintro a ⟨i,bT,hm,hs,rfl⟩;have hx:c8 λx o=>(i,x,o)∈fx.lay:=by
   clear I
   induction as generalizing vals with
   |nil=>cases hm
   |cons b r ih=>
    refine ag λ_ k=>?_;obtain⟨v,t,rfl,va,vr⟩:=V;refine k ?_;rcases zK.mp hm with rfl |hm
    ·exact va.2
    ·exact ih vr hm
  obtain⟨x,o,hx⟩:=hx;refine ze (slot_of I hx hs) λov Vh=>?_;obtain⟨k,_⟩:=Vh;refine zg (λ_ Vi=>?_) k;refine zg (λIz ED=>?_) Vi;refine ze ED λps t6=>(zg (λVj dk=>?_) t6);refine ze Vj λob Vk=>(ze Vk λes Vl=>(ze Vl λep Vm=>(zg (λho Vn=>?_) Vm)));refine zg (λhc _=>?_) Vn;exact⟨⟨i,Iz⟩,λo e=>by rw[ho] at e;obtain rfl:=zh e;exact hc.1⟩
 refine⟨own,λa=>?_,λa=>?_,λa=>?_,λa n k=>?_,rfl⟩
 ·refine(?_:(if ig c as a then Role.free else(bX c.γ).R a)=_↔_)
  by_cases q:ig c as a
  ·simp[q]
  ·refine gR (if_neg q ..) ?_;rw[bM];simp[q]
 ·refine(?_:(if ig c as a then Role.free else(bX c.γ).R a)=_↔_)
  by_cases q:ig c as a
  ·simp[q]
  ·refine gR (if_neg q ..) ?_;rw[dg];simp[q]
 ·refine(?_:(if ig c as a then Role.free else(bX c.γ).R a)=_↔_)
  by_cases q:ig c as a
  ·refine ag λ_ k=>(zg (λVo _=>?_) (own a q));obtain⟨i,r⟩:=Vo
   refine k (gR (if_pos q ..) (gR r ?_));simp
  ·refine gR (if_neg q ..) ?_;rw[fz]
 ·refine(?_:(if ig c as a then Role.free else(bX c.γ).R a)=_↔_)
  by_cases q:ig c as a
  ·refine zg (λVp _=>?_) (own a q);obtain⟨i,r⟩:=Vp
   refine gR (if_pos q ..) (gR r ?_);simp
  ·refine gR (if_neg q ..) ?_;rw[wg]
theorem wh(I:Inv fx c){n f:Nat}(e:c.g[n]? =some (.inst cl fs))(hm:(cl,m,f)∈T.vA)(hs:BE m fs=none){pl:Sem Bool}{Q:zo×List zo->zt->Prop}(q:Q (.ref (T.fa f),[.ref (c.γ.aI n).1]) c.s):
  zx (zv prog w) A (getMethod (.ref (c.γ.aI n).1) (T.tb.nm m) pl) Q E c.s:=by
 obtain⟨od,ps,hi,ho,hd,hf,hl⟩:=lY (I.g.objs n _ e);refine zg (λk1 Vq=>?_) (tok.vA cl m f hm);refine zg (λk2 Vr=>?_) Vq;refine zg (λk3 Vs=>?_) Vr;refine zg (λk4 _=>?_) Vs;refine method_fn I.g.K hi k3 k4 k1 k2 ?_ q;refine(?_:(lookIn (T.tb.nm m) od).map _=_);refine gR (hl ..) (gR ((rn hf).2 hs ..) ?_);rfl
theorem As p (hs:fY es) (hl:es.len<29):methodCallForm ((cn T.tb.nm es).length+([]:List Keyword).length) (backTo p (starEach (cn T.tb.nm es) fx.env)) (backToKw p (keywordEach [] fx.env))=true:=by unfold methodCallForm;rewrite [show backToKw p (keywordEach [] fx.env)=[] from rfl];refine gR (m3 p hs ..) (gR (mZ ..) ?_);exact decide_eq_true (ZK hl)
theorem FC{o:Ye}(bk:(pa.endLine==p.line)=true):adj true o env pa p=pure p:=by unfold adj;exact gR bk rfl
theorem O2(lk:iE A fx)(hc:bS A call){a:CE}{f:Nat}(hb:d9 (aH T.tb.nm a)=true)(hm:∀c,(T.tb.fn f).bind (·.own)=some c->(c,m,f)∈T.vA)
  (bk:(pa.endLine==p.line)=true) (hl:es.len<29)
  (ha:ai A call fx a) (h:gm (ai A call fx) es) (hs:fY es):ai A call fx (.cm a f m es pa p):=λc r I er=>by
 refine gR (arm_eval_Call ..) (gR (ft hb ..) ?_);refine zf (ha.d7 I (.refl _) er λa1 c1 v1 er I1 K1 V1 _=>zf (wpAny_standAt (er.opt λx hx er=>?_)));have er:=er.bO;refine zg (λhg hw=>?_) (aa er.1);have hw:=hm _ (of_decide_eq_true hw);obtain⟨rfl,ho⟩:=gj hx;refine gR V1.1 ?_;unfold methodCall;refine gR (As p hs hl ..) (zf (zT (wh I1 ho hw (Option.isNone_iff_eq_none.mp hg) (zf (wpAny_of_eq (FC bk) (callWith_of (by refine gR (f7 p hs ..) ?_;rfl) (keeps_K (tok.vA _ _ _ hw).2.2.2.2) (de p hs ?_)))))));refine d8 p _ h hs I1 K1 er.2 λas c2 vs er I2 K2 V2 fT _=>⟨I2.g.K,?_⟩;have J7:=zF V1.2 fT.x.len;refine gL (fT.x.aI _ V1.2 ..) ?_;cases hwn:as.all fX with
 |true=>exact m9 (vs:=.o x.1::as) hc lk I2 K2 ⟨_,vs,rfl,⟨rfl,J7⟩,V2.lT hwn⟩ rfl (by rw[hwn] at er;exact er)
 |false=>
  rw[hwn] at er;refine Rn.opt (o:=lend c2.e as) er λfR d er=>?_;have L:=FA I2 V2;exact wpAny_call (eQ (vs:=.o x.1::fR) hc lk I2 K2 L ⟨_,vs,rfl,⟨by exact gR L.aI rfl,J7⟩,Cd I2 V2 d (ME c2 as) (λa=>L.free a) rfl⟩ er (λa g' er _=>aa er.bO.1) (λa c3 v er ec I3 K3 V3 _=>⟨a,c3,ec▸er.bO.2.1.symm,rfl,I3,K3,V3⟩) λ_ _ h=>h)
end
section
variable{call:Call}
theorem FD{a:AV}(h:Sy a=true)(V:du fx c a v):v=.none:=by
 cases a with
 |d q=>
  cases q with
  |none=>exact V
  |_=>exact absurd h zi
 |_=>exact absurd h zi
theorem J8(ok:bF fx)(lk:∀C vals,iE (A.under (.builtin "type.__call__" ⟨.ref C::vals,[]⟩)) fx)(hc:∀C vals,bS (A.under (.builtin "type.__call__" ⟨.ref C::vals,[]⟩)) call)(hf:(cl,x)∈T.BK)(hk:fx.env.kindOf (T.tb.nm x)=some .globalImplicit)(hd:(T.tb.nm x==("__debug__"))=false)
  (h:gm (ai A call fx) es) (hs:fY es):ai A call fx (.new cl x es pf p):=λc r I er=>by
 refine zg (λo8 hX=>?_) (tok.BK cl x hf);refine ze o8 λmg kB=>(zg (λh1 h2=>?_) kB);refine zg (λFw rD=>?_) hX;refine zg (λhmk acb=>?_) rD;refine bC (λQ q=>f6 ok I.g h1 h2 hk hd q) (callWith_of (gR (f7 p hs ..) rfl) (keeps_K Fw) (de p hs ?_));refine d8 p _ h hs I (.refl _) er λas c1 vs er I1 K1 V1 _ _=>⟨I1.g.K,er.bO.2.opt λf hi er2=>?_⟩;refine zg (λi1 i2=>?_) (acb f hi);have G:ae c1.s {c1.s with heap:=(c1.s.heap.push emptyDict).push (instObj (T.cls cl) c1.s.heap.objs.size)}:=(ae.push c1.s emptyDict).trans (ae.push {c1.s with heap:=c1.s.heap.push emptyDict} _);have e2:((c1.s.heap.push emptyDict).push (instObj (T.cls cl) c1.s.heap.objs.size)).get? (c1.s.heap.objs.size+1)=some (instObj (T.cls cl) c1.s.heap.objs.size):=by
  have:=zq (c1.s.heap.push emptyDict) (o:=instObj (T.cls cl) c1.s.heap.objs.size) rfl
  rwa [Zp] at this
 have e3:((c1.s.heap.push emptyDict).push (instObj (T.cls cl) c1.s.heap.objs.size)).get? c1.s.heap.objs.size=some emptyDict:=zj _ (zq _ rfl);have n1:c1.s.heap.get? (c1.s.heap.objs.size+1)=none:=by
  cases q:c1.s.heap.get? (c1.s.heap.objs.size+1) with
  |none=>rfl
  |some o=>exact absurd (zZ q) (YK.mpr (zN _))
 obtain⟨I2,K2⟩:=gu (o:=.inst cl []) I1 G (cx (cx c1.γ.R c1.s.heap.objs.size (.g c1.g.length true)) (c1.s.heap.objs.size+1) (.g c1.g.length false)) (c1.s.heap.objs.size+1,c1.s.heap.objs.size)
  (λa=>by
   by_cases q:a=c1.s.heap.objs.size+1
   ·exact gR q (.inr ⟨n1,by show(ad0 _ _).isSome=true;exact gR e2 rfl⟩)
   ·by_cases q':a=c1.s.heap.objs.size
    ·exact gR q' (.inr ⟨ao _,by show(ad0 _ _).isSome=true;exact gR e3 rfl⟩)
    ·exact .inl (gR (aN q ..) (gR (aN q' ..) rfl)))
  ⟨by simp only[bV,if_true];exact bw,by simp only[bV,if_true];refine gR (aN (zU (Zl _)) ..) ?_;exact bw,by simp only[bV,if_true];exact e2,
   [],by simp only[bV,if_true];exact df e3 rfl,rfl⟩
 have J7:c1.g.length<(c1.g++[bW.inst cl []]).length:=by simp
 have Vt:(bV c1.γ.aI c1.g.length (c1.s.heap.objs.size+1,c1.s.heap.objs.size) c1.g.length).1=c1.s.heap.objs.size+1:=by simp only[bV,if_true]
 have V2:lA (⟨_,c1.γ.own,bV c1.γ.aI c1.g.length (c1.s.heap.objs.size+1,c1.s.heap.objs.size)⟩) (c1.g++[bW.inst cl []]).length _ (.o c1.g.length::as) (.ref (c1.s.heap.objs.size+1)::vs):=
  ⟨_,vs,rfl,⟨by exact gR Vt rfl,J7⟩,(V1.lT (er.bO.1)).au K2.x.sub K2.x.len K2.x.aI⟩
 refine wpAny_call (make_core (makes_of I1.g.K hmk) (looks_findIn I1.g.K i1) (λself=>bind_fn I1.g.K self i2) (.inl rfl) ?_);refine eQ (hc (T.cls cl) _) (lk (T.cls cl) _) I2 (K1.trans K2) (.bX _ _) (V2.au (γ':=bX _) (l5 _ _) (zm _) λ_ _=>rfl) er2 (λ_ _ _ h=>h.elim λ_ h=>h.elim) (λa c3 v er ec I3 K3 V3 B0=>?_) λx s' h=>h;obtain⟨hz,er⟩:=er.bO;refine⟨FD hz V3,.o c1.g.length,c3,ec▸er.1.symm,rfl,I3,K3,?_,zF J7 B0.x.len⟩;exact gR (B0.x.aI _ J7 ..) (gR Vt rfl)
end
section
variable{call:Call}
noncomputable def placeOf(fx:Fx):Option zJ->zJ
 |none=>fx.env.locals
 |some a=>a
structure FE(fx:Fx)(s s':zt)(x:Str)(o:Option zJ)(v:zo):Prop where
 same:cX (placeOf fx o) s s'
 live:(s'.heap.get? (placeOf fx o)).isSome
 val:match o with
  |none=>∀m,s.heap.Ns fx.env.locals m->s'.heap.Ns fx.env.locals λy=>if y=x then some v else m y
  |some a=>s'.heap.IsCell a (some v)
theorem O3{m m':Str->Option zo}(x:h.Ns a m)(y:h.Ns a m'):m=m':=by
 refine ag λ_ k=>(ze x λo Vu=>(ze Vu λes Vv=>(ze Vv λep Vw=>(zg (λho Vx=>?_) Vw))));refine zg (λhd Vy=>?_) Vx;refine zg (λhk hf=>?_) Vy;refine ze y λo' Vz=>?_;obtain⟨RE,ep',fK,Cb,qf,hf'⟩:=Vz;rw[ho] at fK;obtain rfl:=zh fK;replace Cb:=hd▸Cb;cases Cb;refine k ?_
 funext x
 exact gL (hf x ..) (gL (hf' x ..) rfl)
theorem nh(ok:bF fx)(I:Inv fx c){x:Str}{o:Option zJ}(hx:(i,x,o)∈fx.lay)(hk:o.isSome=true->fx.env.kindOf x=some .cell/\fx.mine x=true){Q:Unit->zt->Prop}(q:∀s',FE fx c.s s' x o v->Q () s'):
  zx (zv prog w) A (storeName fx.env x v) Q E c.s:=by
 cases o with
 |none=>
  obtain⟨m,n,_⟩:=I.f.ns;refine zg (λk1 _=>?_) (ok.loc i x hx);refine wpAny_storeName_local k1 n (λh' hn hs=>q _ ⟨.cU hs,?_,λm' n'=>gR (O3 n' n ..) hn⟩) (gR ok.kind rfl);refine ze hn λob VA=>?_;obtain⟨_,_,ho,_⟩:=VA;exact gR ho rfl
 |some a=>
  refine ag λ_ k=>(zg (λ_ VB=>?_) (ok.DC i x a hx));refine zg (λk2 _=>?_) VB;refine ze (I.f.cells i x a hx) λov VC=>?_;obtain⟨hc,_⟩:=VC;refine k (wpAny_storeName_cell ok.kind (hk rfl).1 k2 hc λh' hc' hs=>q _ ⟨.cU hs,?_,hc'⟩);refine ze hc' λob VD=>(zg (λho _=>?_) VD);exact gR ho rfl
theorem Inv.store(ok:bF fx)(I:Inv fx c)(K:ak c₀.γ c₀.g.length c₀.s.heap c.γ c.g.length c.s.heap){x:Str}{o:Option zJ}(hx:(i,x,o)∈fx.lay)(hk:o.isSome=true->fx.env.kindOf x=some .cell/\fx.mine x=true)(st:FE fx c.s s' x o v)
   {P:zJ->Prop} (f1:∀b,¬P b->γ'.R b=c.γ.R b) (f2:∀b,P b->c.γ.R b=.aM/\(∃ob,c.s.heap.get? b=some ob/\∀cv,ob.data≠.cell cv)/\(∀j y q l,(j,y,q)∈fx.lay->c.e[j]? =some (Slot.ro l)->c.γ.own j≠b)/\
   ∀b' ob,(c₀.γ.R b'=.free\/c₀.γ.R b'=.aM)->c₀.s.heap.get? b'=some ob->b'≠b) (f3:∀j,j≠i->γ'.own j=c.γ.own j) (f4:γ'.aI=c.γ.aI) 
  (hs:Sub (lk c.γ.R c.s.heap) (lk γ'.R s'.heap)->(∀b,b≠placeOf fx o->s'.heap.get? b=c.s.heap.get? b)->(c.γ.R (placeOf fx o)=.sys)->aJ γ' c.g.length s'.heap (some v) i sl):
  Inv fx ⟨γ',bh c.e i sl,c.g,s'⟩/\ak c₀.γ c₀.g.length c₀.s.heap γ' c.g.length s'.heap:=by
 have J9:c.γ.R (placeOf fx o)=.sys:=by
  cases o with
  |none=>obtain⟨m,n,r,_⟩:=I.f.ns;exact r
  |some a=>obtain⟨_,_,r,_⟩:=I.f.cells i x a hx;exact r.2 (hk rfl).2
 have nP:∀b,c.γ.R b≠.aM->¬P b:=λb h p=>h (f2 b p).1;have ne:∀b,c.γ.R b≠.sys->b≠placeOf fx o:=λb h e=>h (gR e J9);have keep:∀b ob,b≠placeOf fx o->c.s.heap.get? b=some ob->s'.heap.get? b=some ob:=λb ob h e=>(st.same.at_ b h).trans e;have hf:∀b ob,c.γ.R b=.free->c.s.heap.get? b=some ob->γ'.R b=.free/\s'.heap.get? b=some ob:=λb ob r e=>
  ⟨(f1 b (nP b (bA r rfl))).trans r,keep b ob (ne b (bA r rfl)) e⟩
 have sb:Sub (lk c.γ.R c.s.heap) (lk γ'.R s'.heap):=λb ob e=>by refine zg (λr e'=>?_) (aw e);refine zg (λz1 z2=>?_) (hf b ob r e');exact aB z1 z2
 have slots:∀ov j fc,(c8 λy q=>(j,y,q)∈fx.lay)->j≠i->(∀aQ,c.e[j]? =some aQ->aJ c.γ c.g.length c.s.heap ov j aQ)->(bh c.e i sl)[j]? =some fc->aJ γ' c.g.length s'.heap ov j fc:=by
  intro ov j fc FF hj h e;obtain⟨y',q',FF⟩:=FF;replace e:=(Z5 (Z8 hj))▸e;have k:=h fc e;cases fc with
  |un=>trivial
  |v b=>refine ze k λv VE=>(zg (λq y=>?_) VE);exact⟨v,q,cN.au (γ:=c.γ) (γ':=γ') sb (zm _) (λ_ _=>by exact gR f4 rfl) y⟩
  |ol l=>
   refine zg (λq1 VF=>?_) k;refine zg (λq2 VG=>?_) VF;obtain⟨vs,n,q3,d⟩:=VG;exact⟨by rw[f3 j hj];exact q1,by refine gR (f3 j hj ..) (gR (f1 _ (nP _ (bA q2 rfl)) ..) ?_);exact q2,vs,n,by rw[f3 j hj];exact keep _ _ (ne _ (bA q2 rfl)) q3,d.sub sb⟩
  |ro l=>
   refine zg (λq1 VH=>?_) k;refine zg (λq2 VI=>?_) VH;obtain⟨vs,n,q3,d⟩:=VI;exact⟨by rw[f3 j hj];exact q1,by refine gR (f3 j hj ..) (gR (f1 _ (λp=>(f2 _ p).2.2.1 j y' q' l FF e rfl) ..) ?_);exact q2,vs,n,by rw[f3 j hj];exact keep _ _ (ne _ (bA q2 rfl)) q3,d.sub sb⟩
  |od l=>
   refine zg (λq1 VJ=>?_) k;refine zg (λq2 VK=>?_) VJ;obtain⟨ps,q3,d⟩:=VK;exact⟨by refine gR (f3 j hj ..) ?_;exact q1,by refine gR (f3 j hj ..) (gR (f1 _ (nP _ (bA q2 rfl)) ..) ?_);exact q2,ps,by refine gR (f3 j hj ..) ?_;exact cW (λo e=>keep _ _ (ne _ (bA q2 rfl)) e) q3,iL.sub sb d⟩
 have own:∀fc,(bh c.e i sl)[i]? =some fc->aJ γ' c.g.length s'.heap (some v) i fc:=by
  intro fc e;unfold bh at e;have hi:i<c.e.length:=by have:=(zr.mp e).1;simpa using this
  rw[ZQ hi] at e;obtain rfl:=zh e;exact(hs sb st.same.at_ J9)
 refine⟨⟨⟨λn q e=>?_,λb r=>?_,λb q e=>?_,st.same.os.trans I.g.os,st.same.gens.trans I.g.gens⟩,⟨?_,λj y b hy=>?_,I.q6 λb ob r e=>⟨(f1 b (nP b (bA r rfl))).trans r,ob,keep b ob (ne b (bA r rfl)) e,.refl ob⟩⟩⟩,⟨λb ob r e=>?_,λb ob r e=>?_,K.len,λk hk=>by refine gR f4 ?_;exact K.aI k hk,λb ob r e=>?_⟩⟩
 ·exact dW.au (γ:=c.γ) (γ':=γ') (n:=c.g.length) hf (zm _) (zr.mp e).1 (λ_ _=>by exact gR f4 rfl) (λb ob k r e=>⟨(f1 b (nP b (bA r rfl))).trans r,keep b ob (ne b (bA r rfl)) e⟩) (I.g.objs n q e)
 ·by_cases p:P b
  ·refine ag λ_ k=>(zg (λr' VL=>?_) (f2 b p));refine zg (λE9 _=>?_) VL;refine ze E9 λob VM=>(zg (λho _=>?_) VM)
   exact k (zp.mpr ⟨ob,keep b ob (ne b (bA r' rfl)) ho⟩)
  ·by_cases q:b=placeOf fx o
   ·exact gR q (st.live)
   ·exact ze (zp.mp (I.g.live b (gL (f1 b p ..) r))) λob ho=>(zp.mpr ⟨ob,keep b ob q ho⟩)
 ·obtain⟨r,e'⟩:=I.g.top b q e
  exact hf b q r e'
 ·obtain⟨m,a,r,f⟩:=I.f.ns
  have rl:=(f1 _ (nP _ (bA r rfl))).trans r;cases o with
  |none=>
   refine⟨_,st.val m a,rl,λj y hy fc e=>?_⟩;by_cases q:y=x
   ·subst q
    obtain rfl:=ok.xH i j y none none hx hy;simp only[if_true];exact own fc e
   ·simp only[q,if_false]
    exact slots _ j fc ⟨y,_,hy⟩ (λh=>by subst h;exact q (ok.qc j y x none none hy hx).1) (f j y hy) e
  |some b=>
   refine⟨m,ly (λo e=>keep _ o (λe=>(ok.DC i x b hx).2.2.2 e.symm) e) a,rl,λj y hy fc e=>?_⟩;exact slots _ j fc ⟨y,_,hy⟩ (λh=>by subst h;have:=(ok.qc j y x none (some b) hy hx).2;cases this) (f j y hy) e
 ·refine ze (I.f.cells j y b hy) λov Fm=>?_;obtain⟨hc,r,f⟩:=Fm
  have np:¬P b:=λp=>by
   refine zg (λ_ Ek=>?_) (f2 b p);refine zg (λmG _=>?_) Ek;refine ze mG λob tN=>(zg (λho nc=>?_) tN);refine ze hc λob' FG=>?_;obtain⟨fK,Cb⟩:=FG;rw[ho] at fK;obtain rfl:=zh fK;exact nc _ Cb
  have rr:(γ'.R b=.sys\/γ'.R b=.fr)/\(fx.mine y=true->γ'.R b=.sys):=gR (f1 b np ..) r;by_cases q:b=placeOf fx o
  ·cases o with
   |none=>exact absurd q (ok.DC j y b hy).2.2.2
   |some b'=>
    refine ag λ_ k=>?_;obtain rfl:b=b':=q;obtain rfl:=ok.xI i j x y b hx hy;exact k ⟨some v,st.val,rr,own⟩
  ·refine⟨ov,iD (λo e=>keep _ o q e) hc,rr,λfc e=>?_⟩
   have hj:j≠i:=λh=>by
    subst h;refine zg (λEP h2=>?_) (ok.qc j y x (some b) o hy hx);refine gR EP ?_;subst h2;exact q rfl
   exact slots _ j fc ⟨y,_,hy⟩ hj f e
 ·obtain⟨z,e'⟩:=K.j7 b ob r e
  exact hf b ob z e'
 ·obtain⟨z,e'⟩:=K.aM b ob r e
  exact⟨(f1 b (λp=>(f2 b p).2.2.2 b ob (.inr r) e rfl)).trans z,keep b ob (ne b (bA z rfl)) e'⟩
 ·refine zg (λz mM=>?_) (K.fr b ob r e);exact ze mM λo' iM=>⟨(f1 b (nP b (bA z rfl))).trans z,o',keep b o' (ne b (bA z rfl)) iM.1,iM.2⟩
def dh(c₀:ah)(a:zJ):Prop:=∀b ob,(c₀.γ.R b=.free\/c₀.γ.R b=.aM)->c₀.s.heap.get? b=some ob->b≠a
theorem dh.of(K:ak c₀.γ c₀.g.length c₀.s.heap c.γ c.g.length c.s.heap)(h:c.s.heap.get? a=none):dh c₀ a:=by
 rintro b ob r e rfl;refine YA r (λr=>?_) λr=>?_
 ·replace h:=((K.j7 b ob r e).2)▸h;exact nomatch h
 ·replace h:=((K.aM b ob r e).2)▸h;exact nomatch h
theorem dh.back(K:ak c₀.γ c₀.g.length c₀.s.heap c.γ c.g.length c.s.heap)(h:dh c a):dh c₀ a:=by
 rintro b ob r e rfl;refine YA r (λr=>?_) λr=>?_
 ·refine zg (λz e'=>?_) (K.j7 b ob r e);exact h b ob (.inl z) e' rfl
 ·refine zg (λz e'=>?_) (K.aM b ob r e);exact h b ob (.inr z) e' rfl
def gZ(fx:Fx)(c₀ c:ah)(p:D)(v:zo):Prop:=
 ∃a,eX (v=.ref a) (c.γ.R a=.aM) (dh c₀ a) (∀(j:Nat) (y:Str) (q:Option zJ) (l:List D),(j,y,q)∈fx.lay->c.e[j]? =some (Slot.ro l)->c.γ.own j≠a) (ic (lk c.γ.R c.s.heap) c.s.heap a p)
theorem ic.live{p:D}(x:ic L h a p):∃ob,h.get? a=some ob/\∀cv,ob.data≠.cell cv:=by
 cases p with
 |list l=>obtain⟨vs,k,e,_⟩:=x;exact⟨_,e,λcv h=>by cases h⟩
 |dict bT=>refine ze x λps VN=>(zg (λVO _=>?_) VN);refine ze VO λob VP=>(ze VP λes VQ=>(ze VQ λep VR=>(zg (λho VS=>?_) VR)));refine zg (λ_ VT=>?_) VS;obtain⟨hd,_⟩:=VT;exact⟨ob,ho,λcv h=>by replace h:=hd▸h;cases h⟩
 |_=>exact x.elim
theorem ic.au{p:D}(sb:Sub L L')(k:∀o,h.get? a=some o->h'.get? a=some o)(x:ic L h a p):ic L' h' a p:=by
 cases p with
 |list l=>obtain⟨vs,n,e,d⟩:=x;exact⟨vs,n,k _ e,d.sub sb⟩
 |dict bT=>refine ze x λps VU=>(zg (λe d=>?_) VU);exact⟨ps,cW k e,iL.sub sb d⟩
 |_=>exact x.elim
theorem gZ.au(K:Ext c c'){p:D}(x:gZ fx c₀ c p v):gZ fx c₀ c' p v:=by refine ze x λa VV=>?_;obtain⟨VW,r,fr,ro,o⟩:=VV;refine gR VW ?_;refine ze (o.live) λob VX=>(zg (λho _=>?_) VX);refine zg (λr' e'=>?_) (K.x.aM a ob r ho);exact⟨a,rfl,r',fr,λj y q l hj h=>by refine gR K.own ?_;exact ro j y q l hj (K.ro j l h),o.au K.x.sub λo h=>by rw[ho] at h;obtain rfl:=zh h;exact e'⟩
theorem gZ.back{rN:ah}(K:ak c₀.γ c₀.g.length c₀.s.heap rN.γ rN.g.length rN.s.heap){p:D}(x:gZ fx rN c p v):gZ fx c₀ c p v:=by refine ze x λa VY=>?_;obtain⟨e,r,fr,x,y⟩:=VY;exact⟨a,e,r,fr.back K,x,y⟩
noncomputable def qn:D->Slot
 |.list l=>.ol l
 |.dict bT=>.od bT
 |_=>.un
def QF(fx:Fx)(c:ah)(r:R (AV×Env×G))(v:zo)(s':zt):Prop:=
 c8 λp c'=>eX (r=.ok (.d p,c'.e,c'.g)) (c'.s=s') (Inv fx c') (Ext c c') (gZ fx c c' p v)
def pb(A:ZV)(call:Call)(fx:Fx)(ce:CE):Prop:=∀(c:ah) r,Inv fx c->Rn call (cC T.tb ce c.e c.g) r->
 zx (zv prog w) A (YJ (aH T.tb.nm ce) fx.env) (QF fx c r) (XE c r) c.s
theorem QF.mk(I:Inv fx c)(K:Ext c₀ c)(k:ae c.s s')(hn:c.s.heap.get? a=none){p:D}(o:ic (lk c.γ.R c.s.heap) s'.heap a p){r:R (AV×Env×G)}(er:r=.ok (.d p,c.e,c.g)):QF fx c₀ r (.ref a) s':=by
 refine ze (o.live) λob VZ=>(zg (λho _=>?_) VZ);obtain⟨I1,K1⟩:=I.m7 k (cx c.γ.R a .aM) (λx=>by
  by_cases hx:x=a
  ·exact gR hx (.inr ⟨hn,gR ho rfl⟩)
  ·exact .inl (aN hx))
 refine⟨p,{c with γ:={c.γ with R:=cx c.γ.R a .aM},s:=s'},er,rfl,I1,K.trans K1,a,rfl,bw,.of K.x hn,λj y q l hj h=>?_,o.au K1.x.sub λ_ h=>h⟩;intro ea;have ea:c.γ.own j=a:=ea;refine ze (slot_of I hj h) λov V5=>(zg (λk _=>?_) V5);refine zg (λ_ V6=>?_) k;refine zg (λ_ V7=>?_) V6;obtain⟨vs,n,e,_⟩:=V7;rw[ea,hn] at e;exact nomatch e
theorem pb.hY(h:pb A call fx ce)(I:Inv fx c)(K:Ext c₀ c){r:R β}{f:AV×Env×G->W β}(er:Rn call ((cC T.tb ce c.e c.g).bind f) r)
  (k:∀p c' v,Rn call (f (.d p,c'.e,c'.g)) r->Inv fx c'->Ext c₀ c'->gZ fx c c' p v->Ext c c'->Q v c'.s):zx (zv prog w) A (YJ (aH T.tb.nm ce) fx.env) Q (XS fx c₀ r) c.s:=
 zI (h c _ I er.vd) (λv _ hq=>match hq with
  |⟨p,c',q⟩=>q.2▸k p c' v (er.at q.1) q.3 (K.trans q.4) q.5 q.4) λ_ _ q=>XS.jD K.x ((XE.up (.refl c) er q).tI I)
theorem FH(hl:es.len<=lim)(h:gm (ai A call fx) es)(hs:fY es):pb A call fx (.sZ es p):=λc r I er=>
 wpAny_List_spliced (d8 p _ h hs I (.refl _) er λas c1 vs er I1 K1 V1 _ ln=>er.opt λps d er=>
  ⟨ln▸bb hl,QF.mk (p:=.list ps) I1 K1 (ae.push _ _) (ao _) ⟨vs,0,zq _ rfl,V1.data d⟩ er.1.symm⟩)
theorem Cf:pb A call fx (.vc .nil p):=λc r I er=>
 wpAny_Dict_empty (QF.mk (p:=.dict []) I (.refl _) (ae.push _ _) (ao _) ⟨[],df (zq _ rfl) rfl,rfl⟩ er.1.symm)
theorem FI:ai A call fx (.vc .nil p):=λc r I er=>by
 refine wpAny_Dict_empty (QE.data I (.refl _) (ae.push _ _) er.1.symm ⟨_,[],rfl,I.g.tE (ao _),?_,rfl⟩);refine ze (df (h:=c.s.heap.push {cls:=.type "dict",data:=.dict #[]}) (zq _ rfl) rfl) λob V8=>?_;refine ze V8 λes V9=>(ze V9 λep Wb=>(zg (λho rest=>?_) Wb));exact⟨ob,es,ep,aB (I.g.bU (ao _)) ho,rest⟩
end
section
variable{call:Call}
theorem putName_dict{dx:zJ}(hm:h.DictOf (zR prog w) dx ps):
  mi λod es n=>eX (h.get? dx=some od) ((adk name (Zy w.params name) (.str name tk) v od).data=.dict es n) (es.size=(stored ps name v).length) ((h.update dx (adk name (Zy w.params name) (.str name tk) v)).get? dx=some (adk name (Zy w.params name) (.str name tk) v od)) ((h.update dx (adk name (Zy w.params name) (.str name tk) v)).DictOf (zR prog w) dx (stored ps name v)):=by
 refine ze hm λo kj=>?_;obtain⟨es,ep,ho,hc,hd,hk,hp,hn⟩:=kj;have Wc:(es.findIdx? λe=>(zR prog w).is name e.key)=ps.findIdx? λkv=>decide (kv.1=name):=by refine gL (hp.findIdx name ..) ?_;obtain⟨l⟩:=es;simp
 have MF:(es.findIdx? λe=>e.key.isStr name)=(es.findIdx? λe=>(zR prog w).is name e.key):=by congr 1;funext e;exact gR (iW ..) rfl
 have hes:es.size=ps.length:=by refine gL ((hp.length) ..) ?_;simp
 refine gR (Obj.putName_eq ..) ?_;obtain⟨oc,od,dt,Ka⟩:=o;dsimp only at hd;subst hd;cases hi:es.findIdx? λe=>(zR prog w).is name e.key with
 |some i=>
  have e:Z4 name (Zy w.params name) (.str name tk) v ⟨oc,od,.dict es ep,Ka⟩=⟨oc,od,.dict (es.modify i λe=>{e with val:=v}) ep,Ka⟩:=by simp only[Z4,MF,hi]
  have any:ps.any (λkv=>decide (kv.1=name))=true:=any_of_findIdx_some (Wc▸hi);have up:(h.update dx (Z4 name (Zy w.params name) (.str name tk) v)).get? dx=some ⟨oc,od,.dict (es.modify i λe=>{e with val:=v}) ep,Ka⟩:=by have:=Ze (Z4 name (Zy w.params name) (.str name tk) v) ho (gR (e ..) rfl);exact gR (this ..) (gR (e ..) rfl)
  refine⟨_,es.modify i λe=>{e with val:=v},ep,ho,by exact gR (e ..) rfl,?_,by exact gR (up ..) (gR (e ..) rfl),⟨_,_,ep,up,hc,rfl,hk.modify _ _,?_,?_⟩⟩
  ·rewrite [stored];refine gR (if_pos any ..) ?_;simp[hes]
  ·rewrite [stored];refine gR (if_pos any ..) ?_
   have hl:(es.toList.findIdx? λe=>(zR prog w).is name e.key)=some i:=by refine gL (hi ..) ?_;obtain⟨l⟩:=es;simp
   have:=hp.modify hn hl v;obtain⟨l⟩:=es;simpa using this
  ·rewrite [stored];exact gR (if_pos any ..) (gR (keys_map_store ..) hn)
 |none=>
  have e:Z4 name (Zy w.params name) (.str name tk) v ⟨oc,od,.dict es ep,Ka⟩=⟨oc,od,.dict (es.push ⟨Zy w.params name,.str name tk,v⟩) (ep+1),Ka⟩:=by simp only[Z4,MF,hi]
  have Wd:name∉ps.map (·.1):=not_mem_of_findIdx_none (Wc▸hi);have O4:¬(ps.any λkv=>decide (kv.1=name))=true:=by rw[yM];rintro ⟨kv,hkv,he⟩;exact Wd (zH.mpr ⟨kv,hkv,of_decide_eq_true he⟩)
  have up:(h.update dx (Z4 name (Zy w.params name) (.str name tk) v)).get? dx=some ⟨oc,od,.dict (es.push ⟨Zy w.params name,.str name tk,v⟩) (ep+1),Ka⟩:=by have:=Ze (Z4 name (Zy w.params name) (.str name tk) v) ho (gR (e ..) rfl);exact gR (this ..) (gR (e ..) rfl)
  refine⟨_,es.push ⟨Zy w.params name,.str name tk,v⟩,ep+1,ho,by exact gR (e ..) rfl,?_,by exact gR (up ..) (gR (e ..) rfl),⟨_,_,ep+1,up,hc,rfl,hk.push (strKind_is prog w name tk) _,?_,?_⟩⟩
  ·rewrite [stored];refine gR (if_neg O4 ..) ?_;simp[hes]
  ·rewrite [stored];refine gR (if_neg O4 ..) ?_
   have:=hp.append (strKind_is prog w name tk) (Zy w.params name) v;obtain⟨l⟩:=es;simpa using this
  ·rewrite [stored];refine gR (if_neg O4 ..) (gR (yc ..) ?_);rw[List.nodup_append]
   refine⟨hn,by simp,?_⟩;intro a ha b hb;simp only[Zo,List.map_nil,zX] at hb;exact gR hb (λe=>Wd (e▸ha))
theorem Au{len:Nat}:∀{m:List (Nat×AV)} {ps:List (Str×zo)},oN γ len h m ps->m.any (λe=>e.1==x)=ps.any (λkv=>decide (kv.1=T.tb.nm x))
 |[],_,h=>by obtain rfl:_=_:=h;rfl
 |(y,_)::_,_,⟨v,t,rfl,a,b⟩=>congr (congrArg or (vW y x)) (Au b)
theorem rO{len:Nat}{p:AV}(d:cN γ len h p u):∀{m:List (Nat×AV)} {ps:List (Str×zo)},oN γ len h m ps->
  oN γ len h (m.map λe=>if e.1==x then(e.1,p) else e) (ps.map λkv=>if kv.1=T.tb.nm x then(kv.1,u) else kv)
 |[],_,h=>by obtain rfl:_=_:=h;rfl
 |(y,_)::_,_,⟨v,t,rfl,a,b⟩=>lW (R:=λe kv=>oN γ len h (e::_) (kv::_)) (vW y x) ⟨u,_,rfl,d,rO d b⟩ ⟨v,_,rfl,a,rO d b⟩
theorem Av{len:Nat}{p:AV}(d:cN γ len h p u):∀{m:List (Nat×AV)} {ps:List (Str×zo)},oN γ len h m ps->oN γ len h (m++[(x,p)]) (ps++[(T.tb.nm x,u)])
 |[],_,h=>by obtain rfl:_=_:=h;exact⟨u,[],rfl,d,rfl⟩
 |(_,_)::_,_,⟨v,t,rfl,a,b⟩=>⟨v,_,rfl,a,Av d b⟩
theorem Kb{len:Nat}{p:AV}(d:cN γ len h p u){m:List (Nat×AV)}(k:oN γ len h m ps):oN γ len h (BF x p m) (stored ps (T.tb.nm x) u):=by
 refine gR (kM ..) ?_;unfold BF;refine gR (Au k ..) ?_
 split
 ·exact rO d k
 ·exact Av d k
theorem ni{len:Nat}:∀{m:List (Nat×AV)} {ps:List (Str×zo)},oN γ len h m ps->ps.length=m.length
 |[],_,h=>by obtain rfl:_=_:=h;rfl
 |(_,_)::_,_,⟨v,t,e,a,b⟩=>by refine gR e ?_;simp[ni b]
theorem lki{x:Option yL}{b:Bool}{r:α}{f:yL->Option α}{y:Option α}(h:x.elim (if b then none else y) f=some r):(!x.isSome&&b)=false:=by
 cases x with
 |some _=>rfl
 |none=>cases b with
  |false=>rfl
  |true=>exact nomatch h
set_option smartUnfolding false in
theorem FJ{r:Option zo}(e:lookIn name o=some r):∃es n,o.data=.dict es n/\(!es.any (·.key.isStr name)&&es.any (·.refKey))=false:=by
 obtain⟨_,_,d,_⟩:=o;cases d with
 |dict es n=>
  refine⟨es,n,rfl,?_⟩;refine gL (Array.any_toList ..) (gL (Array.any_toList ..) (gL (List.isSome_find? ..) ?_));exact lki (f:=λe=>some (some e.val)) (y:=some none) e
 |_=>exact ns e
theorem Kc(I:Inv fx c){n:Nat}(e:c.g[n]? =some (.inst cl fs))(ha:T.tb.eY cl x=true)(hl:fs.length<lim){a:AV}(V:cN c.γ c.g.length c.s.heap a v){Q:Unit->zt->Prop}
  (q:∀s',Inv fx {c with g:=c.g.set n (.inst cl (BF x a fs)),s:=s'}->Ext c {c with g:=c.g.set n (.inst cl (BF x a fs)),s:=s'}->Q () s'):zx (zv prog w) A (setAttr (.ref (c.γ.aI n).1) (T.tb.nm x) v) Q E c.s:=by
 have O:=I.g.objs n _ e;obtain⟨od,ps,hi,ho,hd,hf,RF⟩:=lY O;refine zg (λWe FK=>?_) (tok.eY cl x ha);refine ze We λcd pZ=>(zg (λk1 k2=>?_) pZ);refine zg (λk3 FL=>?_) FK;refine zg (λk4 Wf=>?_) FL;refine zg (λk5 k6=>?_) Wf;obtain⟨od',es,m,fK,JM,hsz,hup,O5⟩:=putName_dict hd (name:=T.tb.nm x) (tk:=c.s.toks+1) (v:=v);obtain rfl:od=od':=by rw[ho] at fK;exact zh fK
 have XK:T.K.In ({c.s with toks:=c.s.toks+1}:zt).heap:=I.g.K;refine set_plain I.g.K hi k5 (osa_open (s:={c.s with toks:=c.s.toks+1}) I.g.K hi k6 (by unfold takerIn;refine gR (k3 ..) ?_;rfl) λb=>?_);refine zf (zl (zf (zf (wpAny_loadPart hi.at_ (zf ((looks_clsIn XK k1).here ?_))))));refine gR (k2 ..) (zl (a:=some (c.γ.aI n).2) (zf (zl (zf ?_))));refine zf (zf (wpAny_askSetting (zl (zf (wpAny_mkText (zf (wpAny_loadPart ho ?_)))))));refine ze (FJ (RF (T.tb.nm x))) λac6 z=>(ze z λn₀ z=>(zg (λacd c0=>?_) z));refine gR (acd ..) ?_;dsimp only;refine gR (aRefKeyMayBeTheName_at ..) (gR (c0 ..) ?_);refine wpAny_updatePart ho ?_;have hlen:(stored ps (T.tb.nm x) v).length<=lim:=by have:=stored_length_le ps (T.tb.nm x) v;rw[ni hf] at this;exact zk this hl
 refine zf (wpAny_lookBehind hup (gR (JM ..) (pastItsLine_dict (gR (hsz ..) (zQ (bb hlen))))) ?_);refine zg (λr1 Ou=>?_) O;refine zg (λr2 N6=>?_) Ou;refine zg (λe1 _=>?_) N6;have sm:cX (c.γ.aI n).2 c.s {c.s with heap:=c.s.heap.update (c.γ.aI n).2 (adk (T.tb.nm x) (Zy w.params (T.tb.nm x)) (.str (T.tb.nm x) (c.s.toks+1)) v),toks:=c.s.toks+1+1}:=.kH;obtain⟨I2,K2⟩:=I.jd (o:=.inst cl (BF x a fs)) r2 sm (by show(ad0 _ _).isSome=true;exact gR (hup ..) rfl)
  ⟨r1,r2,(sm.at_ _ (λe=>by rw[e,r2] at r1;exact nomatch r1)).trans e1,_,O5,(Kb V hf).au (λb o hb=>by
   obtain⟨r,q⟩:=aw hb;exact aB r ((sm.at_ b (by rintro rfl;replace r:=r2▸r;cases r)).trans q)) (zm _) λ_ _=>rfl⟩
 exact zl (q _ I2 K2)
end
section
variable{call:Call}
theorem Aw{len:Nat}{ks:List aA}:∀{es:List (D×AV)} {xs:List (List aA×zJ×zo)},jo γ len h es xs->es.any (λe=>zD e.1 (.tuple (ks.map aV)))=(atKey xs ks).isSome
 |[],_,h=>by obtain rfl:_=_:=h;rfl
 |(_,_)::_,_,⟨k',a,v,t,rfl,rfl,r,b,c⟩=>by
  have ih:=Aw (ks:=ks) c;simp only[List.any_cons,jE,atKey,List.find?_cons] at ih⊢;by_cases q:k'=ks
  ·simp[q]
  ·simp only[q,decide_false,ad1];exact ih
theorem rP{len:Nat}{p:AV}(d:cN γ len h p u):∀{es:List (D×AV)} {xs:List (List aA×zJ×zo)},jo γ len h es xs->
  jo γ len h (es.map λe=>if zD e.1 (.tuple (ks.map aV)) then(e.1,p) else e) (xs.map (putAt ks u))
 |[],_,h=>by obtain rfl:_=_:=h;rfl
 |(_,_)::_,_,⟨k',a,v,t,rfl,rfl,r,b,c⟩=>lW (R:=λe kv=>jo γ len h (e::_) (kv::_)) (jE k' ks) ⟨k',a,u,_,rfl,rfl,r,d,rP d c⟩ ⟨k',a,v,_,rfl,rfl,r,b,rP d c⟩
theorem Ax{len:Nat}{k:zJ}(hk:DR (lk γ.R h) (.tuple (ks.map aV)) (.ref k)){p:AV}(d:cN γ len h p u):∀{es:List (D×AV)} {xs:List (List aA×zJ×zo)},jo γ len h es xs->
  jo γ len h (es++[(.tuple (ks.map aV),p)]) (xs++[(ks,k,u)])
 |[],_,h=>by obtain rfl:_=_:=h;exact⟨ks,k,u,[],rfl,rfl,hk,d,rfl⟩
 |(_,_)::_,_,⟨k',a,v,t,rfl,rfl,r,b,c⟩=>⟨k',a,v,_,rfl,rfl,r,b,Ax hk d c⟩
theorem Ke{len:Nat}{k:zJ}(hk:DR (lk γ.R h) (.tuple (ks.map aV)) (.ref k)){p:AV}(d:cN γ len h p u){es:List (D×AV)}{xs:List (List aA×zJ×zo)}(x:jo γ len h es xs):
  jo γ len h (dw (.tuple (ks.map aV)) p es) (storedH xs ks k u):=by
 unfold dw storedH;refine gR (Aw x ..) ?_
 split
 ·exact rP d x
 ·exact Ax hk d x
theorem nj{len:Nat}:∀{es:List (D×AV)} {xs:List (List aA×zJ×zo)},jo γ len h es xs->xs.length=es.length
 |[],_,h=>by obtain rfl:_=_:=h;rfl
 |(_,_)::_,_,⟨k',a,v,t,e,_,r,b,c⟩=>by refine gR e ?_;simp[nj c]
theorem Cg(I:Inv fx c)(hu:A.units+64<yA){n:Nat}{es:List (D×AV)}(e:c.g[n]? =some (.dict es)){p:D}{kv:zo}(hk:DR (lk c.γ.R c.s.heap) p kv)(ok:d6 p es=true)(hl:es.length<lim){a:AV}(V:cN c.γ c.g.length c.s.heap a v){Q:Unit->zt->Prop}
  (q:∀s',Inv fx {c with g:=c.g.set n (.dict (dw p a es)),s:=s'}->Ext c {c with g:=c.g.set n (.dict (dw p a es)),s:=s'}->Q () s'):zx (zv prog w) A (setItem (.ref (c.γ.aI n).1) kv v) Q E c.s:=by
 have O:=I.g.objs n _ e;have R1:=O.1;have kk:∀h',ZN (c.γ.aI n).1 c.s.heap h'->Sub (lk c.γ.R c.s.heap) (lk c.γ.R h'):=λh' hs b o hb=>by
  refine zg (λr q=>?_) (aw hb);exact aB r ((hs.2 b (by rintro rfl;replace r:=R1▸r;cases r)).trans q)
 rcases fq ok with⟨x,rfl,h⟩ |⟨ks,rfl,h⟩
 ·obtain⟨os,t,O6⟩:=hk;refine gR O6 ?_
  obtain⟨ps,d,r⟩:=dX O h;refine wpAny_setItem_pairs (strKind_is prog w x t) d (λh' hm hs=>?_) (gR (jf r ..) (bb (Zz hl)));have sm:cX (c.γ.aI n).1 c.s {c.s with heap:=h',toks:=c.s.toks+1}:=.cU hs;obtain⟨I2,K2⟩:=I.jd (o:=.dict (dw (.str x) a es)) R1 sm (by refine ze (id hm) λ_ kN=>?_;obtain⟨_,_,ho,_⟩:=kN;show(h'.get? _).isSome=true;refine gR ho ?_;rfl)
   ⟨R1,.inl ⟨_,hm,(Am os V r).au (kk h' hs) (zm _) λ_ _=>rfl⟩⟩
  exact q _ I2 K2
 ·obtain⟨k,rfl,qf⟩:=kz (hk.sub (cM _ _))
  refine ze (iB O h) λxs E5=>(zg (λd r=>?_) E5);refine wpAny_setItem_heap (mE hu) qf d (λh' hm hs=>?_) (gR (nj r ..) (bb (Zz hl)));have sm:cX (c.γ.aI n).1 c.s {c.s with heap:=h',toks:=c.s.toks+(tupleKind (aE)).draws ks}:=.cU hs;obtain⟨I2,K2⟩:=I.jd (o:=.dict (dw (.tuple (ks.map aV)) a es)) R1 sm (by refine ze (id hm) λ_ iM=>?_;obtain⟨_,_,ho,_⟩:=iM;show(h'.get? _).isSome=true;refine gR ho ?_;rfl)
   ⟨R1,.inr ⟨_,hm,(Ke hk V r).au (kk h' hs) (zm _) λ_ _=>rfl⟩⟩
  exact q _ I2 K2
theorem Ci(I:Inv fx c)(W:du fx c (.w i) u){bT:List (D×D)}(e:c.e[i]? =some (.od bT)){p:D}{kv:zo}(hk:DR (lk c.γ.R c.s.heap) p kv)(ok:d6 p bT=true)(hl:bT.length<lim){x:D}(V:DR (lk c.γ.R c.s.heap) x v)(hs:isStr p=true){Q:Unit->zt->Prop}
  (q:∀s',Inv fx {c with e:=bh c.e i (.od (dw p x bT)),s:=s'}->Ext c {c with e:=bh c.e i (.od (dw p x bT)),s:=s'}->Q () s'):zx (zv prog w) A (setItem u kv v) Q E c.s:=by
 refine zg (λEj FN=>?_) W;obtain⟨y,o,hy⟩:=FN;refine gR Ej ?_;refine ze (slot_of I hy e) λov Wg=>(zg (λk _=>?_) Wg);refine zg (λ_ Wh=>?_) k;refine zg (λR1 uh=>?_) Wh;refine ze uh λps Ei=>(zg (λd r=>?_) Ei);obtain⟨x',rfl⟩:=ba hs;obtain⟨os,t,ET⟩:=hk;refine gR ET ?_;refine wpAny_setItem_pairs (strKind_is prog w x' t) d (λh' hm hs=>?_) (gR r.length (bb (Zz hl)));have sm:cX (c.γ.own i) c.s {c.s with heap:=h',toks:=c.s.toks+1}:=.cU hs;have kk:Sub (lk c.γ.R c.s.heap) (lk c.γ.R h'):=λb o hb=>by
  refine zg (λr q=>?_) (aw hb);exact aB r ((hs.2 b (by rintro rfl;replace r:=R1▸r;cases r)).trans q)
 obtain⟨I2,K2⟩:=I.Fh (sl:=.od (dw (.str x') x bT)) (λ_=>by simp) ⟨_,e,rfl⟩ R1 sm (by refine ze (id hm) λ_ Em=>?_;obtain⟨_,_,ho,_⟩:=Em;show(h'.get? _).isSome=true;exact gR ho rfl) (λy o hy ov ⟨aQ,h0,h1⟩=>by
  refine ag λ_ k=>?_;rw[e] at h0;obtain rfl:=zh h0;exact k ⟨h1.1,R1,_,hm,iL.sub kk (J4 V r)⟩)
 exact q _ I2 K2
theorem FO{o:Option Slot}{l:List (D×D)}(h:o.bind odS=some l):o=some (.od l):=by
 refine ze (bind_some h) λsl Wi=>?_;obtain⟨uf,h⟩:=Wi;refine gR uf ?_;cases sl with
 |od q=>exact congrArg (λl=>some (Slot.od l)) (zh h)
 |_=>exact ns h
theorem ui(I:Inv fx c)(hu:A.units+64<yA){a v:AV}{kv x:zo}{p:D}(W:du fx c a u)(hk:DR (lk c.γ.R c.s.heap) p kv)(V:du fx c v x){y:Env×G}(h:(NY c.e c.g a p v).is y){Q:Unit->zt->Prop}
  (q:∀c':ah,y=(c'.e,c'.g)->Inv fx c'->Ext c c'->Q () c'.s):zx (zv prog w) A (setItem u kv x) Q E c.s:=by
 cases a with
 |o n=>
  refine O.cV h λes eo h'=>(ze (bind_some eo) λo Wj=>?_);obtain⟨ho,eo⟩:=Wj;cases kJ eo;obtain⟨h1,hz⟩:=aa h'.1;refine zg (λh2 h3=>?_) (aa hz);exact gR W.1 (Cg I hu ho hk h1 (of_decide_eq_true h2) (V.lT h3) λs' I4 K4=>q {c with g:=_,s:=s'} h'.2.symm I4 K4)
 |w i=>
  exact O.cV h λbT ek h'=>O.cV h' λd ed h'=>
   have hz:=aa h'.1;have h1:=aa hz.1
   Ci I W (FO ek) hk hz.2 (of_decide_eq_true h1.2) (V.DD ed) h1.1 λs' I4 K4=>q {c with e:=_,s:=s'} h'.2.symm I4 K4
 |d _=>exact h.elim
def QS(fx:Fx)(c:ah)(r:R (Fl×Env×G))(f:Flow)(s':zt):Prop:=
 (∃c',eX (r=.ok (.gV,c'.e,c'.g)) (f=.next) (c'.s=s') (Inv fx c') (ak c.γ c.g.length c.s.heap c'.γ c'.g.length c'.s.heap))\/
 (Ex5 λa v e' g' γ'=>eX (r=.ok (.ret a,e',g')) (f=.ret v) (aS γ' g' s') (ak c.γ c.g.length c.s.heap γ' g'.length s'.heap) (cN γ' g'.length s'.heap a v))
def g9(A:ZV)(call:Call)(fx:Fx)(cs:CS):Prop:=∀(c:ah) r,Inv fx c->Rn call (SD T.tb cs c.e c.g) r->
 zx (zv prog w) A (exec (toS T.tb.nm cs) fx.env) (QS fx c r) (XS fx c r) c.s
def eu(A:ZV)(call:Call)(fx:Fx)(cs:aK):Prop:=∀(c:ah) r,Inv fx c->Rn call (aY T.tb cs c.e c.g) r->
 zx (zv prog w) A (execs (eC T.tb.nm cs) fx.env) (QS fx c r) (XS fx c r) c.s
theorem QS.from{r:R (Fl×Env×G)}{f:Flow}(k:ak c.γ c.g.length c.s.heap c'.γ c'.g.length c'.s.heap)(h:QS fx c' r f s'):QS fx c r f s':=by
 rcases h with⟨d,e,q,z,i,k'⟩ |⟨a,v,e',g',γ',e,q,i,k',z⟩
 ·exact .inl ⟨d,e,q,z,i,k.trans k'⟩
 ·exact .inr ⟨a,v,e',g',γ',e,q,i,k.trans k',z⟩
theorem QS.n{r:R (Fl×Env×G)}(e:r=.ok (.gV,c'.e,c'.g))(I:Inv fx c')(k:ak c.γ c.g.length c.s.heap c'.γ c'.g.length c'.s.heap):QS fx c r .next c'.s:=.inl ⟨c',e,rfl,rfl,I,k⟩
theorem eu.mI{cs:aK}(h:eu A call fx cs)(I:Inv fx c)(K:ak c₀.γ c₀.g.length c₀.s.heap c.γ c.g.length c.s.heap){r:R (Fl×Env×G)}(er:Rn call (aY T.tb cs c.e c.g) r):
  zx (zv prog w) A (execs (eC T.tb.nm cs) fx.env) (QS fx c₀ r) (XS fx c₀ r) c.s:=zI (h c r I er) (λ_ _ q=>q.from K) λ_ _ q=>q.jD K
theorem Cj:eu A call fx .nil:=λc r I h=>wpAny_execs_nil (.n h.1.symm I (.refl _ _ _))
theorem XS.up{x:W α}{f:α->W β}{r:R β}(er:Rn call (x.bind f) r)(q:XS fx c (x.run call) v s'):XS fx c r v s':=
 match q with
 |⟨p,g',γ',h⟩=>⟨p,g',γ',er.exc h.1,h.2,h.3,h.4,h.5,h.6⟩
theorem wi{a:CS}{r:aK}(ha:g9 A call fx a)(Iz:eu A call fx r):eu A call fx (.cons a r):=λc z I er=>by
 have er:=er;refine wpAny_execs_cons (zI (ha c _ I er.vd) (λf s' q=>?_) λ_ _=>XS.up er);rcases q with⟨c1,q⟩ |⟨a,v,e',g',γ',q⟩
 ·refine gR q.2 (gL q.3 ?_)
  exact Iz.mI q.4 q.5 (er.at q.1)
 ·exact gR q.2 (.inr ⟨a,v,e',g',γ',(er.at q.1).1.symm,rfl,q.3,q.4,q.5⟩)
theorem uj(ok:bF fx):adQ fx.env=false:=by unfold adQ;exact gR ok.kind rfl
noncomputable def gH:Ye->Bool
 |.ListComp .. |.SetComp .. |.DictComp ..=>true
 |_=>false
theorem ew{v:Ye}(h:gH v=false) t l env:swapsWith v t l env=pure false:=by cases v <;> first |rfl |cases h
theorem Ck(ok:bF fx){a:CE}(hc:gH (aH T.tb.nm a)=false)(ha:ai A call fx a):g9 A call fx (.expr a p):=λc r I h=>
 wpAny_Expr_any (ha.hY I (.refl _) h λa1 c1 v1 h I1 K1 V1 _=>.n h.1.symm I1 K1.x) (uj ok) (ew hc _ _ _)
theorem FP{a:CE}(ha:ai A call fx a):g9 A call fx (.ret a p):=λc r I h=>
 wpAny_Return_some (ha.hY I (.refl _) h λa1 c1 v1 h I1 K1 V1 _=>.inr ⟨a1,v1,c1.e,c1.g,c1.γ,h.bO.2.1.symm,rfl,I1.g,K1.x,V1.lT h.bO.1⟩)
theorem FQ{t:CE}{a b:aK}(ht:ct A call fx t)(ha:eu A call fx a)(hb:eu A call fx b):g9 A call fx (.ite t a b p):=λc r I h=>
 wpAny_If (ht.hY I (.refl _) (Rn.bool (F:=λv z=>.br p.line v (aY T.tb a z.1 z.2) (aY T.tb b z.1 z.2)) h) λv c1 h I1 K1=>by
  cases v with
  |true=>exact ha.mI I1 K1.x h
  |false=>exact hb.mI I1 K1.x h)
end
section
variable{call:Call}
structure qp(fx:Fx)(i x:Nat)(o:Option zJ):Prop where
 lay:(i,T.tb.nm x,o)∈fx.lay
 cell:o.isSome=true->fx.env.kindOf (T.tb.nm x)=some .cell/\fx.mine (T.tb.nm x)=true
theorem wpAny_bindName{x:Str}{Q:Unit->zt->Prop}(h:zx M A (storeName env x v) Q E s):zx M A (bindName env x v) Q E s:=
 λΓ p hΓ=>(Sem.wp_bindName ..).mpr (h Γ p hΓ)
theorem fe(ok:bF fx)(I:Inv fx c)(K:ak c₀.γ c₀.g.length c₀.s.heap c.γ c.g.length c.s.heap){o:Option zJ}(t:qp fx i x o){a:AV}(V:cN c.γ c.g.length c.s.heap a v){Q:Unit->zt->Prop}
  (q:∀s',Inv fx {c with e:=bh c.e i (.v a),s:=s'}->ak c₀.γ c₀.g.length c₀.s.heap c.γ c.g.length s'.heap->(∀b ob,(c.γ.R b≠.sys\/∀i x o,(i,x,o)∈fx.lay->b≠placeOf fx o)->c.s.heap.get? b=some ob->s'.heap.get? b=some ob)->Q () s'):zx (zv prog w) A (storeName fx.env (T.tb.nm x) v) Q E c.s:=by
 refine nh ok I t.lay t.cell λs' st=>?_;have J9:c.γ.R (placeOf fx o)=.sys:=by
  cases o with
  |none=>refine ze (I.f.ns) λm mN=>?_;obtain⟨n,r,_⟩:=mN;exact r
  |some a=>refine ze (I.f.cells i _ a t.lay) λ_ O7=>?_;obtain⟨_,r,_⟩:=O7;exact r.2 (t.cell rfl).2
 obtain⟨I2,K2⟩:=Inv.store (γ':=c.γ) (P:=λ_=>False) (sl:=.v a) ok I K t.lay t.cell st (λ_ _=>rfl) (λ_ h=>h.elim) (λ_ _=>rfl) rfl λsb _ _=>⟨v,rfl,V.au sb (zm _) λ_ _=>rfl⟩;exact q s' I2 K2 λb ob h e=>(st.same.at_ b (by rintro rfl;exact h.elim (λh=>h J9) λh=>h _ _ _ t.lay rfl)).trans e
theorem Ay(ok:bF fx)(I:Inv fx c)(K:ak c₀.γ c₀.g.length c₀.s.heap c.γ c.g.length c.s.heap){o:Option zJ}(t:qp fx i x o){p:D}(V:gZ fx c₀ c p v){Q:Unit->zt->Prop}
  (q:∀a s',v=.ref a->Inv fx ⟨⟨cx c.γ.R a (.own i),λj=>if j=i then a else c.γ.own j,c.γ.aI⟩,bh c.e i (qn p),c.g,s'⟩->ak c₀.γ c₀.g.length c₀.s.heap ⟨cx c.γ.R a (.own i),λj=>if j=i then a else c.γ.own j,c.γ.aI⟩ c.g.length s'.heap->
   (∀b ob,c.γ.R b≠.sys->c.s.heap.get? b=some ob->s'.heap.get? b=some ob)->Q () s'):zx (zv prog w) A (storeName fx.env (T.tb.nm x) v) Q E c.s:=by
 obtain⟨a,rfl,r,fr,ro,po⟩:=V;refine nh ok I t.lay t.cell λs' st=>?_;have J9:c.γ.R (placeOf fx o)=.sys:=by
  cases o with
  |none=>refine ze (I.f.ns) λm ru=>?_;obtain⟨n,r,_⟩:=ru;exact r
  |some a=>refine ze (I.f.cells i _ a t.lay) λ_ tv=>?_;obtain⟨_,r,_⟩:=tv;exact r.2 (t.cell rfl).2
 obtain⟨I2,K2⟩:=Inv.store (γ':=⟨cx c.γ.R a (.own i),λj=>if j=i then a else c.γ.own j,c.γ.aI⟩) (sl:=qn p) ok I K t.lay t.cell st
  (λb h=>aN h) (λb h=>gR h ⟨r,po.live,ro,fr⟩) (λj h=>if_neg h) rfl λsb at_ _=>by
   have na:a≠placeOf fx o:=λe=>by rw[e,J9] at r;exact nomatch r
   cases p with
   |list l=>
    obtain⟨vs,k,e,d⟩:=po;exact⟨by simp only[if_true],by simp only[if_true];exact bw,vs,k,by simp only[if_true];exact(at_ a na).trans e,d.sub sb⟩
   |dict bT=>
    refine ze po λps nq=>(zg (λe d=>?_) nq);exact⟨by simp only[if_true],by simp only[if_true];exact bw,ps,by simp only[if_true];exact cW (λo h=>(at_ a na).trans h) e,iL.sub sb d⟩
   |_=>exact po.elim
 exact q a s' rfl I2 K2 λb ob h e=>(st.same.at_ b (by rintro rfl;exact h J9)).trans e
theorem Cm{o v:Ye}{n:Str}{l:Nat}:swapsWith v (some (.Attribute o n p)) l env=pure false:=by cases v <;> rfl
theorem Cn{o k v:Ye}{l:Nat}:swapsWith v (some (.Subscript o k p)) l env=pure false:=by cases v <;> rfl
theorem Co{p:D}{s:Slot}(h:DS (.d p)=some s):s=qn p:=by
 cases p with
 |list l=>exact(zh h).symm
 |dict l=>exact(zh h).symm
 |_=>exact ns h
theorem wj(ok:bF fx){o:Option zJ}{q:Pos}{a:CE}(t:qp fx i x o)(hc:gH (aH T.tb.nm a)=false)(ha:ai A call fx a):g9 A call fx (.Iv (.n i x q) a p):=λc r I h=>by
 refine wpAny_Assign_Name (ha.hY I (.refl _) h λa1 c1 v1 h I1 K1 V1 _=>?_) (ew hc _ _ _);exact fe ok I1 K1.x t (V1.lT h.bO.1) λs' I2 K2 _=>.n (c':={c1 with e:=_,s:=s'}) h.bO.2.1.symm I2 K2
theorem rQ(ok:bF fx){o:Option zJ}{q:Pos}{a:CE}(t:qp fx i x o)(hc:gH (aH T.tb.nm a)=false)(ha:pb A call fx a):g9 A call fx (.Iv (.own i x q) a p):=λc r I h=>
 wpAny_Assign_Name (ha.hY I (.refl _) h λp1 c1 v1 h I1 K1 V1 _=>(Rn.bu (x:=opt (DS (.d p1))) h).opt λs es h=>by
  cases Co es;exact Ay ok I1 K1.x t V1 λa s' _ I2 K2 _=>.n (c':=⟨_,_,_,s'⟩) h.1.symm I2 K2) (ew hc _ _ _)
theorem rR{b a:CE}{q:Pos}(ha:ai A call fx a)(hb:ai A call fx b):g9 A call fx (.Iv (.eY b x q) a p):=λc r I h=>by
 refine wpAny_Assign_stores (targets:=[.Attribute (aH T.tb.nm b) (T.tb.nm x) q]) (ha.hY I (.refl _) h λa1 c1 v1 h I1 K1 V1 _=>?_) (by unfold swapsWithSole;exact Cm) rfl;refine(?_:zx _ _ (do
  let ov ←holding [v1] (YJ (aH T.tb.nm b) fx.env)
  standAt q.atName
  holding [v1,ov] (setAttr ov (T.tb.nm x) v1)
  release [v1,ov] []) _ _ _)
 exact zf (zT (hb.hY I1 K1 (Rn.bu h) λa2 c2 v2 h I2 K2 V2 fT=>zf (wpAny_standAt (zf (zT ((Rn.bu (x:=opt (pW c2.g a2)) h).opt λs es h=>by
  have h:=Rn.bO h;obtain⟨h1,hz⟩:=aa h.1;obtain⟨h2,h3⟩:=aa hz;obtain⟨rfl,ho⟩:=gj es;exact gR V2.1 (Kc I2 ho h1 (of_decide_eq_true h2) ((V1.au fT).lT h3) λs' I3 K3=>wpAny_release (.n (c':={c2 with g:=_,s:=s'}) h.2.1.symm I3 (K2.trans K3).x))))))))
theorem rS(hu:A.units+64<yA){b k a:CE}{q p:Pos}(ij:(match aH T.tb.nm k with |.Slice ..=>false |_=>true)=true)(ha:ai A call fx a)(hb:ai A call fx b)(hk:ai A call fx k):g9 A call fx (.Iv (.sub b k q) a p):=λc r I h=>
 wpAny_Assign_Subscript (ha.hY I (.refl _) h λa1 c1 v1 h I1 K1 V1 _=>hb.hY I1 K1 (Rn.bu (x:=cC T.tb b c1.e c1.g) h) λa2 c2 v2 h I2 K2 V2 fT=>hk.hY I2 K2 (Rn.bu (x:=cC T.tb k c2.e c2.g) h) λa3 c3 v3 h I3 K3 V3 B0=>
  (Rn.bu (x:=opt (dA a3)) h).opt λd ed h=>(Rn.fH (o:=NY c3.e c3.g a2 d a1) h) λy ey h=>ui I3 hu (V2.au B0) (V3.DD ed) (V1.au (fT.trans B0)) ey λc' e I4 K4=>.n (e▸h.1.symm) I4 (K3.trans K4).x) Cn
end
section
set_option backward.match.sparseCases true
section
variable{call:Call}
def QA(fx:Fx)(c:ah)(r:R (Env×G))(s':zt):Prop:=
 ∃c',dQ (r=.ok (c'.e,c'.g)) (c'.s=s') (Inv fx c') (ak c.γ c.g.length c.s.heap c'.γ c'.g.length c'.s.heap)
def FR(A:ZV)(call:Call)(fx:Fx)(t:CT):Prop:=∀(c:ah) r (a:AV) (v:zo),Inv fx c->du fx c a v->Rn call (store T.tb t a c.e c.g) r->
 zx (zv prog w) A (assign (toT T.tb.nm t) fx.env v) (λ_ s'=>QA fx c r s') (XS fx c r) c.s
theorem O8(ok:bF fx){o:Option zJ}{q:Pos}(t:qp fx i x o):FR A call fx (.n i x q):=λc r a v I V h=>
 zf (wpAny_standAt (wpAny_bindName (fe ok I (.refl _ _ _) t (V.lT h.bO.1) λs' I2 K2 _=>⟨{c with e:=_,s:=s'},h.bO.2.1.symm,rfl,I2,K2⟩)))
theorem FT(hu:A.units+64<yA){b k:CE}{q:Pos}(hb:ai A call fx b)(hk:ai A call fx k):FR A call fx (.sub b k q):=λc r a v I V h=>by
 refine(?_:zx _ _ (do
  let ov ←holding [v] (YJ (aH T.tb.nm b) fx.env);let iv ←holding [v,ov] (YJ (aH T.tb.nm k) fx.env)
  standAt q
  holding [v,ov,iv] (setItem ov iv v)
  release (match aH T.tb.nm k with |.Slice _ _ none _=>[iv,v,ov] |_=>[v,ov,iv]) []) _ _ _)
 exact zf (zT (hb.hY I (.refl _) h λa2 c2 v2 h I2 K2 V2 fT=>zf (zT (hk.hY I2 K2 h λa3 c3 v3 h I3 K3 V3 B0=>zf (wpAny_standAt (zf (zT
  (h.opt λd ed h=>h.Ov λy ey h=>ui I3 hu (V2.au B0) (V3.DD ed) (V.au K3) ey λc' e I4 K4=>wpAny_release ⟨c',h.trans (congrArg _ e),rfl,I4,(K3.trans K4).x⟩))))))))
noncomputable def MG:Ye->Bool
 |.Starred ..=>false
 |_=>true
theorem iF(nm:Nat->Str)(t:CT):MG (toT nm t)=true:=by cases t <;> rfl
theorem bE{t:Ye}{r:List Ye}(h:MG t=true):assignEach (t::r) env=(false,assign t env)::assignEach r env:=by cases t <;> first |rfl |cases h
theorem di nm env:∀ts:List CT,(assignEach (ts.map (toT nm)) env).length=ts.length
 |[]=>rfl
 |t::r=>by refine gR Zo (gR (bE (iF nm t) ..) ?_);refine gR yh (gR (di nm env r ..) ?_);rfl
theorem cO nm env:∀ts:List CT,(assignEach (ts.map (toT nm)) env).findIdx? (·.1)=none
 |[]=>rfl
 |t::r=>by refine gR Zo (gR (bE (iF nm t) ..) ?_);refine gR List.findIdx?_cons (gR (cO nm env r ..) ?_);rfl
theorem cG{xs:List zo}{Q:Unit->zt->Prop}(h:Q () s):zx M A (assignInOrder [] xs) Q E s:=by cases xs <;> exact zl h
theorem rU:∀ts,(∀t∈ts,FR A call fx t)->∀(c₀ c:ah) l vs r,Inv fx c->ak c₀.γ c₀.g.length c₀.s.heap c.γ c.g.length c.s.heap->aU (lk c.γ.R c.s.heap) l vs->Rn call (storeAll T.tb ts (l.map .d) c.e c.g) r->
  zx (zv prog w) A (assignInOrder ((assignEach (ts.map (toT T.tb.nm)) fx.env).map (·.2)) vs) (λ_ s'=>QA fx c₀ r s') (XS fx c₀ r) c.s:=by
 intro ts
 induction ts with
 |nil=>
  intro _ c₀ c l vs r I K V h;cases l with
  |nil=>exact cG ⟨c,h.1.symm,rfl,I,K⟩
  |cons _ _=>exact Rn.no h
 |cons t ts ih=>
  intro ht c₀ c l vs r I K V h;cases l with
  |nil=>exact Rn.no h
  |cons p l=>
   obtain⟨v,tl,V⟩:=V;refine gR V.1 (gR Zo ?_);refine gR (bE (iF _ t) ..) (gR Zo ?_);have h:=h;exact assignInOrder_cons (zI (ht t (.head _) c _ (.d p) v I V.2 h.vd) (λ_ s' q=>match q with
    |⟨c1,q⟩=>q.2▸ih (λt h=>ht t (.tail _ h)) c₀ c1 l tl _ q.3 (K.trans q.4) (V.3.sub q.4.sub) (h.at q.1)) λ_ _ q=>XS.jD K (XS.up h q))
theorem Cp(hh:A.handled=none){ts:List CT}{tp p:Pos}{a:CE}(hc:gH (aH T.tb.nm a)=false)(hnt:(match aH T.tb.nm a with |.Tuple ..=>false |_=>true)=true)(hts:∀t∈ts,FR A call fx t)(ha:ai A call fx a):g9 A call fx (.Bz ts tp a p):=λc r I h=>by
 have O9:swappedStores [.Tuple (ts.map (toT T.tb.nm)) 0 tp] (aH T.tb.nm a) fx.env=pure none:=by cases q:aH T.tb.nm a <;> first |rfl |(replace hnt:=q▸hnt;cases hnt)
 refine wpAny_Assign_stores (ha.hY I (.refl _) h λa1 c1 v1 h I1 K1 V1 _=>h.opt λl el h=>?_) (by unfold swapsWithSole;exact ew hc _ _ _) O9;refine ze (bind_some el) λq oZ=>?_;obtain⟨eq,el⟩:=oZ;have V:=V1.DD eq;cases fV el;have h:=Rn.bO (x:=(storeAll T.tb ts (l.map .d) c1.e c1.g).bind _) h;obtain⟨ad,vs,n,V⟩:=V;refine gR V.1 ?_;have hlen:vs.length=ts.length:=V.3.length.trans (Yx h.1);refine(?_:zx _ _ (assign (.Tuple (ts.map (toT T.tb.nm)) 0 tp) fx.env (.ref ad)) _ _ _);refine wpAny_assign_Tuple hh ⟨_,(aw V.2).2,rfl,n,rfl⟩ (by refine gR (di ..) ?_;exact hlen.symm) (cO _ _ _) λh' he=>?_;have gr:ae c1.s {c1.s with heap:=h'}:=⟨λb ob e=>he b ob (zU (zZ e)) e,rfl,rfl⟩;exact zI (rU ts hts c {c1 with s:={c1.s with heap:=h'}} l vs _ (I1.dD gr) (K1.x.trans (.jz gr.sub)) (V.3.sub (bR gr)) h.2.vd) (λ_ s' q=>match q with
  |⟨c3,q⟩=>q.2▸.n (h.2.at q.1).1.symm q.3 q.4) λ_ _ q=>XS.up h.2 q
end
end
section
variable{call:Call}
structure jM(A:ZV)(fx:Fx):Prop where
 loop:∀{α:Type} (c:ah) (r:R α) (x:zo) (s':zt),Inv fx c->XS fx c r x s'->notedBy (zv prog w) A fx.env (λe s'=>adB (zv prog w) A fx.env (XS fx c r) e s') x s'
 leave:∀{α:Type} (c:ah) (r:R α) (x:zo) (s':zt),Inv fx c->XS fx c r x s'->zx (zv prog w) A (leaving fx.env x) (λ_ hJ=>XS fx c r x hJ) (λe' hJ=>XS fx c r e' hJ) s'
theorem mark_none(A:ZV):A.mark none=A:=rfl
def WS(call:Call)(fx:Fx)(c:ah)(F:Nat->Env->G->W (Fl×Env×G))(r:R (Fl×Env×G))(n:Nat)(s':zt):Prop:=
 ∃c',dQ (c'.s=s') (Inv fx c') (ak c.γ c.g.length c.s.heap c'.γ c'.g.length c'.s.heap) (Rn call (F n c'.e c'.g) r)
theorem wk(hx:jM A fx){t:CE}{a:aK}{k:Nat}(ht:ct A call fx t)(ha:eu A call fx a){c:ah}{r:R (Fl×Env×G)}(I:Inv fx c){NB:zo->zt->Prop}(exc:∀x s',XS fx c r x s'->NB x s'){n:Nat}{s':zt}
  (h:WS call fx c (pV k (λe g=>eH T.tb t e g) (λe g=>aY T.tb a e g)) r n s'):zx (zv prog w) A (isTrue (aH T.tb.nm t) fx.env (YJ (aH T.tb.nm t) fx.env)) (λb gw=>if b=true then zx (zv prog w) A (execs (eC T.tb.nm a) fx.env) (λf fj=>match f with
     |.next |.cont=>∃m,m<n/\WS call fx c (pV k (λe g=>eH T.tb t e g) (λe g=>aY T.tb a e g)) r m fj
     |.brk=>QS fx c r .next fj
     |.ret v=>QS fx c r (.ret v) fj) NB gw else zx (zv prog w) A (execs [] fx.env) (QS fx c r) NB gw) NB s':=by
 refine ze h λc1 h=>?_;refine gL h.1 ?_;have e1:=h.4;cases n with
 |zero=>exact Rn.no (α:=Fl×Env×G) e1
 |succ n=>
  refine zI (ht.hY (c₀:=c1) h.2 (.refl _) (f:=λy=>.br k y.1 ((aY T.tb a y.2.1 y.2.2).bind λz=>match z.1 with
   |.gV=>pV k (λe g=>eH T.tb t e g) (λe g=>aY T.tb a e g) n z.2.1 z.2.2
   |.brk=>.ok (.gV,z.2)
   |fl=>.ok (fl,z.2)) (.ok (.gV,y.2))) e1 λb c2 e2 I2 K2=>?_) (λ_ _ q=>q) λx s' q=>exc x s' (XS.jD h.3 q)
  have K02:=h.3.trans K2.x;cases b with
  |false=>exact wpAny_execs_nil (.n e2.1.symm I2 K02)
  |true=>
   have e2:Rn call ((aY T.tb a c2.e c2.g).bind _) r:=e2;refine zI (ha c2 _ I2 e2.vd) (λf fj q=>?_) λx s' q=>exc x s' (XS.jD K02 (XS.up e2 q));rcases q with⟨c3,q⟩ |⟨a,v,e',g',γ',q⟩
   ·refine gR q.2 ?_
    exact⟨n,Zl _,c3,q.3,q.4,K02.trans q.5,e2.at q.1⟩
   ·refine gR q.2 ?_
    exact .inr ⟨a,v,e',g',γ',(e2.at q.1).1.symm,rfl,q.3,K02.trans q.4,q.5⟩
theorem wm(hx:jM A fx){t:CE}{a:aK}(ht:ct A call fx t)(ha:eu A call fx a):g9 A call fx (.while t a p):=λc r I h=>
 wpAny_While (codeAny_whileLoop (WS call fx c (pV p.line (λe g=>eH T.tb t e g) (λe g=>aY T.tb a e g)) r) (λn s' q=>wk hx ht ha I (λx s' z=>hx.loop c r x s' I z) q) fuel ⟨c,rfl,I,.refl _ _ _,h⟩)
end
section
variable{call:Call}
def iN(c c':ah):Prop:=∀a o,(c.γ.R a=.sys\/c.γ.R a=.free)->c.s.heap.get? a=some o->c'.γ.R a=c.γ.R a/\c'.s.heap.get? a=some o
theorem iN.refl(c:ah):iN c c:=λ_ _ _ e=>⟨rfl,e⟩
theorem iN.sub(x:iN c c'):Sub (lk c.γ.R c.s.heap) (lk c'.γ.R c'.s.heap):=λb o e=>let⟨r,e'⟩:=aw e;let⟨r',ta⟩:=x b o (.inr r) e';aB (r'.trans r) ta
theorem Pa{it:zJ}(r:γ.R it=.aM)(ra:γ.R a=.sys\/γ.R a=.free):a≠it:=by rintro rfl;replace ra:=r▸ra;rcases ra with h |h <;> cases h
structure DE(fx:Fx)(c₀ c:ah)(P:zJ->Prop):Prop where
 f:∀a,P a->dh c₀ a
 r:∀a,P a->c.γ.R a=.aM
 o:∀a,P a->∃o,aF (c.s.heap.get? a=some o) (∀v,o.data≠.cell v)
 ro:∀a,P a->∀(j:Nat) (y:Str) (q:Option zJ) (l:List D),(j,y,q)∈fx.lay->c.e[j]? =some (Slot.ro l)->c.γ.own j≠a
theorem Inv.MH(I:Inv fx c)(K:ak c₀.γ c₀.g.length c₀.s.heap c.γ c.g.length c.s.heap){P:zJ->Prop}(hP:DE fx c₀ c P)
  (k:∀b ob,¬P b->c.s.heap.get? b=some ob->s'.heap.get? b=some ob) (Pb:s'.os=c.s.os) (hg:s'.gens=c.s.gens) R' (h1:∀b,¬P b->R' b=c.γ.R b) (h2:∀b,P b->R' b=.free\/aF (R' b=.aM) ((s'.heap.get? b).isSome=true)):
  dQ (Inv fx {c with γ:={c.γ with R:=R'},s:=s'}) (ak c₀.γ c₀.g.length c₀.s.heap {c.γ with R:=R'} c.g.length s'.heap) (Sub (lk c.γ.R c.s.heap) (lk R' s'.heap)) (iN c {c with γ:={c.γ with R:=R'},s:=s'}):=by
 have ne:∀b,c.γ.R b≠.aM->¬P b:=λb h p=>h (hP.r b p);have hf:∀b o,c.γ.R b=.free->c.s.heap.get? b=some o->R' b=.free/\s'.heap.get? b=some o:=λb o q e=>
  have n:=ne b (bA q rfl);⟨(h1 b n).trans q,k b o n e⟩
 have sb:Sub (lk c.γ.R c.s.heap) (lk R' s'.heap):=λb o e=>by refine zg (λz e'=>?_) (aw e);refine zg (λz1 z2=>?_) (hf b o z e');exact aB z1 z2
 have slots:∀ov i sl,(c8 λy q=>(i,y,q)∈fx.lay)->c.e[i]? =some sl->aJ c.γ c.g.length c.s.heap ov i sl->aJ {c.γ with R:=R'} c.g.length s'.heap ov i sl:=by
  rintro ov i sl ⟨y',q',FF⟩ IB x;cases sl with
  |un=>trivial
  |v b=>
   refine ze x λv t7=>?_;obtain⟨e,x⟩:=t7;exact⟨v,e,cN.au (γ:=c.γ) (γ':={c.γ with R:=R'}) sb (zm _) (λ_ _=>rfl) x⟩
  |ol l=>
   refine zg (λq1 Wk=>?_) x;obtain⟨q2,vs,n,q3,d⟩:=Wk;have n1:=ne (c.γ.own i) (bA q2 rfl);exact⟨q1,(h1 _ n1).trans q2,vs,n,k _ _ n1 q3,d.sub sb⟩
  |ro l=>
   refine zg (λq1 jN=>?_) x;obtain⟨q2,vs,n,q3,d⟩:=jN;have n1:¬P (c.γ.own i):=λp=>hP.ro _ p i y' q' l FF IB rfl;exact⟨q1,(h1 _ n1).trans q2,vs,n,k _ _ n1 q3,d.sub sb⟩
  |od l=>
   refine zg (λq1 mD=>?_) x;obtain⟨q2,ps,q3,d⟩:=mD;have n1:=ne (c.γ.own i) (bA q2 rfl);exact⟨q1,(h1 _ n1).trans q2,ps,cW (λo e=>k _ _ n1 e) q3,iL.sub sb d⟩
 have ext:∀b o,(c₀.γ.R b=.free\/c₀.γ.R b=.aM)->c₀.s.heap.get? b=some o->¬P b:=λb o q e p=>hP.f b p b o q e rfl;refine⟨⟨⟨λn q e=>?_,λb q=>?_,λb q e=>hf b q (I.g.top b q e).1 (I.g.top b q e).2,Pb.trans I.g.os,hg.trans I.g.gens⟩,⟨?_,λi x b hx=>?_,I.q6 λb o r e=>⟨(h1 b (ne b (bA r rfl))).trans r,o,k b o (ne b (bA r rfl)) e,.refl o⟩⟩⟩,⟨λb o q e=>?_,λb o q e=>?_,K.len,K.aI,λb o q e=>?_⟩,sb,λb o q e=>?_⟩
 ·exact dW.au (γ:=c.γ) (γ':={c.γ with R:=R'}) (n:=c.g.length) hf (zm _) (zr.mp e).1 (λ_ _=>rfl)
   (λb o j q e=>have n:=ne b (bA q rfl);⟨(h1 b n).trans q,k b o n e⟩) (I.g.objs n q e)
 ·by_cases n:P b
  ·exact(h2 b n).elim (λh=>absurd h q) λh=>h.2
  ·exact ze (zp.mp (I.g.live b (gL (h1 b n ..) q))) λob DA=>(zp.mpr ⟨ob,k b ob n DA⟩)
 ·obtain⟨m,x,b,f⟩:=I.f.ns
  have n:=ne fx.env.locals (bA b rfl);exact⟨m,ly (λo e=>k _ o n e) x,(h1 _ n).trans b,λi x hx s' e=>slots _ _ _ ⟨x,_,hx⟩ e (f i x hx s' e)⟩
 ·refine ze (I.f.cells i x b hx) λov Pc=>?_;obtain⟨b',r',f⟩:=Pc
  have n:¬P b:=λp=>by
   refine ze b' λo' uc=>?_;obtain⟨fK,Cb⟩:=uc;refine ze (hP.o b p) λo lQ=>?_;rw[lQ.1] at fK;obtain rfl:=zh fK;exact lQ.2 _ Cb
  exact⟨ov,iD (λo e=>k _ o n e) b',by show(R' b=_\/R' b=_)/\(_->R' b=_);refine gR (h1 b n ..) ?_;exact r',λs' e=>slots _ _ _ ⟨x,_,hx⟩ e (f s' e)⟩
 ·have n:=ext b o (.inl q) e
  obtain⟨z,e'⟩:=K.j7 b o q e;exact⟨(h1 b n).trans z,k b o n e'⟩
 ·have n:=ext b o (.inr q) e
  obtain⟨z,e'⟩:=K.aM b o q e;exact⟨(h1 b n).trans z,k b o n e'⟩
 ·obtain⟨z,o',e',y⟩:=K.fr b o q e
  have n:=ne b (bA z rfl);exact⟨(h1 b n).trans z,o',k b o' n e',y⟩
 ·have n:=ne b (by rcases q with q |q <;> refine gR q ?_ <;> simp)
  exact⟨h1 b n,k b o n e⟩
theorem Inv.Kf(I:Inv fx c)(K:ak c₀.γ c₀.g.length c₀.s.heap c.γ c.g.length c.s.heap){P:zJ->Prop}(hP:DE fx c₀ c P)(k:∀b ob,¬P b->c.s.heap.get? b=some ob->s'.heap.get? b=some ob)(Pb:s'.os=c.s.os)(hg:s'.gens=c.s.gens)
  (lv:∀b,P b->(s'.heap.get? b).isSome=true):dQ (Inv fx {c with s:=s'}) (ak c₀.γ c₀.g.length c₀.s.heap c.γ c.g.length s'.heap) (Sub (lk c.γ.R c.s.heap) (lk c.γ.R s'.heap)) (iN c {c with s:=s'}):=
 I.MH K hP k Pb hg c.γ.R (λ_ _=>rfl) λb hb=>.inr ⟨hP.r b hb,lv b hb⟩
open Classical in
def FU(c:ah)(P:zJ->Prop)(s':zt):ah:=⟨{c.γ with R:=λb=>if P b then .free else c.γ.R b},c.e,c.g,s'⟩
theorem Inv.Cq(I:Inv fx c)(K:ak c₀.γ c₀.g.length c₀.s.heap c.γ c.g.length c.s.heap){P:zJ->Prop}(hP:DE fx c₀ c P)(k:∀b ob,¬P b->c.s.heap.get? b=some ob->s'.heap.get? b=some ob)(Pb:s'.os=c.s.os)(hg:s'.gens=c.s.gens):
  dQ (Inv fx (FU c P s')) (ak c₀.γ c₀.g.length c₀.s.heap (FU c P s').γ c.g.length s'.heap) (Sub (lk c.γ.R c.s.heap) (lk (FU c P s').γ.R s'.heap)) (iN c (FU c P s')):=
 I.MH K hP k Pb hg (FU c P s').γ.R (λ_ h=>if_neg h) λ_ h=>.inl (if_pos h)
theorem wo(I:Inv fx c)(ho:c.s.heap.get? a=some o)(nl:∀vs n,o≠aO vs n):∀j y q l,(j,y,q)∈fx.lay->c.e[j]? =some (Slot.ro l)->c.γ.own j≠a:=by intro j y q l hj h e;refine ze (slot_of I hj h) λov mG=>(zg (λk _=>?_) mG);refine zg (λ_ tA=>?_) k;refine zg (λ_ uh=>?_) tA;obtain⟨vs,n,e',_⟩:=uh;rw[e,ho] at e';exact nl _ _ (zh e')
def But(it:zJ)(c c':ah):Prop:=∀b ob,b≠it->c.s.heap.get? b=some ob->c'.γ.R b=c.γ.R b/\c'.s.heap.get? b=some ob
theorem But.sys{it:zJ}(x:But it c c')(r:c.γ.R it=.aM):iN c c':=λa o ra e=>x a o (Pa r ra) e
structure tc(A:ZV)(fx:Fx)(c₀:ah)(it:zo)(l:List D)(ok:ah->Prop)(St:Nat->ah->Prop)(Md:Nat->zo->ah->Prop):Prop where
 keep:∀i c c',St i c->ak c.γ c.g.length c.s.heap c'.γ c'.g.length c'.s.heap->St i c'
 self:∀i c (Q:zo->zt->Prop) (E:zo->zt->Prop),St i c->Q it c.s->zx (zv prog w) A (pyIter it) Q E c.s
 item:∀i c p (Q:Option zo->zt->Prop) (E:zo->zt->Prop),l[i]? =some p->St i c->ok c->Inv fx c->ak c₀.γ c₀.g.length c₀.s.heap c.γ c.g.length c.s.heap->
  (∀v c',Inv fx c'->c'.e=c.e->c'.g=c.g->ak c₀.γ c₀.g.length c₀.s.heap c'.γ c'.g.length c'.s.heap->iN c c'->Md i v c'->DR (lk c'.γ.R c'.s.heap) p v->Q (some v) c'.s)->zx (zv prog w) A (pyNext it) Q E c.s
 stop:∀c (Q:Option zo->zt->Prop) (E:zo->zt->Prop),St l.length c->ok c->Inv fx c->ak c₀.γ c₀.g.length c₀.s.heap c.γ c.g.length c.s.heap->
  (∀c',Inv fx c'->c'.e=c.e->c'.g=c.g->ak c₀.γ c₀.g.length c₀.s.heap c'.γ c'.g.length c'.s.heap->iN c c'->Q none c'.s)->zx (zv prog w) A (pyNext it) Q E c.s
 go:∀i v c nt pos p (Q:Unit->zt->Prop) (E:zo->zt->Prop),Md i v c->Inv fx c->ak c₀.γ c₀.g.length c₀.s.heap c.γ c.g.length c.s.heap->DR (lk c.γ.R c.s.heap) p v->
  (∀c',Inv fx c'->c'.e=c.e->c'.g=c.g->ak c₀.γ c₀.g.length c₀.s.heap c'.γ c'.g.length c'.s.heap->iN c c'->St (i+1) c'->DR (lk c'.γ.R c'.s.heap) p v->Q () c'.s)->zx (zv prog w) A (letOwnedTupleGo (.Tuple nt 0 pos) it v) Q E c.s
theorem DE.of(I:Inv fx c){P:zJ->Prop}(h:∀a,P a->aF (dh c₀ a) (c.γ.R a=.aM))(ho:∀a,P a->∃o,aG (c.s.heap.get? a=some o) (∀vs n,o≠aO vs n) (∀v,o.data≠.cell v)):DE fx c₀ c P:=
 ⟨λa p=>(h a p).1,λa p=>(h a p).2,λa p=>(ho a p).imp λ_ z=>⟨z.1,z.3⟩,λa p=>(ho a p).elim λ_ z=>wo I z.1 z.2⟩
def wq(c:ah)(a:zJ):Prop:=∀b ob,(c.γ.R b=.free\/c.γ.R b=.aM\/c.γ.R b=.sys)->c.s.heap.get? b=some ob->b≠a
theorem wq.of(K:Ext c c')(h:c'.s.heap.get? a=none):wq c a:=by
 rintro b ob r e rfl;rcases r with r |r |r
 ·rw[(K.x.j7 b ob r e).2] at h;exact nomatch h
 ·rw[(K.x.aM b ob r e).2] at h;exact nomatch h
 ·refine zg (λ_ Eb=>?_) (K.sys b ob r e);refine ze Eb λo' Fy=>(zg (λe' _=>?_) Fy);replace h:=e'▸h;exact nomatch h
def d5(c c₀:ah):Prop:=∀a,wq c a->dh c₀ a
theorem d5.refl c:d5 c c:=λ_ h b ob r e=>h b ob (r.elim .inl λr=>.inr (.inl r)) e
end
section
variable{call:Call}
noncomputable def Wl(t:Nat×Nat×Pos):CT:=.n t.1 t.2.1 t.2.2
theorem uk nm ts q:oO nm ts (some q)=.Tuple ((ts.map Wl).map (toT nm)) 0 q:=by exact gR ye rfl
theorem Cr(ok:bF fx):∀(ts:List (Nat×Nat×Pos)) l vs c,(∀t∈ts,∃o,qp fx t.1 t.2.1 o)->l.length=ts.length->Inv fx c->aU (lk c.γ.R c.s.heap) l vs->∀{Q:Unit->zt->Prop},
  (∀s',Inv fx {c with e:=(ts.zip l).foldl (λe p=>bh e p.1.1 (.v (.d p.2))) c.e,s:=s'}->ak c.γ c.g.length c.s.heap c.γ c.g.length s'.heap->(∀b ob,(c.γ.R b≠.sys\/∀i x o,(i,x,o)∈fx.lay->b≠placeOf fx o)->c.s.heap.get? b=some ob->s'.heap.get? b=some ob)->Q () s')->
  zx (zv prog w) A (assignInOrder ((assignEach ((ts.map Wl).map (toT T.tb.nm)) fx.env).map (·.2)) vs) Q E c.s:=by
 intro ts
 induction ts with
 |nil=>
  intro l vs c _ hl I d Q q;cases l with
  |nil=>exact cG (q c.s I (.refl _ _ _) λ_ _ _ e=>e)
  |cons _ _=>cases hl
 |cons t r ih=>
  intro l vs c tg hl I d Q q;cases l with
  |nil=>cases hl
  |cons p l=>
   obtain⟨v,tl,d⟩:=d;obtain⟨o,tt⟩:=tg t (.head _);refine gR d.1 ?_;rewrite [Zo];rewrite [Zo];refine gR (bE (iF _ _) ..) (gR Zo ?_);exact assignInOrder_cons (wpAny_assign_Name (fe ok I (.refl _ _ _) tt (a:=.d p) d.2 λs' I2 K2 hk=>ih l tl {c with e:=bh c.e t.1 (.v (.d p)),s:=s'} (λt ht=>tg t (.tail _ ht)) (Yw hl) I2 (d.3.sub K2.sub) λhJ I3 K3 qf=>
    q hJ I3 (K2.trans K3) λb ob h e=>qf b ob h (hk b ob h e)))
theorem qq(ok:bF fx)(hh:A.handled=none){ts:List (Nat×Nat×Pos)}{tp:Option Pos}(tg:∀t∈ts,∃o,qp fx t.1 t.2.1 o)(I:Inv fx c){x:D}(d:DR (lk c.γ.R c.s.heap) x v)(hb:(gU ts tp x c.e).is e1)
  {Q:Unit->zt->Prop} (q:∀s',Inv fx {c with e:=e1,s:=s'}->ak c.γ c.g.length c.s.heap c.γ c.g.length s'.heap->(∀b ob,(c.γ.R b≠.sys\/∀i x o,(i,x,o)∈fx.lay->b≠placeOf fx o)->c.s.heap.get? b=some ob->s'.heap.get? b=some ob)->Q () s'):
  zx (zv prog w) A (assign (oO T.tb.nm ts tp) fx.env v) Q E c.s:=by
 cases tp with
 |none=>
  cases ts with
  |nil=>exact hb.elim
  |cons t r=>
   cases r with
   |cons _ _=>exact hb.elim
   |nil=>
    subst hb;obtain⟨o,t⟩:=tg _ (.head _);exact wpAny_assign_Name (fe ok I (.refl _ _ _) t (a:=.d x) d q)
 |some p=>
  refine O.cV hb λl el hb'=>?_;cases fV el;cases hb'.2;have hl:=Yx hb'.1;refine gR (uk ..) ?_;obtain⟨ad,vs,n,d⟩:=d;refine gR d.1 (wpAny_assign_Tuple hh ⟨_,(aw d.2).2,rfl,n,rfl⟩ (by refine gR (di ..) (gR (zA ..) ?_);exact(d.3.length.trans hl).symm) (cO _ _ _) λh' he=>?_);have gr:ae c.s {c.s with heap:=h'}:=⟨λb ob e=>he b ob (zU (zZ e)) e,rfl,rfl⟩;exact Cr ok ts l vs {c with s:={c.s with heap:=h'}} tg hl (I.dD gr) (d.3.sub (bR gr)) λs' I2 K2 hk=>q s' I2 ((ak.jz gr.sub).trans K2) λb ob h e=>hk b ob h (gr.sub _ _ e)
theorem FV(ok:bF fx)(hh:A.handled=none){ts:List (Nat×Nat×Pos)}{tp:Option Pos}(tg:∀t∈ts,∃o,qp fx t.1 t.2.1 o)(I:Inv fx c)(K:ak c₀.γ c₀.g.length c₀.s.heap c.γ c.g.length c.s.heap){x:D}(d:DR (lk c.γ.R c.s.heap) x v)(hb:(gU ts tp x c.e).is e1)
  {Q:Unit->zt->Prop} (q:∀c',Inv fx c'->c'.e=e1->c'.g=c.g->ak c₀.γ c₀.g.length c₀.s.heap c'.γ c'.g.length c'.s.heap->ak c.γ c.g.length c.s.heap c'.γ c'.g.length c'.s.heap->Q () c'.s):
  zx (zv prog w) A (assign (oO T.tb.nm ts tp) fx.env v) Q E c.s:=
 qq ok hh tg I d hb λs' I2 K2 _=>q {c with e:=e1,s:=s'} I2 rfl rfl (K.trans K2) K2
theorem qs{P:Env->Prop}{ts:List (Nat×Nat×Pos)}{tp:Option Pos}{x:D}(hb:(gU ts tp x e).is e1)(h0:P e)(hs:∀t∈ts,∀d e',P e'->P (bh e' t.1 (.v (.d d)))):P e1:=by
 cases tp with
 |none=>
  cases ts with
  |nil=>exact hb.elim
  |cons t r=>
   cases r with
   |cons _ _=>exact hb.elim
   |nil=>subst hb;exact hs t (.head _) x e h0
 |some p=>
  have go:∀(ps:List ((Nat×Nat×Pos)×D)),(∀p∈ps,p.1∈ts)->∀e',P e'->P (ps.foldl (λe p=>bh e p.1.1 (.v (.d p.2))) e'):=by
   intro ps
   induction ps with
   |nil=>exact λ_ e' h=>h
   |cons p ps ih=>exact λhp e' h=>ih (λq hq=>hp q (.tail _ hq)) _ (hs _ (hp p (.head _)) _ e' h)
  exact O.cV hb λl el hb=>hb.2▸go _ (λp hp=>(YR hp).1) e h0
def fBody(tb:Tb)(ts:List (Nat×Nat×Pos))(tp:Option Pos)(a:aK)(x:D)(e:Env)(g:G):W (Fl×Env×G):=(fH (gU ts tp x e)).bind λe1=>aY tb a e1 g
theorem qt{l:List α}{x:α}{r:List α}(h:l.drop i=x::r):aG (i<l.length) (l[i]? =some x) (l.drop (i+1)=r):=
 have hi:=Nat.lt_of_not_le λq=>nomatch (adt q).symm.trans h;have e:=yy ((List.drop_eq_getElem_cons hi).symm.trans h)
 ⟨hi,(zB hi).trans (congrArg some e.1),e.2⟩
theorem drop_nil{l:List α}(h:l.drop i=[]):l.length<=i:=List.drop_eq_nil_iff.mp h
def FS(call:Call)(fx:Fx)(c₀:ah)(St:Nat->ah->Prop)(l:List D)(F:List D->Env->G->W (Fl×Env×G))(r:R (Fl×Env×G))(n:Nat)(s':zt):Prop:=
 c8 λi c'=>IM (c'.s=s') (Inv fx c') (ak c₀.γ c₀.g.length c₀.s.heap c'.γ c'.g.length c'.s.heap) (St i c') (i<=l.length) (n=l.length - i) (Rn call (F (l.drop i) c'.e c'.g) r)
section
variable{ts:List (Nat×Nat×Pos)}{tp:Option Pos}{a:aK}{l:List D}{it:zo}{qu:ah->Prop}{St:Nat->ah->Prop}{Md:Nat->zo->ah->Prop}{r:R (Fl×Env×G)}{NB:zo->zt->Prop}
theorem FW(ok:bF fx)(hh:A.handled=none)(tg:∀t∈ts,∃o,qp fx t.1 t.2.1 o)(ha:eu A call fx a)(J:tc A fx c₀ it l qu St Md)(exc:∀x s',XS fx c₀ r x s'->NB x s'){i n:Nat}(hn:l.length - (i+1)<n)(vX:i<l.length){x:D}{v:zo}
  {c3:ah} (I3:Inv fx c3) (K3:ak c₀.γ c₀.g.length c₀.s.heap c3.γ c3.g.length c3.s.heap) (S3:St (i+1) c3) (D3:DR (lk c3.γ.R c3.s.heap) x v)
  (e1:Rn call ((fBody T.tb ts tp a x c3.e c3.g).bind λy=>match y.1 with
   |.gV=>ll (λe g=>stays e g src l) (fBody T.tb ts tp a) (l.drop (i+1)) y.2.1 y.2.2
   |.brk=>.ok (.gV,y.2)
   |fl=>.ok (fl,y.2)) r):
  zx (zv prog w) A (assign (oO T.tb.nm ts tp) fx.env v) (λ_ gw=>zx (zv prog w) A (execs (eC T.tb.nm a) fx.env) (λf fj=>match f with
     |.next |.cont=>∃m,m<n/\FS call fx c₀ St l (ll (λe g=>stays e g src l) (fBody T.tb ts tp a)) r m fj
     |.brk=>QS fx c₀ r .next fj
     |.ret v=>QS fx c₀ r (.ret v) fj) NB gw) NB c3.s:=
 (Rn.bu (x:=fH (gU ts tp x c3.e)) e1).fH λe2 hb e1=>FV ok hh tg I3 K3 D3 hb λc4 I4 ee4 eg4 K4 K34=>by
  rw[←eg4,←ee4] at e1;refine zI (ha c4 _ I4 e1.vd) (λf fj q=>?_) λx s' h=>exc _ _ (XS.jD K4 (XS.up e1 h));rcases q with⟨c5,q⟩ |⟨a,v,e',g',γ',q⟩
  ·refine gR q.2 ?_
   exact⟨l.length - (i+1),hn,i+1,c5,q.3,q.4,K4.trans q.5,J.keep _ _ _ (J.keep _ _ _ S3 K34) q.5,vX,rfl,e1.at q.1⟩
  ·refine gR q.2 ?_
   exact .inr ⟨a,v,e',g',γ',(e1.at q.1).1.symm,rfl,q.3,K4.trans q.4,q.5⟩
theorem tc.goT{fN:Fx}(J:tc A fN c₀ it l qu St Md)(Pd:tp=none->∃t,ts=[t])(Wm:tp=none->∀i v c,Md i v c->St (i+1) c)(M:Md i v c)(I:Inv fN c)(K:ak c₀.γ c₀.g.length c₀.s.heap c.γ c.g.length c.s.heap){p:D}(d:DR (lk c.γ.R c.s.heap) p v)
  {Q:Unit->zt->Prop} (q:∀c',Inv fN c'->c'.e=c.e->c'.g=c.g->ak c₀.γ c₀.g.length c₀.s.heap c'.γ c'.g.length c'.s.heap->iN c c'->St (i+1) c'->DR (lk c'.γ.R c'.s.heap) p v->Q () c'.s):zx (zv prog w) A (letOwnedTupleGo (oO T.tb.nm ts tp) it v) Q E c.s:=by
 cases tp with
 |none=>
  obtain⟨t,FY⟩:=Pd rfl;refine gR FY ?_;exact zl (q c I rfl rfl K (.refl c) (Wm rfl _ _ _ M) d)
 |some p=>
  exact gR (uk ..) (J.go i v c _ _ _ _ _ M I K d q)
theorem FZ{fN:Fx}(J:tc A fN c₀ it l qu St Md)(Kg:∀c,stays c.e c.g src l=true->∀i,St i c->qu c){f:D->Env->G->W (Fl×Env×G)}{n:Nat}{s':zt}(h:FS call fN c₀ St l (ll (λe g=>stays e g src l) f) r n s'){Q:Option zo->zt->Prop}
  (q0:∀c',r=.ok (.gV,c'.e,c'.g)->Inv fN c'->ak c₀.γ c₀.g.length c₀.s.heap c'.γ c'.g.length c'.s.heap->Q none c'.s)
  (q1:∀i x v c',i<l.length->n=l.length - i->Inv fN c'->ak c₀.γ c₀.g.length c₀.s.heap c'.γ c'.g.length c'.s.heap->Md i v c'->DR (lk c'.γ.R c'.s.heap) x v->
   Rn call ((f x c'.e c'.g).bind λy=>match y.1 with
   |.gV=>ll (λe g=>stays e g src l) f (l.drop (i+1)) y.2.1 y.2.2
   |.brk=>.ok (.gV,y.2)
   |fl=>.ok (fl,y.2)) r->Q (some v) c'.s):zx (zv prog w) A (pyNext it) Q E s':=by
 obtain⟨i,c1,h⟩:=h;refine gL h.1 ?_;have e1:=h.7;cases hd:l.drop i with
 |nil=>
  rw[hd] at e1;cases yS h.5 (drop_nil hd);have e1:=Rn.bO e1;exact J.stop c1 _ _ h.4 (Kg c1 e1.1 _ h.4) h.2 h.3 λc2 I2 ee eg K2 _=>q0 c2 (ee▸eg▸e1.2.1.symm) I2 K2
 |cons x rest=>
  replace e1:=hd▸e1;have z:=qt hd;have e1:=Rn.bO e1;exact J.item i c1 x _ _ z.2 h.4 (Kg c1 e1.1 _ h.4) h.2 h.3 λv c2 I2 ee eg K2 _ M2 D2=>q1 i x v c2 z.1 h.6 I2 K2 M2 D2 (z.3.symm▸ee.symm▸eg.symm▸e1.2)
theorem um(hx:jM A fx)(ok:bF fx)(hh:A.handled=none)(tg:∀t∈ts,∃o,qp fx t.1 t.2.1 o)(Pd:tp=none->∃t,ts=[t])(ha:eu A call fx a)
  (J:tc A fx c₀ it l qu St Md) (Kg:∀c,stays c.e c.g src l=true->∀i,St i c->qu c) (Wm:tp=none->∀i v c,Md i v c->St (i+1) c)
  {c:ah} (ace:Inv fx c₀) (I:Inv fx c) (K:ak c₀.γ c₀.g.length c₀.s.heap c.γ c.g.length c.s.heap) (S:St 0 c) (er:Rn call (ll (λe g=>stays e g src l) (fBody T.tb ts tp a) l c.e c.g) r):
  ZH (zv prog w) A (.forLoop (oO T.tb.nm ts tp) it (eC T.tb.nm a) [] fx.env) (λr' s'=>match r' with |.ok f=>QS fx c₀ r f s' |.error e=>adB (zv prog w) A fx.env (XS fx c₀ r) e s') c.s:=
 codeAny_forLoop_any (FS call fx c₀ St l (ll (λe g=>stays e g src l) (fBody T.tb ts tp a)) r) (λn s' h=>FZ J Kg h (λc2 e I2 K2=>wpAny_execs_nil (.n e I2 K2)) λi x v c2 hi hn I2 K2 M2 D2 e2=>J.goT Pd Wm M2 I2 K2 D2 λc3 I3 Wn eg3 K3 _ S3 D3=>
  FW ok hh tg ha J (λx s' z=>hx.loop c₀ r x s' ace z) (hn▸adD _ _ hi) hi I3 K3 S3 D3 (Wn.symm▸eg3.symm▸e2)) l.length ⟨0,c,rfl,I,K,S,zE _,rfl,er⟩
end
end
variable{ts:List (Nat×Nat×Pos)}{tp:Option Pos}{qu:ah->Prop}{Md:Nat->zo->ah->Prop}
section
variable{call:Call}
mutual
theorem rV:∀{a b:D},BD a b=true->a=b
 |.none,b,h=>(DL h).symm
 |.bool _,b,h=>(BC (of_decide_eq_true h)).symm
 |.int _,b,h=>(dR (of_decide_eq_true h)).symm
 |.str _,b,h=>(fU (of_decide_eq_true h)).symm
 |.list _,b,h=>let⟨_,e,h⟩:=vt h;(congrArg PyData.list (jO h)).trans (eT e).symm
 |.tuple _,b,h=>let⟨_,e,h⟩:=vt h;(congrArg yq (jO h)).trans (fV e).symm
 |.dict _,b,h=>let⟨_,e,h⟩:=vt h;(congrArg PyData.dict (uo h)).trans (pU e).symm
theorem jO:∀{a b:List D},jq a b=true->a=b
 |[],b,h=>(List.isEmpty_iff.mp h).symm
 |a::r,b,h=>by
  cases b with
  |nil=>exact absurd h zi
  |cons b t=>exact gR (rV (aa h).1 ..) (gR (jO (aa h).2 ..) rfl)
theorem uo:∀{a b:List (D×D)},xw a b=true->a=b
 |[],b,h=>(List.isEmpty_iff.mp h).symm
 |(a,x)::r,b,h=>by
  cases b with
  |nil=>exact absurd h zi
  |cons b t=>obtain⟨b,y⟩:=b;exact gR (rV (aa h).1 ..) (gR (rV (aa (aa h).2).1 ..) (gR (uo (aa (aa h).2).2 ..) rfl))
end
def bP(h:yi)(it ax:zJ)(i:Nat)(t:Bool):Prop:=match t with
 |true=>h.IsTupleIter it ax i
 |false=>h.IsListIter it ax i
theorem bP.obj{it:zJ}(x:bP h it ax i t):c8 λo n=>eX (h.get? it=some o) (o.cls=.type n) ((n=="list")=false) ((["enumerate","zip","dict_itemiterator","dict_reverseitemiterator","odict_iterator","itertools.zip_longest","itertools.pairwise"].contains n)=false) (∃vs,o.data=.fields vs):=by
 cases t
 ·obtain⟨o,h1,h2,h3⟩:=x;exact⟨o,_,h1,h2,by decide,by decide,_,h3⟩
 ·obtain⟨o,h1,h2,h3⟩:=x;exact⟨o,_,h1,h2,by decide,by decide,_,h3⟩
theorem bP.at_{it:zJ}(k:∀o,h.get? it=some o->h'.get? it=some o)(x:bP h it ax i t):bP h' it ax i t:=by
 cases t
 ·obtain⟨o,h1,r⟩:=x;exact⟨o,k o h1,r⟩
 ·obtain⟨o,h1,r⟩:=x;exact⟨o,k o h1,r⟩
def dj(t:Bool)(vs:List zo)(n:Nat):Obj:=match t with
 |true=>fJ vs n
 |false=>aO vs n
theorem kO{it:zJ}{n:Nat}{x:zo}{Q:Option zo->zt->Prop}(hit:bP s.heap it ax i t)(hs:s.heap.get? ax=some (dj t vs n))(hx:vs[i]? =some x)
  (hQ:∀h',bP h' it ax (i+1) t->ZN it s.heap h'->Q (some x) {s with heap:=h'}):zx (zv prog w) A (pyNext (.ref it)) Q E s:=by
 cases t
 ·exact wpAny_pyNext_list_item hit ⟨_,hs,rfl,n,rfl⟩ (by simpa using hx) hQ
 ·exact wpAny_pyNext_tuple_item hit ⟨_,hs,rfl,n,rfl⟩ (by simpa using hx) hQ
theorem nu(hh:A.handled=none){it:zJ}{n:Nat}{Q:Option zo->zt->Prop}(hit:bP s.heap it ax i t)(hs:s.heap.get? ax=some (dj t vs n))(hx:vs[i]? =none)
  (hQ:∀h',yT it s.heap h'->Q none {s with heap:=h'}):zx (zv prog w) A (pyNext (.ref it)) Q E s:=by
 cases t
 ·exact wpAny_pyNext_list_end hh hit ⟨_,hs,rfl,n,rfl⟩ (by simpa using hx) hQ
 ·exact wpAny_pyNext_tuple_end hh hit ⟨_,hs,rfl,n,rfl⟩ (by simpa using hx) hQ
theorem rW{it:zJ}{nt:List Ye}{x1}{Q:Unit->zt->Prop}(hit:bP s.heap it ax i t)(hQ:Q () s):zx (zv prog w) A (letOwnedTupleGo (.Tuple nt x1 pos) (.ref it) v) Q E s:=by
 obtain⟨o,n,ho,hc,_,hn,vs,hd⟩:=hit.obj;cases v with
 |ref a=>
  refine zf (wpAny_load ho ?_);refine gR hc (gR hd ?_);dsimp only;exact gR hn (zl hQ)
 |_=>exact zl hQ
theorem kP{it:zJ}(hit:bP s.heap it ax i t)(q:Q (.ref it) s):zx (zv prog w) A (pyIter (.ref it)) Q E s:=by
 cases t
 ·exact wpAny_pyIter_listiter hit q
 ·exact wpAny_pyIter_tupleiter hit q
theorem ik{it:zJ}(x:bP h it ax i t):∃o,aG (h.get? it=some o) (∀vs n,o≠aO vs n) (∀v,o.data≠.cell v):=
 have⟨o,_,z⟩:=x.obj
 ⟨o,z.1,λ_ _ e=>Zq (z.3.symm.trans (beq_iff_eq.mpr (adK (z.2.symm.trans (congrArg Obj.cls e))))),λ_ e=>z.5.elim λ_ d=>nomatch d.symm.trans e⟩
def fg(c₀:ah)(it ax:zJ)(t:Bool)(i:Nat)(c:ah):Prop:=aG (c.γ.R it=.aM) (dh c₀ it) (bP c.s.heap it ax i t)
theorem fg.keep{it:zJ}(S:fg c₀ it ax t i c)(K:ak c.γ c.g.length c.s.heap c'.γ c'.g.length c'.s.heap):fg c₀ it ax t i c':=
 have⟨_,_,z⟩:=S.3.obj;have k:=K.aM it _ S.1 z.1
 ⟨k.1,S.2,S.3.at_ λo' h=>zh (z.1.symm.trans h)▸k.2⟩
theorem fg.hd{it:zJ}(S:fg c₀ it ax t i c)(I:Inv fx c):DE fx c₀ c λb=>b=it:=.of I (λa e=>e▸⟨S.2,S.1⟩) λa e=>e▸ik S.3
theorem nv{it:zJ}(S:fg c₀ it ax t i c)(Az:it≠ax){n:Nat}(hs:c.s.heap.get? ax=some (dj t vs n)){l:List D}(ds:aU (lk c.γ.R c.s.heap) l vs){p:D}(hp:l[i]? =some p)
  (I:Inv fx c) (K:ak c₀.γ c₀.g.length c₀.s.heap c.γ c.g.length c.s.heap) {Q:Option zo->zt->Prop}
  (q:∀v c',Inv fx c'->c'.e=c.e->c'.g=c.g->ak c₀.γ c₀.g.length c₀.s.heap c'.γ c'.g.length c'.s.heap->fg c₀ it ax t (i+1) c'->DR (lk c'.γ.R c'.s.heap) p v->c'.γ.aI=c.γ.aI->Sub (lk c.γ.R c.s.heap) (lk c'.γ.R c'.s.heap)->But it c c'->Q (some v) c'.s):
  zx (zv prog w) A (pyNext (.ref it)) Q E c.s:=by
 refine ze (ds.get hp) λv iM=>(zg (λhv dv=>?_) iM);refine kO S.3 hs hv λh' x' Pe=>?_;have z:=I.Kf (s':={c.s with heap:=h'}) K (S.hd I) (λb ob hb e=>(Pe.2 b hb).trans e) rfl rfl λb e=>e▸(ik x').elim λ_ y=>congrArg Zv y.1;exact q v {c with s:={c.s with heap:=h'}} z.1 rfl rfl z.2 ⟨S.1,S.2,x'⟩ (dv.sub z.3) rfl z.3 λb ob hb e=>⟨rfl,(Pe.2 b hb).trans e⟩
theorem nz(hh:A.handled=none){it:zJ}(S:fg c₀ it ax t i c){n:Nat}(hs:c.s.heap.get? ax=some (dj t vs n))(hp:vs[i]? =none)
  (I:Inv fx c) (K:ak c₀.γ c₀.g.length c₀.s.heap c.γ c.g.length c.s.heap) {Q:Option zo->zt->Prop}
  (q:∀c',Inv fx c'->c'.e=c.e->c'.g=c.g->ak c₀.γ c₀.g.length c₀.s.heap c'.γ c'.g.length c'.s.heap->iN c c'->Q none c'.s):
  zx (zv prog w) A (pyNext (.ref it)) Q E c.s:=
 nu hh S.3 hs hp λh' Pe=>
  have z:=I.Cq (s':={c.s with heap:=h'}) K (S.hd I) (λb ob hb e=>Pe b ob hb e) rfl rfl
  q (FU c _ _) z.1 rfl rfl z.2 z.4
theorem Kh(hh:A.handled=none){it:zJ}(Az:it≠ax){l:List D}:tc A fx c₀ (.ref it) l (λ_=>True)
  (λi c=>fg c₀ it ax t i c/\c8 λvs n=>lk c.γ.R c.s.heap ax=some (dj t vs n)/\aU (lk c.γ.R c.s.heap) l vs) (λi _ c=>fg c₀ it ax t (i+1) c/\c8 λvs n=>lk c.γ.R c.s.heap ax=some (dj t vs n)/\aU (lk c.γ.R c.s.heap) l vs) where
 self:=λi c Q E S q=>kP S.1.3 q
 keep:=λi c c' ⟨S,vs,n,h,d⟩ K=>⟨S.keep K,vs,n,K.sub _ _ h,d.sub K.sub⟩
 item:=λi c p Q E hp ⟨S,vs,n,h,d⟩ _ I K q=>nv S Az (aw h).2 d hp I K λv c' I' ee eg K' S' dv _ sb bt=>q v c' I' ee eg K' (bt.sys S.1) ⟨S',vs,n,sb _ _ h,d.sub sb⟩ dv
 stop:=λc Q E ⟨S,vs,n,h,d⟩ _ I K q=>nz hh S (aw h).2 (by refine gL d.length ?_;simp) I K q
 go:=λi v c nt pos p Q E ⟨S,x⟩ I K dv q=>rW S.3 (q c I rfl rfl K (.refl c) ⟨S,x⟩ dv)
theorem F0(hh:A.handled=none){it:zJ}(Az:it≠ax){n:Nat}{l:List D}:tc A fx c₀ (.ref it) l (λc=>c.g[n]? =some (.list l))
  (λi c=>fg c₀ it ax false i c/\n<c.g.length/\(c.γ.aI n).1=ax) (λi _ c=>fg c₀ it ax false (i+1) c/\n<c.g.length/\(c.γ.aI n).1=ax) where
 self:=λi c Q E S q=>kP S.1.3 q
 keep:=λi c c' ⟨S,hn,e⟩ K=>⟨S.keep K,zF hn K.len,gR (K.aI n hn ..) e⟩
 item:=λi c p Q E hp ⟨S,hn,e⟩ ok I K q=>by
  refine zg (λ_ rX=>?_) (I.g.objs n _ ok);obtain⟨vs,k,h,d⟩:=rX;rw[e] at h;exact nv S Az h d hp I K λv c' I' ee eg K' S' dv ph sb bt=>q v c' I' ee eg K' (bt.sys S.1) ⟨S',by refine gR eg ?_;exact hn,gR ph e⟩ dv
 stop:=λc Q E ⟨S,hn,e⟩ ok I K q=>by
  refine zg (λ_ xX=>?_) (I.g.objs n _ ok);obtain⟨vs,k,h,d⟩:=xX;rw[e] at h;exact nz hh S h (by refine gL d.length ?_;simp) I K q
 go:=λi v c nt pos p Q E ⟨S,x⟩ I K dv q=>rW S.3 (q c I rfl rfl K (.refl c) ⟨S,x⟩ dv)
theorem Pf(hh:A.handled=none){it:zJ}(Az:it≠ax){l:List D}:tc A fx c₀ (.ref it) l (λ_=>True)
  (λi c=>fg c₀ it ax false i c/\c.γ.R ax=.aM/\c8 λvs n=>c.s.heap.get? ax=some (aO vs n)/\aU (lk c.γ.R c.s.heap) l vs)
  (λi _ c=>fg c₀ it ax false (i+1) c/\c.γ.R ax=.aM/\c8 λvs n=>c.s.heap.get? ax=some (aO vs n)/\aU (lk c.γ.R c.s.heap) l vs) where
 self:=λi c Q E S q=>kP S.1.3 q
 keep:=λi c c' ⟨S,r,vs,n,h,d⟩ K=>⟨S.keep K,(K.aM _ _ r h).1,vs,n,(K.aM _ _ r h).2,d.sub K.sub⟩
 item:=λi c p Q E hp ⟨S,r,vs,n,h,d⟩ _ I K q=>nv S Az h d hp I K λv c' I' ee eg K' S' dv _ sb bt=>q v c' I' ee eg K' (bt.sys S.1) ⟨S',(bt _ _ Az.symm h).1.trans r,vs,n,(bt _ _ Az.symm h).2,d.sub sb⟩ dv
 stop:=λc Q E ⟨S,r,vs,n,h,d⟩ _ I K q=>nz hh S h (by refine gL d.length ?_;simp) I K q
 go:=λi v c nt pos p Q E ⟨S,x⟩ I K dv q=>rW S.3 (q c I rfl rfl K (.refl c) ⟨S,x⟩ dv)
theorem wt{n:Nat}(hs:s.heap.get? ax=some (dj t vs n))
  (hQ:∀o,bP (s.heap.push o) s.heap.objs.size ax 0 t->Q (.ref s.heap.objs.size) {s with heap:=s.heap.push o}):zx (zv prog w) A (pyIter (.ref ax)) Q E s:=by
 cases t
 ·exact wpAny_pyIter_list ⟨_,hs,rfl,n,rfl⟩ (hQ _ ⟨_,zq _ rfl,rfl,rfl⟩)
 ·exact wpAny_pyIter_tuple ⟨_,hs,rfl,n,rfl⟩ (hQ _ ⟨_,zq _ rfl,rfl,rfl⟩)
theorem kQ{cs:ah}(I:Inv fx c)(K:Ext cs c){n:Nat}(hs:c.s.heap.get? ax=some (dj t vs n))
  (q:∀it c',it≠ax->Inv fx c'->c'.e=c.e->c'.g=c.g->(∀c₀,d5 cs c₀->fg c₀ it ax t 0 c')->c'.γ.aI=c.γ.aI->Ext c c'->But it c c'->Q (.ref it) c'.s):zx (zv prog w) A (pyIter (.ref ax)) Q E c.s:=by
 refine wt hs λo x=>?_;obtain⟨ob,_,DA,_⟩:=x.obj;obtain⟨I1,K1⟩:=I.m7 (ae.push c.s o) (cx c.γ.R c.s.heap.objs.size .aM) (λy=>by
  by_cases hy:y=c.s.heap.objs.size
  ·exact gR hy (.inr ⟨ao _,by show(ad0 _ _).isSome=true;exact gR DA rfl⟩)
  ·exact .inl (aN hy))
 exact q c.s.heap.objs.size {c with γ:={c.γ with R:=cx c.γ.R c.s.heap.objs.size .aM},s:={c.s with heap:=c.s.heap.push o}} (Z8 (zU (zZ hs))) I1 rfl rfl (λc₀ hf=>⟨bw,hf _ (.of K (ao _)),x⟩) rfl K1 λb ob hb e=>⟨aN hb,zj _ e⟩
end
section
variable{call:Call}
def QI(A:ZV)(fx:Fx)(ng:Prop)(c:ah)(r:R ((AV×List D)×Env×G))(it:zo)(s':zt):Prop:=
 Ex6 λ(src:AV) (l:List D) (c':ah) (qu:ah->Prop) (St:ah->Nat->ah->Prop) (Md:ah->Nat->zo->ah->Prop)=>IM (r=.ok ((src,l),c'.e,c'.g)) (c'.s=s') (Inv fx c') (Ext c c') (∀fN c₀,d5 c c₀->tc A fN c₀ it l qu (St c₀) (Md c₀)/\St c₀ 0 c') (∀d,stays d.e d.g src l=true->qu d) (ng->∀c₀ i v d,Md c₀ i v d->St c₀ (i+1) d)
def Wo(r:R ((AV×List D)×Env×G))(e:Env):Prop:=(∀src l e' g,r=.ok ((src,l),e',g)->fX src=true)\/∀(j:Nat) (sl:Slot),e[j]? =some sl->sl.Jb=false
def rY(A:ZV)(call:Call)(fx:Fx)(ng:Prop)(ci:CI):Prop:=∀(c:ah) r,Inv fx c->Rn call (evI T.tb ci c.e c.g) r->Wo r c.e->
 zx (zv prog w) A (YJ (Dx T.tb.nm ci) fx.env) (λx az=>zx (zv prog w) A (pyIter x) (QI A fx ng c r) (XE c r) az) (XE c r) c.s
theorem Pg(hh:A.handled=none){a:CE}(ha:ai A call fx a):rY A call fx ng (.e a):=λc r I er hnw=>by
 refine ha.d7 I (.refl _) er λa1 c1 v1 er I1 K1 V1 _=>er.opt λl hl er=>(ze (bind_some hl) λp Wq=>?_);obtain⟨hd,hl⟩:=Wq;have e:=er.1.symm;have fin:∀{it:zo} {c2:ah} {qu:ah->Prop} {St:ah->Nat->ah->Prop} {Md:ah->Nat->zo->ah->Prop},c2.e=c1.e->c2.g=c1.g->Inv fx c2->Ext c1 c2->(∀fN c₀,d5 c c₀->tc A fN c₀ it l qu (St c₀) (Md c₀)/\St c₀ 0 c2)->
   (∀d,stays d.e d.g a1 l=true->qu d)->(ng->∀c₀ i v d,Md c₀ i v d->St c₀ (i+1) d)->QI A fx ng c r it c2.s:=λee eg I2 sb J ho hg=>⟨a1,l,_,_,_,_,ee▸eg▸e,rfl,I2,K1.trans sb,J,ho,hg⟩
 cases a1 with
 |d q=>
  obtain⟨ax,vs,n,t,rfl,h,d⟩:NN λax vs n t=>aG (v1=.ref ax) (lk c1.γ.R c1.s.heap ax=some (dj t vs n)) (aU (lk c1.γ.R c1.s.heap) l vs):=by
   obtain rfl:q=p:=zh hd;cases q with
   |list l=>obtain rfl:=zh hl;obtain⟨ax,vs,n,e,h,d⟩:=V1;exact⟨ax,vs,n,false,e,h,d⟩
   |tuple l=>obtain rfl:=zh hl;obtain⟨ax,vs,n,e,h,d⟩:=V1;exact⟨ax,vs,n,true,e,h,d⟩
   |_=>exact ns hl
  exact kQ I1 K1 (aw h).2 λit c2 Az I2 ee eg S2 ph sb _=>fin ee eg I2 sb (λfN c₀ hf=>⟨Kh hh Az,S2 c₀ hf,vs,n,sb.x.sub _ _ h,d.sub sb.x.sub⟩) (λ_ _=>trivial) λ_ _ _ _ _ h=>h
 |w i=>
  obtain⟨sl,ho,hd⟩:=bind_some hd;have vg:=hnw.elim (λh=>absurd (h _ _ _ _ e) zi) λh=>h i sl (gL (K1.env h ..) ho);cases sl with
  |ro l'=>
   obtain rfl:=zh hd;obtain rfl:=zh hl;obtain⟨uf,x,o,hx⟩:=V1;refine gR uf ?_;refine ze (slot_of I1 hx ho) λov FN=>(zg (λk _=>?_) FN);refine zg (λ_ tB=>?_) k;refine zg (λr Wr=>?_) tB;obtain⟨vs,n,h,d⟩:=Wr;exact kQ (t:=false) I1 K1 h λit c2 Az I2 ee eg S2 ph sb _=>fin ee eg I2 sb (λfN c₀ hf=>⟨Pf hh Az,S2 c₀ hf,(sb.x.aM _ _ r h).1,vs,n,(sb.x.aM _ _ r h).2,d.sub sb.x.sub⟩) (λ_ _=>trivial) λ_ _ _ _ _ h=>h
  |ol l=>exact absurd vg Zq
  |od l=>exact absurd vg Zq
  |un=>exact ns hd
  |v b=>exact ns hd
 |o n=>
  refine gR V1.1 (ze (bind_some hd) λob Wu=>?_);obtain⟨ho,hd⟩:=Wu;cases ob with
  |list l'=>
   obtain rfl:=zh hd;refine gR hl (zg (λr1 Wv=>?_) (I1.g.objs n _ ho));obtain⟨vs,k,h,d⟩:=Wv;refine kQ (t:=false) I1 K1 h λit c2 Az I2 ee eg S2 ph sb _=>fin ee eg I2 sb (λfN c₀ hf=>⟨F0 hh Az,S2 c₀ hf,by refine gR eg ?_;exact V1.2,by exact gR ph rfl⟩) (λd hs=>?_) λ_ _ _ _ _ h=>h;refine ze (vt hs) λl' wu=>(zg (λe hs=>?_) wu);refine ze (bind_some e) λq qY=>?_;obtain⟨e,eq⟩:=qY;refine ze (bind_some e) λob qX=>?_;obtain⟨ho,e⟩:=qX;cases eT eq;cases ob with
   |list l2=>cases e;exact gL (jO hs ..) ho
   |_=>exact ns e
  |_=>exact ns hd
noncomputable def il:Ye->Bool
 |.Set ..=>true
 |_=>false
theorem kR{e:Ye}(h:il e=false) env x:foldedSetIterable e env x=pure x:=by cases e <;> first |rfl |cases h
theorem F1(hx:jM A fx)(ok:bF fx)(hh:A.handled=none)(tg:∀t∈ts,∃o,qp fx t.1 t.2.1 o)(Pd:tp=none->∃t,ts=[t]){ci:CI}{a:aK}(wy:il (Dx T.tb.nm ci)=false)
  (hi:rY A call fx (tp=none) ci) (ha:eu A call fx a):g9 A call fx (.for ts tp ci a p):=λc r I h=>by
 refine wpAny_For (zI (hi c _ I h.vd (.inl λsrc l e g z=>(h.at z).bO.1)) (λx az q=>zI q (λit gw q=>?_) λ_ _ q=>(XE.up (.refl c) h q).tI I) λ_ _ q=>(XE.up (.refl c) h q).tI I) (kR wy _);obtain⟨src,l,c1,qu,St,Md,q⟩:=q;refine gL q.2 ?_;have z:=q.5 fx c (.refl c);exact um hx ok hh tg Pd ha z.1 (λd hs _ _=>q.6 d hs) (λh i v d=>q.7 h c i v d) I q.3 q.4.x z.2 (h.at q.1).bO.2
end
variable{ci:CI}
section
variable{call:Call}
noncomputable def d0:CT->Bool
 |.own ..=>true
 |_=>false
noncomputable def eI:CT->Nat
 |.n i _ _ |.own i _ _=>i
 |_=>0
def nameOf:CT->Str
 |.n _ x _ |.own _ x _=>T.tb.nm x
 |_=>⟨#[]⟩
def rZ:CT->AV->Slot
 |.own ..,a=>(DS a).getD .un
 |_,a=>.v a
def ur(fx:Fx):CT->Prop
 |.n i x _ |.own i x _=>∃o,qp fx i x o
 |_=>False
def PV(fx:Fx)(c₀ c:ah)(a:AV)(v:zo):Bool->Prop
 |true=>∃p,a=.d p/\gZ fx c₀ c p v
 |false=>du fx c a v
def PW(fx:Fx)(c₀ c:ah)(a:AV)(v:zo):Bool->Prop
 |true=>∃p,a=.d p/\gZ fx c₀ c p v
 |false=>cN c.γ c.g.length c.s.heap a v
theorem PV.au(K:Ext c c'){b:Bool}{a:AV}(h:PV fx c₀ c a v b):PV fx c₀ c' a v b:=by
 cases b with
 |true=>refine ze h λp wz=>(zg (λe h=>?_) wz);exact⟨p,e,h.au K⟩
 |false=>exact du.au K h
theorem PV.back{rN:ah}(K:ak c₀.γ c₀.g.length c₀.s.heap rN.γ rN.g.length rN.s.heap){b:Bool}{a:AV}(h:PV fx rN c a v b):PV fx c₀ c a v b:=by
 cases b with
 |true=>refine ze h λp mY=>(zg (λe h=>?_) mY);exact⟨p,e,h.back K⟩
 |false=>exact h
theorem PV.pw{b:Bool}{a:AV}(hw:fX a=true)(h:PV fx c₀ c a v b):PW fx c₀ c a v b:=by
 cases b with
 |true=>exact h
 |false=>exact du.lT hw h
def F3(A:ZV)(call:Call)(fx:Fx)(a:CE):Bool->Prop
 |true=>pb A call fx a
 |false=>ai A call fx a
theorem F3.d7{b:Bool}{a:CE}(h:F3 A call fx a b)(I:Inv fx c)(K:Ext c₀ c){r:R β}{f:AV×Env×G->W β}(er:Rn call ((cC T.tb a c.e c.g).bind f) r)
  (k:∀a1 c' v,Rn call (f (a1,c'.e,c'.g)) r->Inv fx c'->Ext c₀ c'->PV fx c c' a1 v b->Ext c c'->Q v c'.s):zx (zv prog w) A (YJ (aH T.tb.nm a) fx.env) Q (XE c₀ r) c.s:=by
 cases b with
 |true=>exact zI (h c _ I er.vd) (λv _ hq=>match hq with
  |⟨p,c',q⟩=>q.2▸k (.d p) c' v (er.at q.1) q.3 (K.trans q.4) ⟨p,rfl,q.5⟩ q.4) λ_ _=>XE.up K er
 |false=>exact ai.d7 h I K er k
theorem PV.apart{a1 a2:AV}{v2:zo}(h1:PV fx c c1 a1 v1 true)(h2:PV fx c1 c2 a2 v2 true):v2≠v1:=by refine ze h1 λp1 ES=>(zg (λ_ jb=>?_) ES);refine ze jb λad rm=>?_;obtain⟨e,r,fr,ro,o⟩:=rm;refine ze h2 λp2 rB=>(zg (λ_ lQ=>?_) rB);refine ze lQ λad2 kN=>?_;obtain⟨e2,r2,fr2,_⟩:=kN;refine ze (o.live) λob kB=>(zg (λho _=>?_) kB);exact λq=>fr2 ad ob (.inr r) ho (Value.ref.inj ((e.symm.trans q.symm).trans e2))
theorem AA{t:CT}(tg:ur fx t){a:AV}{r:R β}{f:Env×G->W β}(h:Rn call ((store T.tb t a e g).bind f) r):Rn call (f (bh e (eI t) (rZ t a),g)) r:=by
 cases t with
 |n i x q=>exact(Rn.bO (x:=f _) h).2
 |own i x q=>exact(Rn.bu h).opt λs es h=>(show rZ (.own i x q) a=s from congrArg (aeh · Slot.un) es)▸h
 |eY _ _ _=>exact tg.elim
 |sub _ _ _=>exact tg.elim
theorem Ph(p:D):(DS (.d p)).getD .un=qn p:=by cases p <;> rfl
theorem Ki(p:D)(l:List D):qn p≠.ro l:=by cases p <;> exact λh=>nomatch h
theorem PW.keep{b:Bool}{a:AV}(h:PW fx c₀ c a v b)(sb:Sub (lk c.γ.R c.s.heap) (lk γ'.R s'.heap))(ph:γ'.aI=c.γ.aI)
  (k:∀ad,v=.ref ad->b=true->c.γ.R ad=.aM->γ'.R ad=.aM/\(∀ob,c.s.heap.get? ad=some ob->s'.heap.get? ad=some ob)/\∀j l,e'[j]? =some (Slot.ro l)->c.e[j]? =some (Slot.ro l)/\γ'.own j=c.γ.own j\/γ'.own j≠ad):
  PW fx c₀ ⟨γ',e',c.g,s'⟩ a v b:=by
 cases b with
 |true=>
  obtain⟨p,e,ad,ev,r,fr,ro,o⟩:=h;have z:=k ad ev rfl r;exact⟨p,e,ad,ev,z.1,fr,λj y q l hj h=>(z.2.2 j l h).elim (λz=>z.2▸ro j y q l hj z.1) id,o.au sb z.2.1⟩
 |false=>exact cN.au (γ:=c.γ) (γ':=γ') (n:=c.g.length) sb (zm _) (λ_ _=>by exact gR ph rfl) h
theorem MI(ok:bF fx)(I:Inv fx c)(K:ak c₀.γ c₀.g.length c₀.s.heap c.γ c.g.length c.s.heap){t:CT}(tg:ur fx t){a:AV}(P:PW fx c₀ c a v (d0 t)){b:Bool}{a':AV}{v':zo}(P':PW fx c₀ c a' v' b)(ne:d0 t=true->b=true->v'≠v)
  {Q:Unit->zt->Prop} (q:∀c',Inv fx c'->ak c₀.γ c₀.g.length c₀.s.heap c'.γ c'.g.length c'.s.heap->c'.e=bh c.e (eI t) (rZ t a)->c'.g=c.g->PW fx c₀ c' a' v' b->Q () c'.s):zx (zv prog w) A (storeName fx.env (nameOf t) v) Q E c.s:=by
 cases t with
 |n i x p=>
  obtain⟨o,tg⟩:=tg;exact fe ok I K tg P λs' I2 K2 hk=>q {c with e:=_,s:=s'} I2 K2 rfl rfl (PW.keep P' (λb ob e=>aB (aw e).1 (hk b ob (.inl (bA (aw e).1 rfl)) (aw e).2)) rfl λad _ _ r=>⟨r,λob=>hk ad ob (.inl (bA r rfl)),λj l h=>.inl ⟨rF (sl:=.v a) (λ_ h=>nomatch h) h,rfl⟩⟩)
 |own i x p=>
  obtain⟨o,tg⟩:=tg;obtain⟨d,rfl,P⟩:=P;refine Ay ok I K tg P λad s' ev I2 K2 hk=>?_;have UI:c.γ.R ad=.aM:=by obtain⟨ad',e,ro,_⟩:=P;subst e;cases ev;exact ro
  have sb:Sub (lk c.γ.R c.s.heap) (lk (cx c.γ.R ad (.own i)) s'.heap):=λb ob e=>aB ((aN λz=>bA UI rfl (z▸(aw e).1)).trans (aw e).1) (hk b ob (bA (aw e).1 rfl) (aw e).2);refine q ⟨⟨cx c.γ.R ad (.own i),λj=>if j=i then ad else c.γ.own j,c.γ.aI⟩,bh c.e i (qn d),c.g,s'⟩ I2 K2 (congrArg (bh c.e i) (Ph d).symm) rfl (PW.keep P' sb rfl λad' e1 e2 r=>?_);have n1:ad'≠ad:=λz=>ne rfl e2 (e1.trans (z▸ev.symm));refine⟨(aN n1).trans r,λob=>hk ad' ob (bA r rfl),λj l h=>?_⟩;by_cases hji:j=i
  ·exact .inr λz=>n1 (((if_pos hji).symm.trans z).symm)
  ·exact .inl ⟨rF (Ki d) h,if_neg hji⟩
 |eY _ _ _=>exact tg.elim
 |sub _ _ _=>exact tg.elim
theorem AB(ok:bF fx)(I:Inv fx c)(K:ak c₀.γ c₀.g.length c₀.s.heap c.γ c.g.length c.s.heap){t u:CT}(ht:ur fx t)(hu:ur fx u){a b:AV}{x y:zo}(P:PW fx c₀ c a x (d0 t))(P':PW fx c₀ c b y (d0 u))(ne:d0 t=true->d0 u=true->y≠x)
  (F:CT->zo->Sem Unit) (hF:∀t,ur fx t->∀v Q s,zx (zv prog w) A (storeName fx.env (nameOf t) v) Q E s->zx (zv prog w) A (F t v) Q E s)  (he:bh (bh c.e (eI t) (rZ t a)) (eI u) (rZ u b)=e') {Q:Unit->zt->Prop}
  (q:∀c',Inv fx c'->ak c₀.γ c₀.g.length c₀.s.heap c'.γ c'.g.length c'.s.heap->c'.e=e'->c'.g=c.g->Q () c'.s):zx (zv prog w) A (assignInOrder [F t,F u] [x,y]) Q E c.s:=
 assignInOrder_cons (hF t ht _ _ _ (MI ok I K ht P P' ne λc1 I1 K1 e1 g1 P1=>assignInOrder_cons (hF u hu _ _ _ (MI ok I1 K1 hu P1 (b:=false) (a':=.d .none) (v':=.none) rfl (λ_ h=>absurd h zi) λc2 I2 K2 e2 g2 _=>
  cG (q c2 I2 K2 ((e2.trans (gR e1 rfl)).trans he) (g2.trans g1))))))
theorem Cs(ok:bF fx)(hh:A.handled=none){t u:CT}{a b:CE}{tp ep:Pos}(ht:ur fx t)(hu:ur fx u)(na:notStar (aH T.tb.nm a)=true)(nb:notStar (aH T.tb.nm b)=true)(ha:F3 A call fx a (d0 t))(hb:F3 A call fx b (d0 u))
  (O9:swappedStores [.Tuple [toT T.tb.nm t,toT T.tb.nm u] 0 tp] (.Tuple [aH T.tb.nm a,aH T.tb.nm b] 0 ep) fx.env=pure none\/
   swappedStores [.Tuple [toT T.tb.nm t,toT T.tb.nm u] 0 tp] (.Tuple [aH T.tb.nm a,aH T.tb.nm b] 0 ep) fx.env=pure (some [nameOf t,nameOf u])/\eI t≠eI u):g9 A call fx (.lK [t,u] tp (.cons a (.cons b .nil)) ep p):=λc r I h=>by
 refine(?_:zx _ _ (exec (.Assign [.Tuple [toT T.tb.nm t,toT T.tb.nm u] 0 tp] (.Tuple [aH T.tb.nm a,aH T.tb.nm b] 0 ep) p) fx.env) _ _ _);refine gR (exec_Assign_arm ..) (zf (wpAny_standAt ?_));rw[show swapsWithSole [.Tuple [toT T.tb.nm t,toT T.tb.nm u] 0 tp] (.Tuple [aH T.tb.nm a,aH T.tb.nm b] 0 ep) p.line fx.env=pure false by unfold swapsWithSole;exact ew rfl _ _ _];refine zf (zl ?_);refine iT (by decide) ?_;have er:Rn call ((cC T.tb a c.e c.g).bind λy=>(cC T.tb b y.2.1 y.2.2).bind λz=>.bO (fX y.1&&(fX z.1&&true)) ((store T.tb t y.1 z.2.1 z.2.2).bind λq=>(store T.tb u z.1 q.1 q.2).bind λq=>.ok (Fl.gV,q))) r:=by refine(Rn.bu h).eq (congrArg _ (funext λy=>?_));refine W.bind_assoc.trans (W.bind_assoc.trans (congrArg _ (funext λz=>congrArg (W.bO _) ?_)));exact W.bind_assoc.trans (congrArg _ (funext λq=>W.bind_assoc))
 refine zf (wpAny_Tuple_spliced ?_);refine gR (aj na ..) (gR (ay ..) ?_);refine gR (aj nb ..) (gR (ay ..) ?_);refine zI (spliced_cons (ha.d7 I (.refl c) er λa1 c1 v1 er I1 K1 P1 _=>spliced_cons (hb.d7 I1 K1 er λa2 c2 v2 er I2 K2 P2 fT=>spliced_nil ⟨bb (show 2<=lim by decide),?_⟩))) (λ_ _ q=>q) λ_ _ q=>q.tI I;have er:=er.bO;obtain⟨w1,w2⟩:=aa er.1;have er:=AA hu (AA ht er.2);have ne:d0 t=true->d0 u=true->v2≠v1:=λh1 h2=>PV.apart (h1▸P1) (h2▸P2);have P1:=(P1.au fT).pw w1;have P2:=(P2.back K1.x).pw (aa w2).1;have Ww:({c2.s with heap:=c2.s.heap.push (fJ [v1,v2] 0)}:zt).heap.IsTuple c2.s.heap.objs.size #[v1,v2]:=⟨_,zq _ rfl,rfl,0,rfl⟩;have fin:∀h',yT (c2.s.heap.push (fJ [v1,v2] 0)).objs.size (c2.s.heap.push (fJ [v1,v2] 0)) h'->ae c2.s {c2.s with heap:=h'}:=λh' he=>⟨λb ob e=>have e:=zj _ e;he b ob (zU (zZ e)) e,rfl,rfl⟩;have keep:∀{s':zt} {x:AV} {v:zo} {b:Bool},ae c2.s s'->PW fx c c2 x v b->PW fx c {c2 with s:=s'} x v b:=λgr h=>PW.keep h (bR gr) rfl λad _ _ r=>⟨r,λob=>gr.sub _ _,λj l h=>.inl ⟨h,rfl⟩⟩;rcases O9 with O9 |⟨O9,hnd⟩
 ·refine gR O9 (zf (zl ?_))
  refine zf (?_:zx _ _ (assign (.Tuple ([t,u].map (toT T.tb.nm)) 0 tp) fx.env (.ref c2.s.heap.objs.size)) _ _ _);refine wpAny_assign_Tuple hh Ww (di _ _ _) (cO _ _ _) λh' he=>?_;have gr:=fin h' he;rw[show(assignEach ([t,u].map (toT T.tb.nm)) fx.env).map (·.2)=[(λt=>assign (toT T.tb.nm t) fx.env) t,(λt=>assign (toT T.tb.nm t) fx.env) u] from
   congrArg (List.map (·.2)) ((bE (r:=[toT T.tb.nm u]) (iF T.tb.nm t)).trans (congrArg (List.cons _) (bE (iF T.tb.nm u))))]
  exact AB ok (I2.dD gr) (K2.x.trans (.jz gr.sub)) ht hu (keep gr P1) (keep gr P2) ne (λt=>assign (toT T.tb.nm t) fx.env) (λt ht v Q s k=>by
   cases t with
   |n i x q=>exact wpAny_assign_Name k
   |own i x q=>exact wpAny_assign_Name k
   |eY _ _ _=>exact ht.elim
   |sub _ _ _=>exact ht.elim) rfl λc3 I3 K3 e3 g3=>zl (.n (er.1.symm.trans (by refine gR e3 (gR g3 ?_);rfl)) I3 K3)
 ·refine gR O9 (zf (zl ?_))
  refine(?_:zx _ _ (do
   rule "assign.swapped-stores"
   let items ←unpackItems (.ref c2.s.heap.objs.size) (#[v1,v2]).size none
   assignInOrder ([nameOf t,nameOf u].reverse.map λn=>bindName fx.env n) items.reverse
   pure Flow.next) _ _ _)
  refine zf (wpAny_rule (zf (wpAny_unpackItems_tuple hh Ww λh' he=>?_)));have gr:=fin h' he;refine zf (?_:zx _ _ (assignInOrder [(λt=>bindName fx.env (nameOf t)) u,(λt=>bindName fx.env (nameOf t)) t] [v2,v1]) _ _ _);exact(AB ok (I2.dD gr) (K2.x.trans (.jz gr.sub)) hu ht (keep gr P2) (keep gr P1) (λh1 h2 e=>ne h2 h1 e.symm) (λt=>bindName fx.env (nameOf t)) (λt ht v Q s k=>wpAny_bindName k) (List.set_comm _ _ (Z8 hnd):bh (bh c2.e (eI u) (rZ u a2)) (eI t) (rZ t a1)=bh (bh c2.e (eI t) (rZ t a1)) (eI u) (rZ u a2)) λc3 I3 K3 e3 g3=>
   zl (.n (er.1.symm.trans (by refine gR e3 (gR g3 ?_);rfl)) I3 K3))
end
section
set_option backward.match.sparseCases true
theorem Ct{k:Str->Option Zc}{n:Str}:∀{m:Str->Option zo},n∉binds.map (·.1)->bindL k binds m n=m n:=by
 induction binds with
 |nil=>exact λ_=>rfl
 |cons p r ih=>
  intro m h;have h1:¬n=p.1:=λe=>h (e▸.head _);refine(ih λq=>h (.tail _ q)).trans ?_;by_cases q:k p.1=some .local
  ·exact gR (if_pos q ..) (if_neg h1)
  ·exact gR (if_neg q ..) rfl
theorem Cu{k:Str->Option Zc}{n:Str}(hk:k n=some .local):∀{m:Str->Option zo},(binds.map (·.1)).Nodup->(n,v)∈binds->bindL k binds m n=some v:=by
 induction binds with
 |nil=>exact λ_ h=>nomatch h
 |cons p r ih=>
  intro m hn h;have hn:=ZR.mp hn;cases h with
  |head=>exact(Ct hn.1).trans ((congrFun (if_pos hk) n).trans (if_pos rfl))
  |tail _ h=>exact ih hn.2 h
theorem Cv{k:Str->Option Zc}{n:Str}:∀{m:Str->Option zo},n∉binds.map (·.1)->bindC k binds m n=m n:=by
 induction binds with
 |nil=>exact λ_=>rfl
 |cons p r ih=>
  intro m h;have h1:¬n=p.1:=λe=>h (e▸.head _);refine(ih λq=>h (.tail _ q)).trans ?_;by_cases q:k p.1=some .local
  ·exact gR (if_pos q ..) rfl
  ·exact gR (if_neg q ..) (if_neg h1)
theorem Cw{k:Str->Option Zc}{n:Str}(hk:k n≠some .local):∀{m:Str->Option zo},(binds.map (·.1)).Nodup->(n,v)∈binds->bindC k binds m n=some v:=by
 induction binds with
 |nil=>exact λ_ h=>nomatch h
 |cons p r ih=>
  intro m hn h;have hn:=ZR.mp hn;cases h with
  |head=>exact(Cv hn.1).trans ((congrFun (if_neg hk) n).trans (if_pos rfl))
  |tail _ h=>exact ih hn.2 h
theorem ip{x n:Str}{v:α}{r:List (Str×α)}:((n,v)::r).lookup x=bif x==n then some v else r.lookup x:=List.lookup_cons.trans (by cases x==n <;> rfl)
theorem nA{x p:α}{r:List α}(h:x∈p::r)(n:x≠p):x∈r:=(zK.mp h).resolve_left n
theorem fA{n:Nat}{x:Str}{k:Zc}{r:List (Str×Zc)}{acc:List (Str×zJ)}:cellsFrom n ((x,k)::r) acc=bif k== .cell then cellsFrom (n+1) r ((x,n)::acc) else cellsFrom n r acc:=(Bool.cond_eq_ite ..).symm
theorem iX{names:List (Str×Zc)}{n:Nat}{acc:List (Str×zJ)}{x:Str}(h:(x,zL)∈names\/(acc.lookup x).isSome=true):((cellsFrom n names acc).lookup x).isSome=true:=by
 induction names generalizing n acc with
 |nil=>exact h.resolve_left ZT
 |cons p r ih=>
  refine gR fA ?_;cases hk:p.2==zL with
  |true=>
   refine ih (h.elim (λh=>(zK.mp h).elim (λe=>.inr ?_) .inl) λh=>.inr ?_)
   ·refine gR ip (gL (congrArg Prod.fst e ..) (gR (beq_self_eq_true ..) ?_))
    rfl
   ·refine gR ip ?_
    cases x==p.1 with
    |true=>rfl
    |false=>exact h
  |false=>exact ih (h.imp (λh=>nA h λe=>ne_of_beq_false hk (congrArg Prod.snd e).symm) id)
def nB(F:Fn)(cells:List (Str×zJ)):List (Nat×Str×Option zJ):=
 F.vs.zipIdx.map λp=>(p.2,T.tb.nm p.1,if F.sc.contains (p.1,zL) then cells.lookup (T.tb.nm p.1) else none)
section
variable{call:Call}
theorem lA.get{n:Nat}:∀{as:List AV} {vs:List zo} {i:Nat} {a:AV},lA γ n h as vs->as[i]? =some a->∃v,vs[i]? =some v/\cN γ n h a v
 |[],_,i,a,_,e=>by simp at e
 |x::r,_,i,a,⟨v,t,rfl,y,z⟩,e=>by
  cases i with
  |zero=>simp at e;subst e;exact⟨v,rfl,y⟩
  |succ j=>simp at e;simpa using lA.get z e
theorem f9{F:Fn}{cells:List (Str×zJ)}{x:Str}{o:Option zJ}(h:(i,x,o)∈nB F cells):∃y,aG (F.vs[i]? =some y) (x=T.tb.nm y) (o=if F.sc.contains (y,zL) then cells.lookup (T.tb.nm y) else none):=by refine ag λ_ k=>(ze (zH.mp h) λp ub=>(zg (λhm e=>?_) ub));refine k ?_;have e1:p.2=i:=congrArg (·.1) e;exact⟨p.1,e1▸YH.mp hm,(congrArg (·.2.1) e).symm,(congrArg (·.2.2) e).symm⟩
noncomputable def F4(A:ZV):List Addr:=(A.frames.getD []).filterMap (·.frame)
theorem F5(k:J6 A γ h)(ha:a∈F4 A):γ.R a=.fr/\∃m,h.Ns a m:=by
 refine ze (YY.mp ha) λenv EN=>(zg (λhe e=>?_) EN);cases hf:A.frames with
 |none=>rw[hf] at he;exact nomatch he
 |some l=>
  rw[hf] at he;refine zg (λ_ Fz=>?_) (k l hf env he);refine ze Fz λb tu=>?_;obtain⟨e',r⟩:=tu;replace e':=e▸e';obtain rfl:=zh e';exact⟨r,‹_›⟩
theorem nC(k:J6 A γ h)(hk:env.scope.kind=.function)(hf:env.frame=some env.locals){lay:List (Nat×Str×Option zJ)}{mine:Str->Bool}:iE (A.deeper env) ⟨env,lay,mine,F4 A⟩:=by
 intro l hl e he;refine ze (map_some hl) λl0 OD=>(zg (λhA e0=>?_) OD);rw[←e0] at he;exact(zK.mp he).elim (λq=>by
  refine gR q (gR hk ?_);exact⟨nofun,_,hf,.inr rfl⟩) λhe=>
  have⟨q,b,z⟩:=k l0 hA e he
  ⟨q,b,z.1,.inl (by
   unfold F4;exact gR hA (YY.mpr ⟨e,he,z.1⟩))⟩
theorem Cy(k:J6 A γ h)(old:∀b ob,h.get? b=some ob->γ'.R b=γ.R b)(keep:∀b ob,h.get? b=some ob->h'.get? b=some ob):∀a∈F4 A,γ'.R a=.fr/\∃m,h'.Ns a m:=λa ha=>by
 refine zg (λr iV=>?_) (F5 k ha);refine ze iV λm n=>?_;refine ze (id n) λo acf=>(ze acf λ_ O7=>(ze O7 λ_ acg=>?_));exact⟨(old a o acg.1).trans r,m,n.keeps keep⟩
structure Kj(F:Fn):Prop where
 nodup:F.vs.Nodup
 np:F.np<=F.vs.length/\F.vs.length<=F.ns
 kinds:∀x∈F.vs,((x,NameKind.local)∈F.sc\/(x,zL)∈F.sc)/\(T.tb.nm x==("__debug__":Str))=false
structure Cz(f:Nat)(F:Fn):Prop where
 obj:c8 λ(o:Obj) (fd:YW)=>L9 (T.top.get? (T.fa f)=some o) (o.data=.func fd) (T.top.CodeRec fd.code fd.qualname) (fd.body=.stmts (eC T.tb.nm F.body)) (fd.scope.isCoroutine=false) (fd.scope.isGenerator=false) (fd.scope.kind=.function)
  (fd.globals=mainGlobals) (fd.builtins=builtinsNs) (∀x k,(x,k)∈F.sc->fd.scope.names.lookup (T.tb.nm x)=some k) (∀x,(x,zL)∈F.sc->(T.tb.nm x,zL)∈fd.scope.names)
  (∀vals:List zo,vals.length=F.np->bindArgs fd ⟨vals,[]⟩=pure (((F.vs.take F.np).map T.tb.nm).zip vals)) (fd.closure=[])
 Kk:Kj F
theorem gb{F:Fn}(fn:Kj F){cells:List (Str×zJ)}(Km:∀y,(y,zL)∈F.sc->∃a,cells.lookup (T.tb.nm y)=some a){z:Str}{o:Option zJ}(hm:(i,z,o)∈nB F cells)
  (kl:∀y,F.vs[i]? =some y->z=T.tb.nm y->o=none->(y,NameKind.local)∈F.sc->P) (kc:∀y a,F.vs[i]? =some y->z=T.tb.nm y->o=some a->(y,zL)∈F.sc->cells.lookup (T.tb.nm y)=some a->P):P:=by
 refine ze (f9 hm) λy q=>?_;have e:=q.3;cases hc:F.sc.contains (y,zL) with
 |false=>
  replace e:=hc▸e;exact kl y q.1 q.2 e ((fn.kinds y (zy q.1)).1.resolve_right λk=>zi (hc.symm.trans (zz.mpr k)))
 |true=>
  replace e:=hc▸e;have mc:=zz.mp hc;exact ze (Km y mc) λa ha=>(kc y a q.1 q.2 (e.trans ha) mc ha)
open Classical in
def r4(γ:Gh)(S:zJ->Prop):Gh:=⟨λb=>if S b then .sys else γ.R b,γ.own,γ.aI⟩
structure Nw(S:zJ->Prop)(s az:zt):Prop where
 keep:∀b o,s.heap.get? b=some o->az.heap.get? b=some o
 os:az.os=s.os
 gens:az.gens=s.gens
 new:∀b,S b->aF (s.heap.get? b=none) ((az.heap.get? b).isSome=true)
section
variable{S:zJ->Prop}
theorem Nw.old(L:Nw S s az)(e:s.heap.get? b=some o):(r4 γ S).R b=γ.R b:=if_neg λh=>nomatch (L.new b h).1.symm.trans e
theorem Nw.ext(L:Nw S s az) n:ak γ n s.heap (r4 γ S) n az.heap:=
 ⟨λb o r e=>⟨(L.old e).trans r,L.keep b o e⟩,λb o r e=>⟨(L.old e).trans r,L.keep b o e⟩,zm _,λ_ _=>rfl,λb o r e=>⟨(L.old e).trans r,o,L.keep b o e,.refl o⟩⟩
theorem Nw.rK(L:Nw S s az)(I:aS γ g s):aS (r4 γ S) g az:=
 have K:=L.ext (γ:=γ) g.length
 ⟨λn q e=>dW.au (γ:=γ) (γ':=r4 γ S) K.j7 (zm _) (zr.mp e).1 (λ_ _=>rfl) (λb ob j r e=>⟨(L.old e).trans r,L.keep b ob e⟩) (I.objs n q e),
  λb r=>(Yy (S b)).elim (λh=>(L.new b h).2) λh=>zp.mpr ((zp.mp (I.live b λq=>r ((if_neg h).trans q))).imp (L.keep b)),
  λb q e=>K.j7 b q (I.top b q e).1 (I.top b q e).2,L.os.trans I.os,L.gens.trans I.gens⟩
end
noncomputable def lB(F:Fn)(vs:List AV):Env:=vs.map .v++yz (F.ns - F.np) .un
def nD(F:Fn)(vals:List zo):List (Str×zo):=((F.vs.take F.np).map T.tb.nm).zip vals
theorem lC{F:Fn}(fn:Kj F)(hv:vals.length=F.np):((nD F vals).map (·.1)).Nodup:=by refine(List.map_fst_zip ?_)▸List.Pairwise.map _ (λa b (Pj:a≠b) e=>Pj (tok.inj _ _ e)) (fn.nodup.sublist (List.take_sublist _ _));refine gR (zA ..) (gR YB ?_);refine gR (YT fn.np.1 ..) (gR hv ?_);exact zm _
theorem F6{F:Fn}{n:Nat}{vs:List AV}(V:lA γ n h vs vals)(hn:vs.length=F.np)(sb:Sub (lk γ.R h) (lk γ'.R h'))(ph:γ'.aI=γ.aI){y:Nat}(hy:F.vs[i]? =some y)(e:(lB F vs)[i]? =some sl)(hov:∀v,(T.tb.nm y,v)∈nD F vals->ov=some v):aJ γ' n h' ov i sl:=by
 unfold lB at e;by_cases hi:i<F.np
 ·rw[YZ (by refine gR (zA ..) (gR hn ?_);exact hi),Zd] at e
  refine ze (map_some e) λa O6=>(zg (λha t5=>?_) O6);refine gL t5 ?_;refine ze (V.get ha) λv jw=>(zg (λhv av=>?_) jw);refine⟨v,hov v (zy (Y1.mpr ⟨?_,hv⟩)),cN.au (γ:=γ) (γ':=γ') sb (zm _) (λ_ _=>by exact gR ph rfl) av⟩;refine gR Zd (gR List.getElem?_take ?_);refine gR (if_pos hi ..) (gR hy ?_);rfl
 ·rw[YV (by refine gR (zA ..) (gR hn ?_);exact YK.mp hi)] at e
  cases List.eq_of_mem_replicate (zy e);trivial
structure Laid(F:Fn)(env:Zj)(vals:List zo)(S:zJ->Prop)(s az:zt)(m mc:Str->Option zo):Prop where
 kind:env.scope.kind=.function
 glob:env.globals=mainGlobals
 blt:env.builtins=builtinsNs
 frame:env.frame=some env.locals
 Ry:∀y k,(y,k)∈F.sc->env.kindOf (T.tb.nm y)=some k
 Km:∀y,(y,zL)∈F.sc->∃a,env.cells.lookup (T.tb.nm y)=some a
 nw:Nw S s az
 loc:S env.locals
 ns:az.heap.Ns env.locals m
 cell:∀y a,(y,zL)∈F.sc->env.cells.lookup (T.tb.nm y)=some a->aG (S a) (az.heap.IsCell a (mc (T.tb.nm y))) (a≠env.locals)
 apart:∀y z a,(y,zL)∈F.sc->env.cells.lookup (T.tb.nm y)=some a->env.cells.lookup (T.tb.nm z)=some a->y=z
 val:∀y v,(T.tb.nm y,v)∈nD F vals->((y,NameKind.local)∈F.sc->m (T.tb.nm y)=some v)/\((y,zL)∈F.sc->mc (T.tb.nm y)=some v)
def frm(F:Fn)(env:Zj)(A:ZV):Fx:=⟨env,nB F env.cells,λ_=>true,F4 A⟩
def Wx(F:Fn)(γ:Gh)(S:zJ->Prop)(vs:List AV)(g:G)(az:zt):ah:=⟨r4 γ S,lB F vs,g,az⟩
section
variable{F:Fn}{S:zJ->Prop}{m mc:Str->Option zo}
theorem Laid.ach(fn:Kj F)(L:Laid F env vals S s az m mc):bF (frm F env A) where
 kind:=L.kind
 globals:=L.glob
 builtins:=L.blt
 loc i x hm:=gb fn L.Km hm (λy hy e _ hl=>e▸⟨L.Ry y _ hl,(fn.kinds y (zy hy)).2⟩) λ_ _ _ _ e=>nomatch e
 DC i x a hm:=gb fn L.Km hm (λ_ _ _ e=>nomatch e) λy b hy e eb hc hl=>by
  obtain rfl:=zh eb;exact e▸⟨.inl (L.Ry y _ hc),hl,(fn.kinds y (zy hy)).2,(L.cell y a hc hl).3⟩
 xH i j x c d hm lO:=by refine ze (f9 hm) λy q=>(ze (f9 lO) λz q'=>?_);cases tok.inj _ _ (q.2.symm.trans q'.2);exact(Y7 (zr.mp q.1).1 fn.nodup).mp (q.1.trans q'.1.symm)
 xI i j x y a hm lO:=gb fn L.Km hm (λ_ _ _ e=>nomatch e) λy b hy _ eb hc hl=>gb fn L.Km lO (λ_ _ _ e=>nomatch e) λz d hz _ ed _ IC=>by
  obtain rfl:=zh eb;obtain rfl:=zh ed;cases L.apart y z a hc hl IC;exact(Y7 (zr.mp hy).1 fn.nodup).mp (hy.trans hz.symm)
 qc i x y c d hm lO:=by refine ze (f9 hm) λy q=>(ze (f9 lO) λz q'=>?_);cases zh (q.1.symm.trans q'.1);exact⟨q.2.trans q'.2.symm,q.3.trans q'.3.symm⟩
theorem Laid.inv(fn:Kj F)(L:Laid F env vals S s az m mc)(I:aS γ g s)(sk:J6 A γ s.heap){vs:List AV}(V:lA γ g.length s.heap vs vals)(hn:vs.length=F.np):Inv (frm F env A) (Wx F γ S vs g az):=by
 have slot:∀i y sl ov,F.vs[i]? =some y->(lB F vs)[i]? =some sl->(∀v,(T.tb.nm y,v)∈nD F vals->ov=some v)->aJ (r4 γ S) g.length az.heap ov i sl:=λi y sl ov hy e hov=>F6 V hn (L.nw.ext (γ:=γ) g.length).sub rfl hy e hov;refine⟨L.nw.rK I,⟨⟨m,L.ns,if_pos L.loc,λi z hm sl hs=>?_⟩,λi z a hm=>?_,Cy sk (λb ob e=>L.nw.old e) L.nw.keep⟩⟩
 ·exact gb fn L.Km hm (λy hy e _ hl=>e▸slot i y sl _ hy hs λv hv=>(L.val y v hv).1 hl) λ_ _ _ _ e=>nomatch e
 ·exact gb fn L.Km hm (λ_ _ _ e=>nomatch e) λy b hy e eb hc hl=>by
   obtain rfl:=zh eb;have z:=L.cell y a hc hl;exact⟨_,z.2,⟨.inl (if_pos z.1),λ_=>if_pos z.1⟩,λsl hs=>slot i y sl _ hy hs λv hv=>(L.val y v hv).2 hc⟩
end
theorem qv{F:Fn}{x:Str×zo}(h:x∈nD F vals):c8 λy v=>x=(T.tb.nm y,v)/\y∈F.vs:=by obtain⟨n,v⟩:=x;refine ze (zH.mp (YR h).1) λy tU=>(zg (λhy F7=>?_) tU);refine gL F7 ?_;exact⟨y,v,rfl,YE hy⟩
theorem uu{f:Nat}{F:Fn}(fo:Cz f F){γ:Gh}{g:G}{s:zt}(I:aS γ g s)(sk:J6 A γ s.heap){vs:List AV}{vals:List zo}(V:lA γ g.length s.heap vs vals)(hn:vs.length=F.np){R:yX->zt->Prop}(dH:A.depth<yb)
  (h:∀(env:Zj) (S:zJ->Prop) (az:zt) m mc,Laid F env vals S s az m mc->
   zx (zv prog w) (A.deeper env) (execs (eC T.tb.nm F.body) env) (λf s'=>R (.ok (.ret (match f with |.ret v=>v |_=>.none))) s')
    (λe s'=>zx (zv prog w) (A.deeper env) (leaving env e) (λ_ hJ=>R (.error e) hJ) (λe' hJ=>R (.error e') hJ) s') az):
  ZH (zv prog w) A (.call (.ref (T.fa f)) ⟨vals,[]⟩) R s:=by
 obtain⟨o,fd,q⟩:=fo.obj;have top:=λb ob e=>(I.top b ob e).2;have hv:=V.length.trans hn;have DC:∀{y n},(y,zL)∈F.sc->((cellsFrom n fd.scope.names []).lookup (T.tb.nm y)).isSome=true:=λhk=>iX (.inl (q.11 _ hk));refine codeAny_call_cells (o:=o) (fd:=fd) (body:=eC T.tb.nm F.body) (binds:=nD F vals) dH (top _ _ q.1) q.2 (tok.lim.keeps top) (q.3.keeps top) q.4 (q.12 vals hv) q.13 (λx hx=>?_) (λaz x=>?_) q.5 q.6 q.7
 ·obtain⟨y,v,kN,hy⟩:=qv hx;refine gR kN ?_
  exact(fo.Kk.kinds y hy).1.imp (λk=>q.10 _ _ k) λk=>⟨q.10 _ _ k,DC k⟩
 ·obtain⟨h',tk,es⟩:=x.toInCall.same
  have bn:=lC fo.Kk hv;refine h _ (λb=>b=s.heap.objs.size\/∃n,(callEnvC fd s.heap.objs.size (T.fa f)).cells.lookup n=some b) az _ _ ⟨q.7,q.8,q.9,rfl,q.10,λy hk=>zp.mp (DC hk),⟨x.toInCall.keep,congrArg (·.os) es,congrArg (·.gens) es,λb hb=>?_⟩,.inl rfl,x.toInCall.ns,λy a hc hl=>⟨.inr ⟨_,hl⟩,x.cell _ _ hl,yD (x.above _ _ (mem_of_lookup hl))⟩,
   λy z a _ hl IC=>tok.inj _ _ (name_of_addr x.apart (mem_of_lookup hl) (mem_of_lookup IC)),λy v hv=>⟨λk=>Cu (q.10 _ _ k) bn hv,λk=>Cw (λe=>by rw[show(callEnvC fd s.heap.objs.size (T.fa f)).kindOf (T.tb.nm y)=some .cell from q.10 _ _ k] at e;exact nomatch e) bn hv⟩⟩
  rcases hb with rfl |⟨n,hc⟩
  ·refine ag λ_ k=>?_
   refine ze (x.toInCall.ns) λob lN=>?_;refine ze lN λ_ qX=>?_;refine ze qX λ_ v5=>?_;refine zg (λDA _=>?_) v5;refine k ?_;exact⟨ao _,zp.mpr ⟨ob,DA⟩⟩
  ·refine ze (x.cell n b hc) λob ia=>?_;refine zg (λDA _=>?_) ia
   refine⟨?_,zp.mpr ⟨ob,DA⟩⟩;cases e:s.heap.get? b with
   |none=>rfl
   |some o=>exact absurd (zZ e) (YK.mpr (Zz (x.above n b (mem_of_lookup hc))))
end
end
variable{acc:List (Str×zJ)}{names:List (Str×Zc)}{F:Fn}
section
set_option backward.match.sparseCases true
section
structure lE(F:Fn)(fx:Fx):Prop where
 ok:bF fx
 mine:fx.mine=λ_=>true
 lay:fx.lay=nB F fx.env.cells
 kind:∀x k,(x,k)∈F.sc->fx.env.kindOf (T.tb.nm x)=some k
 cell:∀x,(x,zL)∈F.sc->(fx.env.cells.lookup (T.tb.nm x)).isSome=true
 frame:fx.env.frame=some fx.env.locals
theorem Laid.MJ(fn:Kj F){S:zJ->Prop}{m mc:Str->Option zo}(L:Laid F env vals S s az m mc):lE F (frm F env A):=
 ⟨L.ach fn,rfl,rfl,L.Ry,λx hx=>zp.mpr (L.Km x hx),L.frame⟩
theorem uv{tb:Tb}{n f:Nat}(hf:tb.fn f=some F){vs:List AV}(h:aC tb (n+1) f vs g≠.no):vs.length=F.np/\aC tb (n+1) f vs g=aR ((aY tb F.body (lB F vs) g).run (aC tb n)):=by
 have e:aC tb (n+1) f vs g=match Z2 vs.length F.np with
  |true=>aR ((aY tb F.body (lB F vs) g).run (aC tb n))
  |false=>.no:=by
  refine(?_:(match tb.fn f with
  |none=>R.no
  |some F=>match Z2 vs.length F.np with
   |true=>aR ((aY tb F.body (lB F vs) g).run (aC tb n))
   |false=>R.no)=_)
  exact gR hf rfl
 cases q:Z2 vs.length F.np with
 |false=>rw[q] at e;exact absurd e h
 |true=>rw[q] at e;exact⟨Yx q,e⟩
section
variable{n:Nat}{r:R (Fl×Env×G)}{R':yX->zt->Prop}(K:ak γ n h c.γ c.g.length c.s.heap)
include K
theorem uw{f:Flow}(k:∀a g' γ' v s',aR r=.ok (a,g')->aS γ' g' s'->ak γ n h γ' g'.length s'.heap->cN γ' g'.length s'.heap a v->R' (.ok (.ret v)) s')(q:QS fx c r f s'):R' (.ok (.ret (match(generalizing:=false) f with |.ret v=>v |_=>.none))) s':=by
 rcases q with⟨c',q⟩ |⟨a,v,e',g',γ',q⟩
 ·refine gR q.2 ?_
  refine gL q.3 ?_;exact k (.d .none) c'.g c'.γ .none c'.s (congrArg aR q.1) q.4.g (K.trans q.5) rfl
 ·refine gR q.2 ?_
  exact k a g' γ' v s' (congrArg aR q.1) q.3 (K.trans q.4) q.5
theorem ux(hx:jM A fx)(I:Inv fx c)(ke:∀x p g' γ' s',aR r=.ex p g'->X γ' s'.heap x p->aS γ' g' s'->ak γ n h γ' g'.length s'.heap->R' (.error x) s'){x:zo}(q:XS fx c r x s'):
  zx (zv prog w) A (leaving fx.env x) (λ_ hJ=>R' (.error x) hJ) (λe' hJ=>R' (.error e') hJ) s':=by
 have fin:∀x hJ,XS fx c r x hJ->R' (.error x) hJ:=λx hJ ⟨p,g',γ',q⟩=>ke x p g' γ' hJ (congrArg aR q.1) q.2 q.3 (K.trans q.4);exact zI (hx.leave c _ x s' I q) (λ_ hJ h=>fin x hJ h) λe' hJ h=>fin e' hJ h
end
structure Pk(γ:Gh)(n:Nat)(h:yi)(r:R (AV×G))(R':yX->zt->Prop):Prop where
 ok:∀a g' γ' v s',r=.ok (a,g')->aS γ' g' s'->ak γ n h γ' g'.length s'.heap->cN γ' g'.length s'.heap a v->R' (.ok (.ret v)) s'
 ex:∀x p g' γ' s',r=.ex p g'->X γ' s'.heap x p->aS γ' g' s'->ak γ n h γ' g'.length s'.heap->R' (.error x) s'
theorem CA{f:Nat}(hf:T.tb.fn f=some F)(fo:Cz f F){n:Nat}(dH:A.depth<yb)
  (hx:∀fx,lE F fx->iE (A.deeper fx.env) fx->jM (A.deeper fx.env) fx) (hb:∀fx,lE F fx->iE (A.deeper fx.env) fx->eu (A.deeper fx.env) (aC T.tb n) fx F.body)
  {vs:List AV}     {R:yX->zt->Prop} (I:aS γ g s) (sk:J6 A γ s.heap) (V:lA γ g.length s.heap vs vals) (hr:aC T.tb (n+1) f vs g≠.no)
  (k:Pk γ g.length s.heap (aC T.tb (n+1) f vs g) R):ZH (zv prog w) A (.call (.ref (T.fa f)) ⟨vals,[]⟩) R s:=by
 have z:=uv hf hr;rw[z.2] at hr k;refine uu fo I sk V z.1 dH λenv S az m mc L=>?_;have ff:=L.MJ (A:=A) fo.Kk;have vh:=nC sk (lay:=nB F env.cells) (mine:=λ_=>true) L.kind L.frame;have K:=L.nw.ext (γ:=γ) g.length;have I1:=L.inv fo.Kk I sk V z.1;exact zI (hb _ ff vh (Wx F γ S vs g az) _ I1 ⟨rfl,λe=>hr (congrArg aR e)⟩) (λfl s' q=>uw K k.ok q) λx s' q=>ux K (hx _ ff vh) I1 k.ex q
def CB(n:Nat)(A:ZV):Prop:=A.handled=none/\A.depth+3*n<yb/\A.units+16*n+128<yA/\∃l,A.frames=some l
theorem r5{tb:Tb}:bS A (aC tb 0):=λf vs vals γ g s R _ _ _ hr _ _=>absurd rfl hr
theorem uy (hfn:∀f F,T.tb.fn f=some F->∀n A,CB (n+1) A->(∀A',CB n A'->bS A' (aC T.tb n))->
   ∀vs vals γ g s R,aS γ g s->J6 A γ s.heap->lA γ g.length s.heap vs vals->aC T.tb (n+1) f vs g≠.no->Pk γ g.length s.heap (aC T.tb (n+1) f vs g) R->
   ZH (zv prog w) A (.call (.ref (T.fa f)) ⟨vals,[]⟩) R s) n:∀A,CB n A->bS A (aC T.tb n):=by
 induction n with
 |zero=>exact λ_ _=>r5
 |succ n ih=>
  intro A hA f vs vals γ g s R I sk V hr k ke;cases hf:T.tb.fn f with
  |none=>exact absurd (show aC T.tb (n+1) f vs g=.no by refine(?_:(match T.tb.fn f with |none=>Lw.R.no |some F=>_)=_);exact gR hf rfl) hr
  |some F=>exact hfn f F hf n A hA ih vs vals γ g s R I sk V hr ⟨k,ke⟩
end
end
section
variable{call:Call}
theorem Kn(ok:bF fx)(hu:A.units+64<yA)(hh:A.handled=none){b:BI}(hb:JQ b=true){a:CE}(hk:fx.env.kindOf (mu b)=some .globalImplicit)(hs:notStar (aH T.tb.nm a)=true)
  (ha:ai A call fx a):pb A call fx (.cb b a pf p):=λc r I h=>by
 refine bC (λQ q=>cK ok I.g (My b) hk (by cases b <;> decide) q) (gR (aj hs ..) (gR (ay ..) ?_));exact lx rfl (evalArgs_plain (spliced_cons (ha.d7 I (.refl _) h λa1 c1 v1 h I1 K1 V1 _=>spliced_nil (h.fH λq d h=>Ab I1 hh hb V1 d λad s' g hn po=>QF.mk I1 K1 g hn po h.1.symm))))
end
section
variable{call:Call}
theorem nE{a b:CE}(hl:∀e g a2 e' g',(cC T.tb b e g).run call=.ok (a2,e',g')->∃l,a2=.d (.list l))(ha:ai A call fx a)(hb:ai A call fx b):pb A call fx (.j6 .Add a b p):=λc r I h=>
 wpAny_BinOp (ha.d7 I (.refl _) h λa1 c1 v1 er I1 K1 V1 _=>zI (hb c1 _ I1 (Rn.vd er)) (λv2 s' q=>by
  obtain⟨a2,c2,q⟩:=q;obtain⟨y,rfl⟩:=hl _ _ _ _ _ q.1;refine gL q.2 ((Rn.at er q.1).opt λq1 d1 h=>h.opt λq2 d2 h=>h.fH λq3 d3 h=>?_);obtain rfl:=zh d2;cases q1 with
  |list x=>
   cases d3.2;obtain⟨ad,vs,n,S⟩:=cu q.3 (V1.au q.4) d1 rfl;obtain⟨bd,ws,m,U⟩:=q.5;refine gR S.1 (gR U.1 ?_);exact Eg (S.3.resolve_left (λq=>nomatch q.1)).2 (aw U.2).2 (by refine gR S.2.length (gR U.3.length ?_);exact of_decide_eq_true d3.1) (QF.mk (p:=.list (x++y)) q.3 (K1.trans q.4) (ae.push _ _) (ao _) ⟨vs++ws,0,zq _ rfl,S.2.append U.3⟩ h.1.symm)
  |int _=>exact absurd d3 (λh=>h)
  |str _=>exact absurd d3 (λh=>h)
  |tuple _=>exact absurd d3 (λh=>h)
  |_=>exact d3.elim) λ_ _ q=>XE.up K1 er q)
end
section
variable{call:Call}
noncomputable def AD(γ:Gh):Gh:={γ with R:=λa=>match γ.R a with |.own _=>.aM |r=>r}
theorem gc:(AD γ).R a=.free↔γ.R a=.free:=by refine(?_:(match γ.R a with |.own _=>Role.aM |r=>r)=_↔_);cases q:γ.R a <;> simp
theorem jP:(AD γ).R a=.sys↔γ.R a=.sys:=by refine(?_:(match γ.R a with |.own _=>Role.aM |r=>r)=_↔_);cases q:γ.R a <;> simp
theorem Wy{n:Nat}{k:Bool}:(AD γ).R a=.g n k↔γ.R a=.g n k:=by refine(?_:(match γ.R a with |.own _=>Role.aM |r=>r)=_↔_);cases q:γ.R a <;> simp
theorem jQ:(AD γ).R a=.aM↔(γ.R a=.aM\/∃i,γ.R a=.own i):=by refine(?_:(match γ.R a with |.own _=>Role.aM |r=>r)=_↔_);cases q:γ.R a <;> simp
theorem wC:(AD γ).R a=.fr↔γ.R a=.fr:=by refine(?_:(match γ.R a with |.own _=>Role.aM |r=>r)=_↔_);cases q:γ.R a <;> simp
def wF(e e':Env):Prop:=∀(j:Nat) (sl:Slot),e'[j]? =some sl->sl=.un\/∃aQ,e[j]? =some aQ/\sl=NW aQ
theorem fQ.ind{P:fQ->Prop}(h0:∀a,P (.el a))(h1:∀ts tp ci ifs r,P r->P (.cons ts tp ci ifs r)):∀r,P r
 |.el a=>h0 a
 |.cons _ _ _ _ r=>h1 _ _ _ _ r (ind h0 h1 r)
noncomputable def MK:fQ->List Nat
 |.el _=>[]
 |.cons ts _ _ _ r=>ts.map (·.1)++MK r
theorem Pn(h:(bh e i .un)[j]? =some sl):sl=.un\/(e[j]? =some sl/\j≠i):=(aei i j).byCases
 (λq=>by
  subst q;exact .inl (zh ((ZQ (YS▸(zr.mp h).1)).symm.trans h)).symm) λq=>.inr ⟨(Z5 q).symm.trans h,Z8 q⟩
theorem F8(h:(ts.foldl (λe t=>bh e t.1 .un) e)[j]? =some sl):sl=.un\/(e[j]? =some sl/\j∉ts.map (·.1)):=by
 induction ts generalizing e with
 |nil=>exact .inr ⟨h,ZT⟩
 |cons t r ih=>exact(ih h).elim .inl λz=>(Pn z.1).imp id λy=>⟨y.1,λm=>(zK.mp m).elim y.2 z.2⟩
theorem wG:∀gs {e:Env} {j:Nat} {sl:Slot},(BJ gs e)[j]? =some sl->sl=.un\/(e[j]? =some sl/\j∉MK gs):=
 fQ.ind (λa e j sl h=>.inr ⟨h,ZT⟩) λts tp ci ifs r ih e j sl h=>(ih h).elim .inl λz=>(F8 z.1).imp id λy=>⟨y.1,λm=>(Zi.mp m).elim y.2 z.2⟩
theorem ML(h:(e.map NW)[j]? =some sl):∃aQ,e[j]? =some aQ/\sl=NW aQ:=
 have⟨aQ,h0,h1⟩:=map_some ((Zd ..).symm.trans h)
 ⟨aQ,h0,h1.symm⟩
theorem nG gs e:wF e (BJ gs (e.map NW)):=λj sl h=>(wG gs h).imp id λz=>ML z.1
theorem Ko(sl:Slot):(NW sl).Jb=false:=by cases sl <;> rfl
theorem Inv.ro(I:Inv fx c)(hw:wF c.e e'):Inv fx ⟨AD c.γ,e',c.g,c.s⟩:=by
 have sb:Sub (lk c.γ.R c.s.heap) (lk (AD c.γ).R c.s.heap):=λb o e=>by refine zg (λr e'=>?_) (aw e);exact aB (gc.mpr r) e'
 have slots:∀ov j sl,(∀aQ,c.e[j]? =some aQ->aJ c.γ c.g.length c.s.heap ov j aQ)->e'[j]? =some sl->aJ (AD c.γ) c.g.length c.s.heap ov j sl:=by
  intro ov j sl h hj;rcases hw j sl hj with rfl |⟨aQ,h0,rfl⟩
  ·trivial
  ·have k:=h aQ h0
   cases aQ with
   |un=>trivial
   |v b=>refine ze k λv OR=>?_;obtain⟨q,y⟩:=OR;exact⟨v,q,cN.au (γ:=c.γ) (γ':=AD c.γ) sb (zm _) (λ_ _=>rfl) y⟩
   |ol l=>refine zg (λq1 v5=>?_) k;obtain⟨q2,vs,n,q3,d⟩:=v5;exact⟨q1,jQ.mpr (.inr ⟨j,q2⟩),vs,n,q3,d.sub sb⟩
   |ro l=>refine zg (λq1 EU=>?_) k;obtain⟨q2,vs,n,q3,d⟩:=EU;exact⟨q1,jQ.mpr (.inl q2),vs,n,q3,d.sub sb⟩
   |od l=>trivial
 refine⟨⟨λn o e=>?_,λa r=>I.g.live a λh=>r (gc.mpr h),λa o e=>⟨gc.mpr (I.g.top a o e).1,(I.g.top a o e).2⟩,I.g.os,I.g.gens⟩,⟨?_,λj x a hx=>?_,λa ha=>⟨wC.mpr (I.f.out a ha).1,(I.f.out a ha).2⟩⟩⟩
 ·exact dW.au (γ:=c.γ) (γ':=AD c.γ) (λa o r e=>⟨gc.mpr r,e⟩) (zm _) (zr.mp e).1 (λ_ _=>rfl) (λa o j r e=>⟨Wy.mpr r,e⟩) (I.g.objs n o e)
 ·obtain⟨m,a,b,f⟩:=I.f.ns
  exact⟨m,a,jP.mpr b,λi x hx sl hs=>slots _ i sl (f i x hx) hs⟩
 ·refine ze (I.f.cells j x a hx) λov Fd=>?_;obtain⟨b,⟨r,rk⟩,f⟩:=Fd
  exact⟨ov,b,⟨r.elim (λr=>.inl (jP.mpr r)) λr=>.inr (wC.mpr r),λh=>jP.mpr (rk h)⟩,λsl hs=>slots _ j sl f hs⟩
theorem F9{wH:ah}(K:Ext ⟨AD c₀.γ,e',c₀.g,c₀.s⟩ wH)(K':ak (bX wH.γ) wH.g.length wH.s.heap γ' n' h'):ak (bX c₀.γ) c₀.g.length c₀.s.heap γ' n' h' where
 j7:=λa o r e=>by
  obtain⟨z,e2⟩:=K.x.j7 a o (gc.mpr (bM.mp r)) e;exact K'.j7 a o (bM.mpr z) e2
 aM:=λa o r e=>by
  obtain⟨z,e2⟩:=K.x.aM a o (jQ.mpr (dg.mp r)) e;exact K'.aM a o (dg.mpr (.inl z)) e2
 fr:=λa o r e=>by
  have key:∃o',aG (wH.s.heap.get? a=some o') (wH.γ.R a=.fr\/wH.γ.R a=.sys) (bJ o o'):=by
   refine YA (fz.mp r) (λr=>?_) λr=>?_
   ·refine zg (λz tu=>?_) (K.x.fr a o (wC.mpr r) e);obtain⟨o',e2,q⟩:=tu
    exact⟨o',e2,.inl z,q⟩
   ·refine zg (λz OC=>?_) (K.sys a o (jP.mpr r) e);obtain⟨o',e2,q⟩:=OC
    exact⟨o',e2,.inr z,q⟩
  refine ze key λo' ru=>?_;obtain⟨e2,z,q⟩:=ru;refine zg (λz' Ga=>?_) (K'.fr a o' (fz.mpr z) e2);exact ze Ga λIy tv=>⟨z',Iy,tv.1,q.trans tv.2⟩
 len:=zk K.x.len K'.len
 aI:=λk hk=>(K'.aI k (zF hk K.x.len)).trans (K.x.aI k hk)
end
section
variable{R:yX->zt->Prop}
noncomputable def jg(elt:Ye)(gens:List yr)(scope:Scope)(pos:Pos)(d:Nat)(acc:zo)(env:Zj):Sem Unit:=match gens[d+1]? with
 |some g'=>do
  let x ←YJ g'.iter env
  standAt g'.iter.pos
  let x ←foldedSetIterable g'.iter env x;let _ ←runOwn (.compStart (.ListComp elt gens scope pos) (d+1) (←holding [x] (pyIter x)) acc env) env
 |none=>do let _ ←call (.builtin "list.append") [acc,←YJ elt env]
theorem uz{elt:Ye}{gens:List yr}{scope:Scope}{pos:Pos}{d:Nat}{it acc:zo}{env:Zj}{g:yr}(hg:gens[d]? =some g)(ha:∀g∈gens,g.is_async=0):
  compTurn (.ListComp elt gens scope pos) d it acc env=(do
   standAt g.iter.pos
   match ←pyNext it with
   |none=>pure (.done .next)
   |some v=>
    letOwnedTupleGo g.target it v
    assign g.target env v
    let mut ok:=true
    for c in g.ifs do
     if ok then ok ←isTrue c env (YJ c env)
    if ok then jg elt gens scope pos d acc env
    again (.compLoop (.ListComp elt gens scope pos) d it acc env)):=by
 unfold compTurn jg;have h0:=ha g (zy hg);simp only[hg];cases hq:gens[d+1]? with
 |none=>
  refine gR (h0 ..) ?_;rfl
 |some g'=>
  simp only[h0,(ha g' (zy hq))];simp only[bne_self_eq_false,Bool.false_eq_true,if_false,bind_assoc]
  congr 1
theorem iO{elt:Ye}{gens:List yr}{scope:Scope}{pos:Pos}{d:Nat}{it acc:zo}{env:Zj}{g:yr}(hg:gens[d]? =some g)(ha:∀g∈gens,g.is_async=0)(I:Nat->zt->Prop)
  (turn:∀n s,I n s->zx (zv prog w) A (pyNext it) (λr az=>match r with
   |none=>R (.ok .next) az
   |some v=>zx (zv prog w) A (letOwnedTupleGo g.target it v) (λ_ MM=>zx (zv prog w) A (assign g.target env v) (λ_ gw=>
     zx (zv prog w) A (forIn g.ifs true λc r=>if r=true then do let ok ←isTrue c env (YJ c env);pure (yU ok) else pure (yU r)) (λok fj=>
      if ok=true then zx (zv prog w) A (jg elt gens scope pos d acc env) (λ_ Pp=>∃m,m<n/\I m Pp) (notedBy (zv prog w) A env λe s'=>R (.error e) s') fj
      else ∃m,m<n/\I m fj) (notedBy (zv prog w) A env λe s'=>R (.error e) s') gw) (notedBy (zv prog w) A env λe s'=>R (.error e) s') MM) (notedBy (zv prog w) A env λe s'=>R (.error e) s') az) (notedBy (zv prog w) A env λe s'=>R (.error e) s') s)
  (n:Nat) (h:I n s):ZH (zv prog w) A (.compLoop (.ListComp elt gens scope pos) d it acc env) R s:=by
 refine codeAny_loop rfl I (λn s hI=>?_) n h;show zx _ A ((compTurn (.ListComp elt gens scope pos) d it acc env).onRaise (λx=>do noteFrame x env;theTreesLotGoes x)) _ _ s;refine wpAny_noted ?_;refine gR (uz hg ha ..) ?_;refine zf (wpAny_standAt (zf (zI (turn n s hI) (λr az cF=>?_) λ_ _ h'=>h')));cases r with
 |none=>exact zl cF
 |some v=>
  refine zf (zI cF (λ_ MM cF=>?_) λ_ _ h'=>h');refine zf (zI cF (λ_ gw EJ=>zf (zI EJ (λok fj BY=>?_) λ_ _ h'=>h')) λ_ _ h'=>h');cases ok with
  |false=>exact zl ⟨rfl,BY⟩
  |true=>exact zf (zI BY (λx Wz aci=>zl ⟨rfl,aci⟩) λ_ _ h'=>h')
theorem eA{elt:Ye}{gens:List yr}{scope:Scope}{d:Nat}{it acc:zo}{g:yr}(hg:gens[d]? =some g)(ha:g.is_async=0)
  (h0:ZH (zv prog w) A (.compLoop (.ListComp elt gens scope pos) d it acc env) R s)
  (h:zx (zv prog w) A (pyIter it) (λRG s'=>ZH (zv prog w) A (.compLoop (.ListComp elt gens scope pos) d RG acc env) R s') (notedBy (zv prog w) A env λx s'=>R (.error x) s') s):
  ZH (zv prog w) A (.compStart (.ListComp elt gens scope pos) d it acc env) R s:=by
 refine codeAny_of_tree ?_;show zx _ _ ((compStart (.ListComp elt gens scope pos) d it acc env).onRaise (λx=>do noteFrame x env;standAt theWindowsPlace)) _ _ s;refine wpAny_notedAt ?_;unfold compStart;refine gR hg ?_;simp only[Option.elim_some,ha,bne_self_eq_false,Bool.false_eq_true,if_false];refine zf (wpAny_askSetting (wpAny_ite ?_))
 split
 ·first
   |exact zf (zl (zl (aej rfl h0)))
   |exact zl (aej rfl h0)
 ·first
   |exact zf (wpAny_rule (zf (wpAny_standAt (zf (zI h (λRG s' h'=>zl (aej rfl h')) λ_ _ x=>x)))))
   |(refine zf (wpAny_rule ?_);exact zf (wpAny_standAt (zf (zI h (λRG s' h'=>zl (aej rfl h')) λ_ _ x=>x))))
end
variable{scope:Scope}
section
variable{call:Call}
def iq(c₀:ah)(it:zJ)(n i:Nat)(c:ah):Prop:=aG (c.γ.R it=.aM) (dh c₀ it) (IsRangeIter c.s.heap it (0+(i:Nat)*1) ((n:Int) - (i:Nat)) 1)
theorem iq.keep{it:zJ}{n:Nat}(S:iq c₀ it n i c)(K:ak c.γ c.g.length c.s.heap c'.γ c'.g.length c'.s.heap):iq c₀ it n i c':=
 have k:=K.aM it _ S.1 S.3
 ⟨k.1,S.2,k.2⟩
theorem iq.hd{it:zJ}{n:Nat}(S:iq c₀ it n i c)(I:Inv fx c):DE fx c₀ c λb=>b=it:=
 .of I (λa e=>e▸⟨S.2,S.1⟩) λa e=>e▸⟨_,S.3,λ_ _ e=>absurd (adK (congrArg Obj.cls e)) (by decide),λ_ e=>nomatch e⟩
theorem Kp{n:Nat}{p:D}(hp:((ZW n).map λ(i:Nat)=>Yn i)[i]? =some p):aF (i<n) (p=.int i):=by refine ze (Zk.mp ((Zd ..).symm.trans hp)) λj lM=>?_;refine gL lM.2 ?_;have hi:=yl (n:=n)▸(zr.mp lM.1).1;cases(Yb hi).symm.trans lM.1;exact⟨hi,rfl⟩
theorem Pq{it:zJ}{x}(h:s.heap.get? it=some {cls:=.type "range_iterator",data:=.fields x}){nt:List Ye}{q}{Q:Unit->zt->Prop}(hQ:Q () s):zx (zv prog w) A (letOwnedTupleGo (.Tuple nt q pos) (.ref it) v) Q E s:=by
 cases v with
 |ref a=>exact zf (wpAny_load h (zl hQ))
 |_=>exact zl hQ
theorem Kq(hh:A.handled=none){it:zJ}{n:Nat}:tc A fx c₀ (.ref it) ((ZW n).map λ(i:Nat)=>Yn i) (λ_=>True) (λi c=>iq c₀ it n i c) (λi _ c=>iq c₀ it n (i+1) c) where
 keep:=λi c c' S K=>S.keep K
 self:=λi c Q E S q=>(aek hh it 0 1 n).self i c.s Q E S.3 q
 item:=λi c p Q E hp S _ I K q=>by
  obtain⟨hi,rfl⟩:=Kp hp;refine(aek hh it 0 1 n).item i c.s Q E hi S.3 λv h' tk hv tW k=>?_;have t:=I.Kf (s':={c.s with heap:=h',toks:=tk}) K (S.hd I) (λb ob hb e=>k b ob (λh=>hb (zX.mp h)) e) rfl rfl λb e=>e▸congrArg Zv tW;refine ze hv λx qz4=>(gR qz4 ?_);exact q _ ⟨_,_,_,_⟩ t.1 rfl rfl t.2 t.4 ⟨S.1,S.2,tW⟩ ⟨x,congrArg (aef · x) ((Int.zero_add _).trans (Int.mul_one _))⟩
 stop:=λc Q E S _ I K q=>by
  have S:=((zA (as:=ZW n) λi=>Yn i).trans yl).subst (motive:=λi=>iq c₀ it n i c) S;refine(aek hh it 0 1 n).done c.s Q E S.3 λh' tk k=>?_;have t:=I.Cq (s':={c.s with heap:=h',toks:=tk}) K (S.hd I) (λb ob hb e=>k b ob (λh=>hb (zX.mp h)) e) rfl rfl;exact q (FU c _ _) t.1 rfl rfl t.2 t.4
 go:=λi v c nt pos p Q E S I K dv q=>Pq S.3 (q c I rfl rfl K (.refl c) S dv)
theorem nH{n:Int}(h:0<=n):adl 0 n 1=n:=by unfold adl;simp;exact λz=>Int.le_antisymm h z
theorem uA{n:Int}(h:0<=n)(k:n<=lim):adR 0 n 1=true:=by unfold adR;refine gR (nH h ..) ?_;simp only[lim] at k;simp[Builtin.Range.rangeFitsLong];have a: -9223372036854775808<=n:=aeb (by decide) h;have b:n<9223372036854775808:=Int.lt_of_le_of_lt k (by decide);exact⟨⟨a,b⟩,.inr ⟨a,b⟩⟩
def Gd(c:ah)(o:Obj):ah:=⟨{c.γ with R:=cx c.γ.R c.s.heap.objs.size .aM},c.e,c.g,{c.s with heap:=c.s.heap.push o}⟩
theorem Ge(I:Inv fx c)(ho:o.isFreed=false):aG (Inv fx (Gd c o)) (Ext c (Gd c o)) ((c.s.heap.push o).get? c.s.heap.objs.size=some o):=
 have e:=zq c.s.heap ho;have x:=I.m7 (ae.push c.s o) (cx c.γ.R c.s.heap.objs.size .aM) λy=>(aei y c.s.heap.objs.size).byCases (λhy=>.inr (hy▸⟨ao _,congrArg Zv e⟩)) λhy=>.inl (aN hy)
 ⟨x.1,x.2,e⟩
theorem CC(hh:A.handled=none)(I:Inv fx c1)(K:Ext c c1){n:Int}{t:Nat}(h0:0<=n)(h1:n<=lim)
  (q:∀it c',c'.e=c1.e->c'.g=c1.g->Inv fx c'->Ext c c'->(∀fN c₀,d5 c c₀->tc A fN c₀ (.ref it) ((ZW n.toNat).map λ(i:Nat)=>Yn i) (λ_=>True) (λi c=>iq c₀ it n.toNat i c) (λi _ c=>iq c₀ it n.toNat (i+1) c)/\iq c₀ it n.toNat 0 c')->Q (.ref it) c'.s):
  zx (zv prog w) A (ZP (.type "range") [.int n t]) (λx az=>zx (zv prog w) A (pyIter x) Q E az) E c1.s:=by
 refine call_range_1 (wpAny_pyIter_range (IsRange.new _ _ _ _ _ _ _) (uA h0 h1) ?_);refine gR (nH h0 ..) ?_;have G:ae c1.s {c1.s with heap:=c1.s.heap.push {cls:=.type "range",data:=.fields #[.int 0 c1.s.toks,.int n t,.int 1 (c1.s.toks+1)]},toks:=c1.s.toks+1+1}:=⟨λ_ _ e=>zj _ e,rfl,rfl⟩;have K:=K.trans (.dD G);have x:=Ge (o:={cls:=.type "range_iterator",data:=.fields #[rawInt 0,rawInt n,rawInt 1]}) (I.dD G) rfl;exact q _ (Gd {c1 with s:=_} _) rfl rfl x.1 (K.trans x.2) λfN c₀ hf=>⟨Kq hh,bw,hf _ (.of K (ao _)),by
  refine x.3.trans ?_;simp[YN h0]⟩
theorem Gf(ok:bF fx)(hh:A.handled=none){a:CE}(hk:fx.env.kindOf "range"=some .globalImplicit)(hs:notStar (aH T.tb.nm a)=true)(ha:ai A call fx a):rY A call fx ng (.Rv a pf p):=λc r I h _=>by
 refine bC (λQ q=>cK ok I.g (zy (i:=10) rfl) hk rfl q) (gR (aj hs ..) (gR (ay ..) ?_));refine yI rfl (evalArgs_plain (spliced_cons (ha.d7 I (.refl _) h λa1 c1 v1 h I1 K1 V1 _=>spliced_nil (h.opt λn hn h=>?_))));obtain⟨d,hd,hn⟩:=bind_some hn;cases bL hd;cases dR hn;obtain⟨t,rX⟩:=V1;refine gR rX ?_;have hb:=aa h.bO.1;exact CC hh I1 K1 (of_decide_eq_true hb.1) (of_decide_eq_true hb.2) λit c2 ee eg I2 K2 J=>⟨.d .none,_,c2,_,_,_,h.bO.2.1.symm.trans (ee▸eg▸rfl),rfl,I2,K2,J,λ_ _=>trivial,λ_ _ _ _ _ h=>h⟩
end
section
variable{call:Call}
theorem Inv.Pr(I:Inv fx c)(hr:c.γ.R a=.sys)(hl:a≠fx.env.locals)(ho:c.s.heap.get? a=some o)(nc:∀v,o.data≠.cell v)(k:cX a c.s s')(ha:(s'.heap.get? a).isSome):
  Inv fx {c with s:=s'}/\ak c.γ c.g.length c.s.heap c.γ c.g.length s'.heap/\Sub (lk c.γ.R c.s.heap) (lk c.γ.R s'.heap):=by
 have keep:∀b q,c.γ.R b≠.sys->c.s.heap.get? b=some q->s'.heap.get? b=some q:=λb q h e=>(k.at_ b λe=>h (gR e hr)).trans e;have hf:∀b q,c.γ.R b=.free->c.s.heap.get? b=some q->c.γ.R b=.free/\s'.heap.get? b=some q:=λb q r e=>⟨r,keep b q (bA r rfl) e⟩;have ext:ak c.γ c.g.length c.s.heap c.γ c.g.length s'.heap:=⟨hf,λb q r e=>⟨r,keep b q (bA r rfl) e⟩,zm _,λ_ _=>rfl,λb q r e=>⟨r,q,keep b q (bA r rfl) e,.refl q⟩⟩;have slots:∀ov j sl,aJ c.γ c.g.length c.s.heap ov j sl->aJ c.γ c.g.length s'.heap ov j sl:=λov j sl x=>
  aJ.au (γ:=c.γ) (γ':=c.γ) hf (zm _) (λ_ _=>rfl) (λb q r e=>⟨rfl,keep b q (by rcases r with r |r <;> refine gR r ?_ <;> simp) e⟩) (λ_=>rfl) x
 refine⟨⟨⟨λn q e=>?_,λb r=>?_,λb q e=>hf b q (I.g.top b q e).1 (I.g.top b q e).2,k.os.trans I.g.os,k.gens.trans I.g.gens⟩,⟨?_,λj x b hx=>?_,I.q6 ext.fr⟩⟩,ext,ext.sub⟩
 ·exact dW.au (γ:=c.γ) (γ':=c.γ) (n:=c.g.length) hf (zm _) (zr.mp e).1 (λ_ _=>rfl) (λb q j r e=>⟨r,keep b q (bA r rfl) e⟩) (I.g.objs n q e)
 ·by_cases q:b=a
  ·exact gR q ha
  ·exact gR (k.at_ b q ..) (I.g.live b r)
 ·obtain⟨m,n,r,f⟩:=I.f.ns
  exact⟨m,ly (λq e=>(k.at_ _ (Z8 hl)).trans e) n,r,λj x hx sl hs=>slots _ j sl (f j x hx sl hs)⟩
 ·refine ze (I.f.cells j x b hx) λov jx=>?_;obtain⟨b',r,f⟩:=jx
  refine⟨ov,iD (λq e=>(k.at_ _ ?_).trans e) b',r,λsl hs=>slots _ j sl (f sl hs)⟩;rintro rfl;refine ze b' λoc oZ=>?_;obtain⟨hc,hd⟩:=oZ;rw[ho] at hc;obtain rfl:=zh hc;exact nc _ hd
def cj(fx:Fx)(d:zJ)(c:ah)(l:List D):Prop:=c8 λvs k=>dQ (c.γ.R d=.sys) (d≠fx.env.locals) (c.s.heap.get? d=some (aO vs k)) (aU (lk c.γ.R c.s.heap) l vs)
theorem cj.ext{d:zJ}{l:List D}(x:cj fx d c l)(K:Ext c c'):cj fx d c' l:=by obtain⟨vs,k,x⟩:=x;refine zg (λr' kN=>?_) (K.sys _ _ x.1 x.3);refine ze kN λo' kC=>(zg (λh' q=>?_) kC);exact⟨vs,k,r',x.2,h'.trans (congrArg some (q.list ⟨_,_,rfl⟩)),x.4.sub K.x.sub⟩
theorem cj.Pt{d:zJ}{l:List D}(x:cj fx d c l)(K:iN c c'):cj fx d c' l:=
 let⟨vs,k,x⟩:=x;have h:=K _ _ (.inl x.1) x.3
 ⟨vs,k,h.1.trans x.1,x.2,h.2,x.4.sub K.sub⟩
theorem cj.off{d:zJ}{l:List D}(x:cj fx d c l)(I:Inv fx c):∀i y o,(i,y,o)∈fx.lay->d≠placeOf fx o:=λi y o hm e=>by
 obtain⟨vs,k,x⟩:=x;cases o with
 |none=>exact x.2 e
 |some a=>
  refine ze (I.f.cells i y a hm) λov hX=>?_;obtain⟨⟨oc,hc,hd⟩,_⟩:=hX;obtain rfl:=e;cases x.3.symm.trans hc;cases hd
def Un(e e':Env):Prop:=∀(j:Nat) (sl:Slot),e'[j]? =some sl->sl=.un\/e[j]? =some sl
theorem Un.refl(e:Env):Un e e:=λ_ _ h=>.inr h
theorem Inv.un(I:Inv fx c)(hw:Un c.e e'):Inv fx {c with e:=e'}:=by
 have slots:∀ov j sl,(∀aQ,c.e[j]? =some aQ->aJ c.γ c.g.length c.s.heap ov j aQ)->e'[j]? =some sl->aJ c.γ c.g.length c.s.heap ov j sl:=λov j sl h hj=>
  (hw j sl hj).elim (λe=>e▸trivial) λh0=>h sl h0
 refine⟨I.g,⟨?_,λj x a hx=>?_,I.f.out⟩⟩
 ·obtain⟨m,a,b,f⟩:=I.f.ns
  exact⟨m,a,b,λi x hx sl hs=>slots _ i sl (f i x hx) hs⟩
 ·refine ze (I.f.cells j x a hx) λov FY=>?_;obtain⟨b,r,f⟩:=FY
  exact⟨ov,b,r,λsl hs=>slots _ j sl f hs⟩
def vg(e:Env):Prop:=∀(j:Nat) (sl:Slot),e[j]? =some sl->sl.Jb=false
theorem jh(h:i≠j) sl:(bh e i sl)[j]? =e[j]?:=Z5 h
theorem Kr(h:vg e) i {sl:Slot} (hs:sl.Jb=false):vg (bh e i sl):=λj fc hj=>(aei i j).byCases
 (λq=>by
  subst q;cases(ZQ (YS▸(zr.mp hj).1)).symm.trans hj;exact hs) λq=>h j fc ((jh q sl).symm.trans hj)
theorem Pu(h:Un e e')(hi:∀sl,e'[i]? =some sl->sl=.un) sl:Un (bh e i sl) e':=λj fc hj=>(aei i j).byCases (λq=>.inl (hi fc (q▸hj))) λq=>(h j fc hj).imp id λz=>(jh q sl).trans z
theorem Gg{x:D}(hn:vg e)(hu:∀t∈ts,∀sl,e[t.1]? =some sl->sl=.un)(hb:(gU ts tp x e).is e1):aF (Un e1 e) (vg e1):=qs (P:=λe'=>aF (Un e' e) (vg e')) hb ⟨.refl e,hn⟩ λt ht d e' h=>⟨Pu h.1 (hu t ht) _,Kr h.2 _ rfl⟩
end
section
variable{call:Call}
theorem XE.ok{y:α}{x:zo}(h:XE c (.ok y) x s'):P:=by obtain⟨_,_,_,e,_⟩:=h;cases e
theorem ai.goM(h:ai A call fx ce)(I:Inv fx c){y:β}{f:AV×Env×G->W β}(er:Rn call ((cC T.tb ce c.e c.g).bind f) (.ok y))
  (k:∀a c' v,Rn call (f (a,c'.e,c'.g)) (.ok y)->Inv fx c'->Ext c c'->du fx c' a v->Q v c'.s):zx (zv prog w) A (YJ (aH T.tb.nm ce) fx.env) Q E c.s:=
 zI (h.d7 I (.refl _) er λa c' v e I' K' V _=>k a c' v e I' K' V) (λ_ _ q=>q) λ_ _ q=>XE.ok q
theorem ct.goM(h:ct A call fx ce)(I:Inv fx c){y:β}{f:Bool×Env×G->W β}{Q:Bool->zt->Prop}(er:Rn call ((eH T.tb ce c.e c.g).bind f) (.ok y))
  (k:∀b c',Rn call (f (b,c'.e,c'.g)) (.ok y)->Inv fx c'->Ext c c'->Q b c'.s):zx (zv prog w) A (isTrue (aH T.tb.nm ce) fx.env (YJ (aH T.tb.nm ce) fx.env)) Q E c.s:=
 zI (h.d7 I (.refl _) er λa c' e I' K'=>k a c' e I' K') (λ_ _ q=>q) λ_ _ q=>XE.ok q
def Pw(P:CE->Prop):cz->Prop
 |.nil=>True
 |.cons a r=>match r with
  |.nil=>P a
  |.cons _ _=>False
theorem CD(h:Pw (ct A call fx) ifs)(I:Inv fx c){y:β}{f:Bool×Env×G->W β}{Q:Bool->zt->Prop}(er:Rn call ((evT T.tb ifs c.e c.g).bind f) (.ok y))
  (k:∀b c',Rn call (f (b,c'.e,c'.g)) (.ok y)->Inv fx c'->Ext c c'->Q b c'.s):
  zx (zv prog w) A (forIn (cn T.tb.nm ifs) true λc r=>if r=true then do let ok ←isTrue c fx.env (YJ c fx.env);pure (yU ok) else pure (yU r)) Q E c.s:=by
 cases ifs with
 |nil=>exact zl (k true c er I (.refl _))
 |cons a r=>
  cases r with
  |cons _ _=>exact h.elim
  |nil=>
   exact gR (ady ..) (zf (zf (ct.goM h I er λb c' e I' K'=>zl (zl (k b c' e I' K')))))
noncomputable def WA(A:ZV)(call:Call)(fx:Fx):fQ->Prop
 |.el a=>ai A call fx a
 |.cons ts tp ci ifs r=>DJ (∀t∈ts,∃o,qp fx t.1 t.2.1 o) (tp=none->∃t,ts=[t]) (Pw (ct A call fx) ifs) (rY A call fx (tp=none) ci) (il (Dx T.tb.nm ci)=false) (WA A call fx r)
def Ks(e:Env)(r:fQ):Prop:=∀i∈MK r,∀sl,e[i]? =some sl->sl=.un
noncomputable def GNd:fQ->Prop
 |.el _=>True
 |.cons ts _ _ _ r=>aF (∀t∈ts,t.1∉MK r) (GNd r)
theorem uB{x:D}(hb:(gU ts tp x e).is e1)(hj:∀t∈ts,t.1≠j):e1[j]? =e[j]?:=qs (P:=λe'=>e'[j]? =e[j]?) hb rfl λt ht _ _ h=>(jh (hj t ht) _).trans h
def QG(fx:Fx)(d:zJ)(c:ah)(y:List D×G)(s':zt):Prop:=
 ∃c',DJ (c'.g=y.2) (c'.s=s') (Inv fx c') (c'.e=c.e) (ak c.γ c.g.length c.s.heap c'.γ c'.g.length c'.s.heap) (cj fx d c' y.1)
def Gi(tb:Tb)(ts:List (Nat×Nat×Pos))(tp:Option Pos)(ifs:cz)(r:fQ)(e:Env)(x:D)(acc:List D)(g:G):W (List D×G):=
 (fH (gU ts tp x e)).bind λe1=>(evT tb ifs e1 g).bind λc=>.br (NX ts ifs) c.1 (IV tb r c.2.1 acc c.2.2) (.ok (acc,c.2.2))
def CS'(call:Call)(fx:Fx)(dl:zJ)(c₀:ah)(St:Nat->ah->Prop)(l:List D)(e:Env)(F:List D->List D->G->W (List D×G))(y:List D×G)(n:Nat)(s':zt):Prop:=
 mi λi acc c'=>R7 (c'.s=s') (Inv fx c') (c'.e=e) (ak c₀.γ c₀.g.length c₀.s.heap c'.γ c'.g.length c'.s.heap) (St i c') (i<=l.length) (n=l.length - i) (cj fx dl c' acc) (Rn call (F (l.drop i) acc c'.g) (.ok y))
section
variable{elt:Ye}{gens:List yr}{dl:zJ}{r:fQ}{y:List D×G}{d:Nat}
theorem CF(ok:bF fx)(hh:A.handled=none)(tg:∀t∈ts,∃o,qp fx t.1 t.2.1 o)(ht:Pw (ct A call fx) ifs){e2:Env}(hn:vg e2){acc:List D}{F:List D×G->W (List D×G)}
  (ih:∀c y,Inv fx c->c.e=e2->cj fx dl c acc->Rn call (IV T.tb r e2 acc c.g) (.ok y)->∀E,zx (zv prog w) A (jg elt gens scope pos d (.ref dl) fx.env) (λ_=>QG fx dl c y) E c.s)
   (I:Inv fx c) {x:D} (hb:(gU ts tp x c.e).is e2)  (D:DR (lk c.γ.R c.s.heap) x v) (ac:cj fx dl c acc)
  (er:Rn call ((evT T.tb ifs e2 c.g).bind λc=>W.bind (.br (NX ts ifs) c.1 (IV T.tb r c.2.1 acc c.2.2) (.ok (acc,c.2.2))) F) (.ok y)) {N:zt->Prop}
  (back:∀c' Kt,Inv fx c'->c'.e=e2->ak c.γ c.g.length c.s.heap c'.γ c'.g.length c'.s.heap->cj fx dl c' Kt->Rn call (F (Kt,c'.g)) (.ok y)->N c'.s):
  zx (zv prog w) A (assign (oO T.tb.nm ts tp) fx.env v) (λ_ gw=>
   zx (zv prog w) A (forIn (cn T.tb.nm ifs) true λc r=>if r=true then do let ok ←isTrue c fx.env (YJ c fx.env);pure (yU ok) else pure (yU r)) (λok fj=>
    if ok=true then zx (zv prog w) A (jg elt gens scope pos d (.ref dl) fx.env) (λ_ Pp=>N Pp) E fj else N fj) E gw) E c.s:=
 qq ok hh tg I D hb λs4 I4 K4 hk=>by
  have ac4:cj fx dl {c with e:=e2,s:=s4} acc:=
   let⟨vs,k,z⟩:=ac
   ⟨vs,k,z.1,z.2,hk dl _ (.inr (ac.off I)) z.3,z.4.sub K4.sub⟩
  refine CD ht I4 er λb c5 e5 I5 K5=>?_;have WB:c5.e=e2:=K5.env hn;have ac5:=ac4.ext K5;have K5:=K4.trans K5.x;cases b with
  |false=>exact back c5 acc I5 WB K5 ac5 e5
  |true=>
   rw[WB] at e5;have e5:Rn call ((IV T.tb r e2 acc c5.g).bind F) (.ok y):=e5;refine e5.okv λy1 z e5=>zI (ih c5 y1 I5 WB ac5 z E) (λ_ s6 q=>?_) λ_ _ q=>q;exact ze q λc6 q=>(gL q.2 (back c6 y1.1 q.3 (q.4.trans WB) (K5.trans q.5) q.6 (q.1.symm▸e5)))
section
variable{it:zo}{l:List D}{St:Nat->ah->Prop}
theorem CG(J:tc A fx c₀ it l qu St Md)(Kg:∀d,stays d.e d.g src l=true->qu d){f:D->List D->G->W (List D×G)}{n:Nat}(h:CS' call fx dl c₀ St l e (mr (λg=>stays e g src l) f) y n s'){Q:Option zo->zt->Prop}
  (q0:∀c',c'.g=y.2->Inv fx c'->c'.e=e->ak c₀.γ c₀.g.length c₀.s.heap c'.γ c'.g.length c'.s.heap->cj fx dl c' y.1->Q none c'.s)
  (q1:∀i x acc v c',i<l.length->n=l.length - i->Inv fx c'->c'.e=e->ak c₀.γ c₀.g.length c₀.s.heap c'.γ c'.g.length c'.s.heap->Md i v c'->DR (lk c'.γ.R c'.s.heap) x v->cj fx dl c' acc->
   Rn call ((f x acc c'.g).bind λy=>mr (λg=>stays e g src l) f (l.drop (i+1)) y.1 y.2) (.ok y)->Q (some v) c'.s):zx (zv prog w) A (pyNext it) Q E s':=by
 obtain⟨i,acc,c1,h⟩:=h;refine gL h.1 ?_;have e1:=h.9;cases hd:l.drop i with
 |nil=>
  replace e1:=hd▸e1;cases yS h.6 (drop_nil hd);have e1:=Rn.bO e1;cases e1.2.1;exact J.stop c1 _ _ h.5 (Kg c1 (h.3.symm▸e1.1)) h.2 h.4 λc2 I2 ee eg K2 sk=>q0 c2 eg I2 (ee.trans h.3) K2 (h.8.Pt sk)
 |cons x rest=>
  replace e1:=hd▸e1;have z:=qt hd;have e1:=Rn.bO e1;exact J.item i c1 x _ _ z.2 h.5 (Kg c1 (h.3.symm▸e1.1)) h.2 h.4 λv c2 I2 ee eg K2 sk M2 D2=>q1 i x acc v c2 z.1 h.7 I2 (ee.trans h.3) K2 M2 D2 (h.8.Pt sk) (z.3.symm▸eg.symm▸e1.2)
theorem qw(ok:bF fx)(hh:A.handled=none)(hg:gens[d]? =some ⟨oO T.tb.nm ts tp,Dx T.tb.nm ci,cn T.tb.nm ifs,0⟩)(fM:∀g∈gens,g.is_async=0)
  (tg:∀t∈ts,∃o,qp fx t.1 t.2.1 o) (Pd:tp=none->∃t,ts=[t]) (ht:Pw (ct A call fx) ifs)
  (ih:∀c acc y,Inv fx c->vg c.e->Ks c.e r->cj fx dl c acc->Rn call (IV T.tb r c.e acc c.g) (.ok y)->∀E,zx (zv prog w) A (jg elt gens scope pos d (.ref dl) fx.env) (λ_=>QG fx dl c y) E c.s)
  (hun:∀(e e1) x,(gU ts tp x e).is e1->Ks e r->Ks e1 r)
  (J:tc A fx c₀ it l qu St Md) (Kg:∀d,stays d.e d.g src l=true->qu d) (Wm:tp=none->∀i v d,Md i v d->St (i+1) d)
  (I:Inv fx c) (K:ak c₀.γ c₀.g.length c₀.s.heap c.γ c.g.length c.s.heap) (S:St 0 c) (he:c.e=e) (hn:vg e) (hu:∀t∈ts,∀sl,e[t.1]? =some sl->sl=.un) (hur:Ks e r) {acc:List D} (ac:cj fx dl c acc)
  (er:Rn call (mr (λg=>stays e g src l) (Gi T.tb ts tp ifs r e) l acc c.g) (.ok y)) {RR:yX->zt->Prop}
  (hR:∀c',c'.g=y.2->Inv fx c'->c'.e=e->ak c₀.γ c₀.g.length c₀.s.heap c'.γ c'.g.length c'.s.heap->cj fx dl c' y.1->RR (.ok .next) c'.s):
  ZH (zv prog w) A (.compLoop (.ListComp elt gens scope pos) d it (.ref dl) fx.env) RR c.s:=
 iO hg fM (CS' call fx dl c₀ St l e (mr (λg=>stays e g src l) (Gi T.tb ts tp ifs r e)) y) (λn s' h=>CG J Kg h hR λi x acc v c2 hi JP I2 ee K2 M2 D2 ac2 e1=>J.goT Pd Wm M2 I2 K2 D2 λc3 I3 Wn eg3 K3 sk3 S3 D3=>
  (Rn.bu e1).fH λe2 hb e1=>
   have u:=Gg hn hu hb;have Wn:=Wn.trans ee
   CF ok hh tg ht u.2 (λc y I q n k E=>ih c acc y I (q.symm▸u.2) (q.symm▸hun e _ x hb hur) n (q.symm▸k) E) I3 (Wn.symm▸hb) D3 (ac2.Pt sk3) (eg3▸Rn.bu e1) λc' Kt I' e' K' ac' er'=>
    ⟨l.length - (i+1),JP▸adD _ _ hi,i+1,Kt,{c' with e:=e},rfl,I'.un (e'.symm▸u.1),rfl,K3.trans K',J.keep _ _ {c' with e:=e} S3 K',hi,rfl,ac',er'⟩) l.length ⟨0,acc,c,rfl,I,he,K,S,zE _,rfl,ac,er⟩
end
theorem Ku{acc:List D}(I:Inv fx c1)(K:ak c.γ c.g.length c.s.heap c1.γ c1.g.length c1.s.heap)(ee:c1.e=c.e)(ac:cj fx dl c1 acc){p:D}(V:DR (lk c1.γ.R c1.s.heap) p v)(hl:acc.length<lim):
  zx (zv prog w) A (ZP (.builtin "list.append") [.ref dl,v]) (λ_=>QG fx dl c (acc++[p],c1.g)) E c1.s:=by
 obtain⟨vs,k,z⟩:=ac;refine wpAny_list_append_plain ⟨k,z.3⟩ (λh' hp hs=>?_) (bb (zk (zO z.4.length) (Zz hl)));refine ze hp λk' h'e=>?_;have h'e:h'.get? dl=some (aO (vs++[v]) k'):=by simpa using h'e
 have q:=I.Pr z.1 z.2 z.3 (λ_ e=>nomatch e) (s':={c1.s with heap:=h'}) ⟨λb hb=>hs.2 b hb,rfl,rfl⟩ (congrArg Zv h'e);exact⟨{c1 with s:={c1.s with heap:=h'}},rfl,rfl,q.1,ee,K.trans q.2.1,vs++[v],k',z.1,z.2,h'e,(z.4.append (.one V)).sub q.2.2⟩
theorem AE{l r:List α}{n:Nat}{x:Option α}(h:l.drop n=r)(e:r[0]? =x):l[n]? =x:=(List.getElem?_drop).symm.trans (h▸e)
theorem Kw(ok:bF fx)(hh:A.handled=none)(fM:∀g∈gens,g.is_async=0):∀r:fQ,elt=tn T.tb.nm r->∀d,WA A call fx r->GNd r->gens.drop (d+1)=toG T.tb.nm r->∀c acc y,Inv fx c->vg c.e->Ks c.e r->cj fx dl c acc->
  Rn call (IV T.tb r c.e acc c.g) (.ok y)->∀E,zx (zv prog w) A (jg elt gens scope pos d (.ref dl) fx.env) (λ_=>QG fx dl c y) E c.s:=by
 refine fQ.ind (λa=>?_) λts tp ci ifs r ih=>?_
 ·intro he d ha _ hg c acc y I no un ac er E
  refine(?_:zx (zv prog w) A (match gens[d+1]? with |some g'=>_ |none=>_) _ _ _);refine gR (AE hg (x:=none) rfl ..) (gR he ?_);exact zf (ai.goM ha I er λa1 c1 v1 e1 I1 K1 V1=>e1.opt λp hp e1=>by
   cases bL hp;have e1:=e1.bO;cases e1.2.1;exact zf (zI (Ku I1 K1.x (K1.env no) (ac.ext K1) V1 (of_decide_eq_true e1.1)) (λ_ _ q=>zl q) λ_ _ q=>q))
 ·intro he d H nd hg c acc y I no un ac er E
  have hg':=AE hg rfl;refine(?_:zx (zv prog w) A (match gens[d+1]? with |some g'=>_ |none=>_) _ _ _);refine gR hg' (zf (zI (H.4 c _ I er.vd (.inr no)) (λx az q=>?_) λx s' q=>XE.ok (XE.up (.refl c) er q)));refine zf (wpAny_standAt ?_);refine gR (kR H.5 ..) (zf (zl (zf (zT (zI q (λit gw q=>?_) λx s' q=>XE.ok (XE.up (.refl c) er q))))));obtain⟨src,l,c1,qu,St,Md,q⟩:=q;refine gL q.2 ?_;have J:=q.5 fx c (.refl c);have er:=er.at q.1;have ee1:=q.4.env no;refine zf (wpAny_runOwn ?_);have loop:ZH (zv prog w) (A.mark none) (.compLoop (.ListComp elt gens scope pos) (d+1) it (.ref dl) fx.env) (λr s'=>match r with
    |.ok f=>zx (zv prog w) A (pure ()) (λ_=>QG fx dl c y) E s'
    |.error e=>adB (zv prog w) A fx.env E e s') c1.s:=by
   refine gR (mark_none ..) ?_;exact qw ok hh hg' fM H.1 H.2 H.3 (λc acc y I n u ac er E=>ih he (d+1) H.6 nd.2 ((List.drop_drop).symm.trans (congrArg (List.drop 1) hg)) c acc y I n u ac er E) (λe e1 x hb hu i hi sl hs=>hu i hi sl ((uB hb λt ht e=>nd.1 t ht (e▸hi)).symm.trans hs))
    J.1 (λd h=>q.6 d h) (λh i v d=>q.7 h c i v d) q.3 q.4.x J.2 ee1 no (λt ht sl hs=>un t.1 (y4 _ (ZI ht)) sl hs) (λi hi sl hs=>un i (yV _ hi) sl hs) (ac.ext q.4) (ee1▸er) λc2 eg I2 WC K2 ac2=>
    zl ⟨c2,eg,rfl,I2,WC,K2,ac2⟩
  exact eA hg' (fM _ (zy hg')) loop (J.1.self _ _ _ _ J.2 loop)
end
end
variable{gs:fQ}
structure Ctx where
 lay:List (Nat×Nat×Bool)
 kinds:List (Nat×Zc)
 mine:List Nat
structure c9(C:Ctx)(fx:Fx):Prop where
 ok:bF fx
 lay:∀i x b,(i,x,b)∈C.lay->∃o,(i,T.tb.nm x,o)∈fx.lay/\o.isSome=b
 only:∀q∈fx.lay,c8 λx b=>aG ((q.1,x,b)∈C.lay) (q.2.1=T.tb.nm x) (q.2.2.isSome=b)
 kind:∀x k,(x,k)∈C.kinds->fx.env.kindOf (T.tb.nm x)=some k
 mine:∀x∈C.mine,fx.mine (T.tb.nm x)=true
noncomputable def CH:fQ->List (Nat×Nat×Pos)
 |.el _=>[]
 |.cons ts _ _ _ r=>ts++CH r
theorem wI:∀r:fQ,MK r=(CH r).map (·.1)
 |.el _=>rfl
 |.cons ts _ _ _ r=>(congrArg (ts.map (·.1)++·) (wI r)).trans yc.symm
def r6(C:Ctx)(gs:fQ)(sc:List (Nat×Zc)):Ctx where
 lay:=(CH gs).map (λt=>(t.1,t.2.1,sc.contains (t.2.1,.cell)))++C.lay.filter λq=>q.2.2&&sc.contains (q.2.1,.free)
 kinds:=sc.filter λp=>p.2 != .free
 mine:=(sc.filter λp=>p.2== .cell).map (·.1)
structure eJ(C:Ctx)(gs:fQ)(sc:List (Nat×Zc)):Prop where
 nd:(sc.map (·.1)).Nodup
 free:∀x,(x,ZE)∈sc->∃i,(i,x,true)∈C.lay
 tg:∀t∈CH gs,((t.2.1,NameKind.local)∈sc\/(t.2.1,zL)∈sc)/\(T.tb.nm t.2.1==("__debug__":Str))=false
 ID:((CH gs).map (·.1)).Nodup
 ndX:((CH gs).map λt=>t.2.1).Nodup
 apart:∀q∈C.lay,q.1∉MK gs
noncomputable def Px(env:Zj)(acc:List (Str×zJ))(p:Str×Zc):List (Str×zJ):=match p.2==ZE with
 |true=>(p.1,(env.cells.lookup p.1).getD 0)::acc
 |false=>acc
def WD(env:Zj)(names:List (Str×Zc))(acc:List (Str×zJ)):List (Str×zJ):=names.foldl (Px env) acc
theorem wJ{g:β->α->β}{f:α->β->Sem (ForInStep β)}{l:List α}(h:∀p∈l,∀b,f p b=pure (.yield (g b p))) b:forIn l b f=pure (l.foldl g b):=by
 induction l generalizing b with
 |nil=>exact List.forIn_nil
 |cons p r ih=>
  refine gR (ady ..) (gR (h p (.head _) b ..) (gR (pure_bind ..) ?_));exact ih (λq hq=>h q (.tail _ hq)) _
theorem wL(h:∀x,(x,ZE)∈scope.names->∃a,env.cells.lookup x=some a):closureFor scope env=pure (WD env scope.names []):=by
 refine(bind_pure _).trans (wJ (λp hp b=>?_) []);cases hk:p.2==ZE with
 |true=>
  refine ze (h p.1 (eq_of_beq hk▸hp)) λa ha=>((if_pos hk).trans ?_);unfold cellOf Px;refine gR hk (gR ha (gR (pure_bind ..) ?_));rfl
 |false=>
  unfold Px;exact gR hk (if_neg λe=>Zq (hk.symm.trans e))
theorem wM{x:Str}(ha:env.cells.lookup x=some a)(h:acc.lookup x=some a\/(x,ZE)∈names):(WD env names acc).lookup x=some a:=by
 induction names generalizing acc with
 |nil=>exact h.resolve_right ZT
 |cons p r ih=>
  refine ih ?_;unfold Px;cases hk:p.2==ZE with
  |true=>cases e:x==p.1 with
   |true=>exact .inl (ip.trans (by refine gR e (gL (eq_of_beq e ..) (gR ha ?_));rfl))
   |false=>exact h.imp (λh=>ip.trans (gR e h)) λh=>nA h λq=>ne_of_beq_false e (congrArg Prod.fst q)
  |false=>exact h.imp id λh=>nA h λq=>ne_of_beq_false hk (congrArg Prod.snd q).symm
theorem iY{n:Nat}:cellsFrom n names acc=cellsFrom n names []++acc:=by
 induction names generalizing n acc with
 |nil=>rfl
 |cons p r ih=>
  refine gR fA (gR fA ?_);cases p.2==zL with
  |true=>exact ih.trans ((List.append_cons ..).trans (congrArg (·++acc) ih.symm))
  |false=>exact ih
theorem pn{n:Nat}{x:Str}(h:(x,a)∈cellsFrom n names acc):(x,zL)∈names\/(x,a)∈acc:=by
 induction names generalizing n acc with
 |nil=>exact .inr h
 |cons p r ih=>
  rw[fA] at h;cases hk:p.2==zL with
  |true=>
   rw[hk] at h;exact(ih h).elim (λh=>.inl (.tail _ h)) λh=>(zK.mp h).elim (λe=>.inl (zK.mpr (.inl (adY (congrArg Prod.fst e:x=p.1) (eq_of_beq hk).symm)))) .inr
  |false=>
   rw[hk] at h;exact(ih h).imp (.tail _) id
section
variable{call:Call}
theorem ak.bX(γ:Gh)(n:Nat)(h:yi):ak γ n h (bX γ) n h:=⟨λ_ _ r e=>⟨bM.mpr r,e⟩,λ_ _ r e=>⟨dg.mpr (.inl r),e⟩,zm _,λ_ _=>rfl,λ_ o r e=>⟨fz.mpr (.inl r),o,e,.refl o⟩⟩
noncomputable def eO(γ:Gh):Gh:={γ with R:=λa=>match γ.R a with |.own _=>.aM |.sys=>.aM |r=>r}
theorem fh:(eO γ).R a=.free↔γ.R a=.free:=by refine(?_:(match γ.R a with |.own _=>Role.aM |.sys=>.aM |r=>r)=_↔_);cases q:γ.R a <;> simp
theorem kU:(eO γ).R a=.aM↔(γ.R a=.aM\/γ.R a=.sys\/∃i,γ.R a=.own i):=by refine(?_:(match γ.R a with |.own _=>Role.aM |.sys=>.aM |r=>r)=_↔_);cases q:γ.R a <;> simp
theorem Gj:(eO γ).R a=.fr↔γ.R a=.fr:=by refine(?_:(match γ.R a with |.own _=>Role.aM |.sys=>.aM |r=>r)=_↔_);cases q:γ.R a <;> simp
theorem Ky{n:Nat}{k:Bool}:(eO γ).R a=.g n k↔γ.R a=.g n k:=by refine(?_:(match γ.R a with |.own _=>Role.aM |.sys=>.aM |r=>r)=_↔_);cases q:γ.R a <;> simp
theorem ak.eO(γ:Gh)(n:Nat)(h:yi):ak γ n h (eO γ) n h:=⟨λ_ _ r e=>⟨fh.mpr r,e⟩,λ_ _ r e=>⟨kU.mpr (.inl r),e⟩,zm _,λ_ _=>rfl,λ_ o r e=>⟨Gj.mpr r,o,e,.refl o⟩⟩
theorem aS.eO(I:aS γ g s):aS (eO γ) g s where
 objs:=λn o e=>(I.objs n o e).au (γ':=Lw.eO γ) (λa o r e=>⟨fh.mpr r,e⟩) (zm _) (zr.mp e).1 (λ_ _=>rfl) (λa o j r e=>⟨Ky.mpr r,e⟩)
 live:=λa r=>I.live a λh=>r (fh.mpr h)
 top:=λa o e=>⟨fh.mpr (I.top a o e).1,(I.top a o e).2⟩
 os:=I.os
 gens:=I.gens
def iu(fx:Fx)(sc:List (Nat×Zc))(L:zJ):List (Str×zJ):=cellsFrom (L+1) (j5 T.tb.nm sc).names (WD fx.env (j5 T.tb.nm sc).names [])
def oT(fx:Fx)(sc:List (Nat×Zc))(L:zJ)(t:Nat×Nat×Pos):Option Addr:=match sc.contains (t.2.1,zL) with
 |true=>(iu fx sc L).lookup (T.tb.nm t.2.1)
 |false=>none
def eM(fx:Fx)(gs:fQ)(sc:List (Nat×Zc))(L:zJ):Fx where
 env:=compEnvC (j5 T.tb.nm sc) (iu fx sc L) L fx.env
 lay:=(CH gs).map (λt=>(t.1,T.tb.nm t.2.1,oT fx sc L t))++fx.lay.filter λq=>q.2.2.isSome&&(j5 T.tb.nm sc).names.contains (q.2.1,.free)
 mine:=λy=>(j5 T.tb.nm sc).names.contains (y,.cell)
 out:=fx.env.locals::fx.out
theorem iE.comp(h:iE A fx){sc:List (Nat×Zc)}{L:zJ}:iE A (eM fx gs sc L):=λl hl env he=>by
 refine zg (λq D9=>?_) (h l hl env he);refine ze D9 λa oV=>?_;obtain⟨e,k⟩:=oV;exact⟨q,a,e,.inl (k.elim (λk=>.tail _ k) λk=>k▸.head _)⟩
theorem eR{sc:List (Nat×Zc)}{k:Zc}:(T.tb.nm x,k)∈(j5 T.tb.nm sc).names↔(x,k)∈sc:=
 ⟨λh=>by
  refine ze (zH.mp h) λp nq=>(zg (λhp e=>?_) nq);have e:p=(x,k):=adY (tok.inj _ _ (congrArg (·.1) e)) (congrArg (·.2) e);exact e▸hp,λh=>zH.mpr ⟨_,h,rfl⟩⟩
theorem gI{sc:List (Nat×Zc)}(nd:(sc.map (·.1)).Nodup){k:Zc}(h:(x,k)∈sc):(j5 T.tb.nm sc).names.lookup (T.tb.nm x)=some k:=by
 induction sc with
 |nil=>exact absurd h ZT
 |cons p r ih=>
  have nd:=ZR.mp nd;refine ip.trans ?_;cases e:T.tb.nm x==T.tb.nm p.1 with
  |true=>
   exact(zK.mp h).elim (λq=>congrArg (λp:Nat×Zc=>some p.2) q.symm) λm=>absurd ((λm=>ZI (f:=λp:Nat×Zc=>p.1) m) m) ((tok.inj _ _ (eq_of_beq e))▸nd.1)
  |false=>exact ih nd.2 (nA h λq=>ne_of_beq_false e (congrArg (T.tb.nm ·.1) q))
theorem iG{sc:List (Nat×Zc)}(nd:(sc.map (·.1)).Nodup){k k':Zc}(h:(x,k)∈sc)(h':(x,k')∈sc):k=k':=zh ((gI nd h).symm.trans (gI nd h'))
theorem r7{C:Ctx}(fit:c9 C fx){sc:List (Nat×Zc)}(co:eJ C gs sc):closureFor (j5 T.tb.nm sc) fx.env=pure (WD fx.env (j5 T.tb.nm sc).names []):=by refine wL λx hx=>(ze (zH.mp hx) λp lN=>(zg (λhp e=>?_) lN));have e2:p.2=.free:=congrArg (·.2) e;have e1:T.tb.nm p.1=x:=congrArg (·.1) e;refine ze (co.free p.1 (e2▸hp)) λi hi=>(ze (fit.lay _ _ _ hi) λo j4=>?_);obtain⟨a,rfl⟩:=zp.mp j4.2;exact⟨a,e1▸(fit.ok.DC _ _ _ j4.1).2.1⟩
theorem uC{C:Ctx}(fit:c9 C fx){sc:List (Nat×Zc)}(nd:(sc.map (·.1)).Nodup){L:zJ}(hx:(x,ZE)∈sc)(h:(i,T.tb.nm x,some a)∈fx.lay):(iu fx sc L).lookup (T.tb.nm x)=some a:=by
 unfold iu;refine gR iY (gR List.lookup_append ?_);cases q:(cellsFrom (L+1) (j5 T.tb.nm sc).names []).lookup (T.tb.nm x) with
 |none=>exact wM (fit.ok.DC _ _ _ h).2.1 (.inr ((eR).mpr hx))
 |some b=>exact(pn (mem_of_lookup q)).elim (λh=>nomatch iG nd hx ((eR).mp h)) λh=>absurd h ZT
theorem nI{sc:List (Nat×Zc)}{L:zJ}{x:Str}(hx:(x,zL)∈(j5 T.tb.nm sc).names):∃a,aF ((iu fx sc L).lookup x=some a) ((x,a)∈cellsFrom (L+1) (j5 T.tb.nm sc).names []):=by refine ze (zp.mp (iX (n:=L+1) (acc:=[]) (.inl hx))) λa ha=>⟨a,?_,mem_of_lookup ha⟩;unfold iu;refine gR iY (gR List.lookup_append (gR ha ?_));rfl
end
variable{sc:List (Nat×Zc)}
section
variable{call:Call}
theorem uD{cl:List (Str×zJ)}{Q:Zj->zt->Prop}
  (h:Q {scope,locals:=s.heap.objs.size,globals:=env.globals,cells:=cellsFrom (s.heap.objs.size+1) scope.names cl,qual:=env.qual,func:=none,code:=env.code,frame:=env.frame,builtins:=env.builtins}
   {s with heap:=pushCells (s.heap.push {cls:=.type "dict",data:=.dict #[]}) scope.names}):
  zx (zv prog w) A (newFunctionEnv scope env.globals cl [] env.qual none .none (some env)) Q E s:=by
 simp only[newFunctionEnv,Option.isSome_some,if_true];refine zf (wpAny_alloc ?_);refine zf (wpAny_layCells _ (λname kind cells=>by cases hkc:kind==zL <;> simp[hkc]) _ _ _ _ ?_);rw[show({s with heap:=s.heap.push {cls:=.type "dict",data:=.dict #[]}}:zt).heap.objs.size=s.heap.objs.size+1 from Zp ..];exact zf (zl (zl h))
theorem wN{f:α->β}{l:List α}(n:(l.map f).Nodup){a b:α}(ha:a∈l)(hb:b∈l)(e:f a=f b):a=b:=by
 induction l with
 |nil=>exact absurd ha ZT
 |cons x r ih=>
  have n:=ZR.mp n;exact(zK.mp ha).elim (λp=>(zK.mp hb).elim (λq=>p.trans q.symm) λq=>absurd (p▸e▸ZI q) n.1)
   λp=>(zK.mp hb).elim (λq=>absurd (q▸e▸ZI p) n.1) λq=>ih n.2 p q
theorem r8{R:α->α->Prop}(sy:∀a b,R a b->R b a){l l':List α}(h1:∀a∈l,∀b∈l,R a b)(h2:∀a∈l',∀b∈l',R a b)(h3:∀a∈l,∀b∈l',R a b){a b:α}(ha:a∈l++l')(hb:b∈l++l'):R a b:=
 (Zi.mp ha).elim (λp=>(Zi.mp hb).elim (h1 a p b) (h3 a p b)) λp=>(Zi.mp hb).elim (λq=>sy _ _ (h3 b q a p)) (h2 a p b)
theorem CJ{f:Str->Zc->Bool}{x:Str}{k:Zc}(h:names.lookup x=some k):(names.map λ(n,k)=>if f n k=true then(n,zL) else(n,k)).lookup x=some (if f x k=true then .cell else k):=by
 induction names with
 |nil=>exact ns h
 |cons p r ih=>
  have h:=ip.symm.trans h;refine(?_:adS x ((if f p.1 p.2=true then(p.1,zL) else(p.1,p.2))::_)=_);refine gL (apply_ite (Prod.mk p.1) ..) ?_;refine ip.trans ?_;cases e:x==p.1 with
  |true=>
   rw[e] at h;refine gR (eq_of_beq e ..) ?_;refine gL (zh h ..) ?_;rfl
  |false=>
   rw[e] at h;exact ih h
section
variable{C:Ctx}{L:zJ}
theorem lF(co:eJ C gs sc){k:Zc}(h:(x,k)∈sc):(eM fx gs sc L).env.kindOf (T.tb.nm x)=some (if(k==ZE&&fx.env.scope.kind== .function&&fx.env.kindOf (T.tb.nm x)==some .cell)=true then .cell else k):=
 CJ (f:=λn k=>k==ZE&&fx.env.scope.kind== .function&&fx.env.kindOf n==some .cell) (gI co.nd h)
theorem gJ(co:eJ C gs sc){k:Zc}(h:(x,k)∈sc)(hk:(k==ZE)=false):(eM fx gs sc L).env.kindOf (T.tb.nm x)=some k:=
 (lF co h).trans (congrArg some (if_neg (by refine gR hk ?_;exact Zq)))
theorem iH(co:eJ C gs sc){t:Nat×Nat×Pos}(ht:t∈CH gs)(k1:oT fx sc L t=none->(t.2.1,NameKind.local)∈sc->P)
  (k2:∀a,oT fx sc L t=some a->(t.2.1,zL)∈sc->(iu fx sc L).lookup (T.tb.nm t.2.1)=some a->(T.tb.nm t.2.1,a)∈cellsFrom (L+1) (j5 T.tb.nm sc).names []->P):P:=by
 cases hc:sc.contains (t.2.1,zL) with
 |false=>exact k1 (by unfold oT;exact gR hc rfl) ((co.tg t ht).1.resolve_right λk=>Zq (hc.symm.trans (zz.mpr k)))
 |true=>
  have mc:=zz.mp hc;exact ze (nI (fx:=fx) (L:=L) ((eR).mpr mc)) λa q=>(k2 a (by unfold oT;exact gR hc (q.1)) mc q.1 q.2)
theorem kW(fit:c9 C fx)(co:eJ C gs sc)(hL:∀i x a,(i,x,some a)∈fx.lay->a<L){q:Nat×Str×Option zJ}(hq:q∈fx.lay.filter λq=>q.2.2.isSome&&(j5 T.tb.nm sc).names.contains (q.2.1,.free)):
  c8 λx a=>DJ (q=(q.1,T.tb.nm x,some a)) (q∈fx.lay) ((x,ZE)∈sc) ((iu fx sc L).lookup (T.tb.nm x)=some a) (a<L) ((q.1,x,true)∈C.lay):=by
 refine zg (λhm hc=>?_) (Zn.mp hq);have hc:=aa hc;obtain⟨x,b,k⟩:=fit.only q hm;refine ze (zp.mp hc.1) λa ha=>?_;have e:q=(q.1,T.tb.nm x,some a):=adY rfl (adY k.2 ha);have f:=(eR).mp (zz.mp (k.2▸hc.2));exact⟨x,a,e,hm,f,uC fit co.nd f (e▸hm),hL _ _ _ (e▸hm),(k.3.symm.trans hc.1)▸k.1⟩
theorem Kz(fit:c9 C fx)(co:eJ C gs sc)(hL:∀i x a,(i,x,some a)∈fx.lay->a<L)(above:∀n a,(n,a)∈cellsFrom (L+1) (j5 T.tb.nm sc).names []->L<a)(ap:(cellsFrom (L+1) (j5 T.tb.nm sc).names []).Pairwise λx y=>x.2≠y.2):bF (eM fx gs sc L) where
 kind:=rfl
 globals:=fit.ok.globals
 builtins:=fit.ok.builtins
 loc i x hm:=(Zi.mp hm).elim (λhm=>by
  obtain⟨t,ht,e⟩:=zH.mp hm;have eo:oT fx sc L t=none:=congrArg (·.2.2) e;have e1:T.tb.nm t.2.1=x:=congrArg (·.2.1) e;exact e1▸iH co ht (λ_ k=>⟨gJ co k rfl,(co.tg t ht).2⟩) λa k _ _ _=>ns (eo.symm.trans k)) λhm=>by
  obtain⟨y,a,k⟩:=kW fit co hL hm;exact ns (congrArg (·.2.2) k.1)
 DC i x a hm:=(Zi.mp hm).elim (λhm=>by
  obtain⟨t,ht,e⟩:=zH.mp hm;have eo:oT fx sc L t=some a:=congrArg (·.2.2) e;have e1:T.tb.nm t.2.1=x:=congrArg (·.2.1) e;exact e1▸iH co ht (λk _=>ns (k.symm.trans eo)) λb k k1 k2 k3=>zh (k.symm.trans eo)▸⟨.inl (gJ co k1 rfl),k2,(co.tg t ht).2,yD (above _ _ k3)⟩) λhm=>by
  obtain⟨y,b,k⟩:=kW fit co hL hm;have ex:x=T.tb.nm y:=congrArg (·.2.1) k.1;have z:=fit.ok.DC _ _ _ k.2;rw[ex] at z⊢;have kk:=lF (fx:=fx) (L:=L) co k.3;refine⟨z.1.imp (λq=>kk.trans (congrArg some (if_pos (by refine gR q (gR fit.ok.kind ?_);rfl)))) λq=>⟨kk.trans (congrArg some (if_neg (by refine gR q.1 ?_;exact λh=>Zq (Bool.and_false _▸h)))),q.2⟩,k.4.trans (congrArg (·.2.2) k.1).symm,z.2.2.1,zU (hL _ _ _ k.2)⟩
 xH i j x c d hm lO:=r8 (R:=λa b=>a.2.1=b.2.1->a.1=b.1) (λ_ _ h e=>(h e.symm).symm) (λa ha b hb e=>by
   obtain⟨t,ht,rfl⟩:=zH.mp ha;obtain⟨t',DB,rfl⟩:=zH.mp hb;exact congrArg (·.1) (wN co.ndX ht DB (tok.inj _ _ e))) (λa ha b hb e=>fit.ok.xH _ _ a.2.1 a.2.2 b.2.2 (Zn.mp ha).1 (e▸(Zn.mp hb).1)) (λa ha b hb e=>by
   obtain⟨t,ht,rfl⟩:=zH.mp ha;obtain⟨y,c,k⟩:=kW fit co hL hb;have e:=tok.inj _ _ (e.trans (congrArg (·.2.1) k.1));have k3:=e.symm▸k.3;exact(co.tg t ht).1.elim (λh=>nomatch iG co.nd h k3) λh=>nomatch iG co.nd h k3) hm lO rfl
 xI i j x y a hm lO:=r8 (R:=λp q=>p.2.2=some a->q.2.2=some a->p.1=q.1) (λ_ _ h e e'=>(h e' e).symm) (λp hp q hq e e'=>by
   obtain⟨t,ht,rfl⟩:=zH.mp hp;obtain⟨t',DB,rfl⟩:=zH.mp hq;exact iH co ht (λk _=>ns (k.symm.trans e)) λb k _ _ m=>iH co DB (λk _=>ns (k.symm.trans e')) λb' k' _ _ m'=>congrArg (·.1) (wN co.ndX ht DB (tok.inj _ _ (name_of_addr ap (zh (k.symm.trans e)▸m) (zh (k'.symm.trans e')▸m')))))
   (λp hp q hq e e'=>fit.ok.xI _ _ p.2.1 q.2.1 a (e▸(Zn.mp hp).1) (e'▸(Zn.mp hq).1)) (λp hp q hq e e'=>by
   obtain⟨t,ht,rfl⟩:=zH.mp hp;obtain⟨y,c,k⟩:=kW fit co hL hq;exact iH co ht (λk _=>ns (k.symm.trans e)) λb k' _ _ m=>absurd ((zh ((congrArg (·.2.2) k.1).symm.trans e'))▸k.5) (aea (zh (k'.symm.trans e)▸above _ _ m))) hm lO rfl rfl
 qc i x y c d hm lO:=(r8 (R:=λp q=>p.1=q.1->p.2=q.2) (λ_ _ h e=>(h e.symm).symm) (λp hp q hq e=>by
   obtain⟨t,ht,rfl⟩:=zH.mp hp;obtain⟨t',DB,rfl⟩:=zH.mp hq;exact congrArg (λt:Nat×Nat×Pos=>(T.tb.nm t.2.1,oT fx sc L t)) (wN co.ID ht DB e)) (λp hp q hq e=>have z:=fit.ok.qc p.1 p.2.1 q.2.1 p.2.2 q.2.2 (Zn.mp hp).1 (e▸(Zn.mp hq).1);adY z.1 z.2) (λp hp q hq e=>by
   obtain⟨t,ht,rfl⟩:=zH.mp hp;obtain⟨y,c,k⟩:=kW fit co hL hq;exact absurd (wI gs▸(e▸ZI ht)) (co.apart _ k.6)) hm lO rfl) |> λe=>⟨congrArg (·.1) e,congrArg (·.2) e⟩
theorem AF(co:eJ C gs sc){t:Nat×Nat×Pos}(ht:t∈CH gs):(oT fx sc L t).isSome=sc.contains (t.2.1,.cell):=by
 unfold oT;cases hc:sc.contains (t.2.1,zL) with
 |false=>rfl
 |true=>
  exact ze (nI (fx:=fx) (L:=L) ((eR).mpr (zz.mp hc))) λa q=>(congrArg Zv q.1)
theorem CK(fit:c9 C fx)(co:eJ C gs sc)(hL:∀i x a,(i,x,some a)∈fx.lay->a<L)(above:∀n a,(n,a)∈cellsFrom (L+1) (j5 T.tb.nm sc).names []->L<a)(ap:(cellsFrom (L+1) (j5 T.tb.nm sc).names []).Pairwise λx y=>x.2≠y.2):c9 (r6 C gs sc) (eM fx gs sc L) where
 ok:=Kz fit co hL above ap
 lay i x b hm:=(Zi.mp hm).elim (λhm=>by
  obtain⟨t,ht,e⟩:=zH.mp hm;cases e;exact⟨_,y4 _ (zH.mpr ⟨t,ht,rfl⟩),AF co ht⟩) λhm=>by
  obtain⟨hm,hc⟩:=Zn.mp hm;have hc:=aa hc;exact ze (fit.lay _ _ _ hm) λo Gk=>⟨o,yV _ (Zn.mpr ⟨Gk.1,(zY _ _).mpr ⟨Gk.2.trans hc.1,zz.mpr ((eR).mpr (zz.mp hc.2))⟩⟩),Gk.2⟩
 only q hm:=(Zi.mp hm).elim (λhm=>by
  obtain⟨t,ht,WE⟩:=zH.mp hm;refine gL WE ?_;exact⟨t.2.1,_,y4 _ (zH.mpr ⟨t,ht,rfl⟩),rfl,AF co ht⟩) λhm=>by
  obtain⟨x,a,k⟩:=kW fit co hL hm;exact⟨x,true,yV _ (Zn.mpr ⟨k.6,zz.mpr k.3⟩),congrArg (·.2.1) k.1,congrArg (·.2.2.isSome) k.1⟩
 kind x k hm:=have z:=Zn.mp hm;gJ co z.1 (by
  cases e:k==ZE with
  |false=>rfl
  |true=>cases eq_of_beq e;exact nomatch z.2)
 mine x hm:=by refine ze (zH.mp hm) λp Gl=>(gL Gl.2 ?_);have z:=Zn.mp Gl.1;exact zz.mpr ((eR).mpr (eq_of_beq z.2▸z.1))
end
end
section
variable{call:Call}
theorem aJ.comp{n:Nat}(no:sl.Jb=false)(ho:∀a o,γ.R a=.aM->h.get? a=some o->γ'.R a=.aM/\h'.get? a=some o)(sb:Sub (lk γ.R h) (lk γ'.R h'))(ow:γ'.own i=γ.own i)(ph:γ'.aI=γ.aI)(x:aJ γ n h ov i sl):aJ γ' n h' ov i sl:=by
 cases sl with
 |un=>trivial
 |ol l=>exact Zq no
 |od l=>exact Zq no
 |v b=>exact x.imp λv x=>⟨x.1,x.2.au sb (zm _) λ_ _=>by exact gR ph rfl⟩
 |ro l=>
  refine zg (λq1 WG=>?_) x;refine zg (λq2 EH=>?_) WG;obtain⟨vs,n,q3,d⟩:=EH;have z:=ho _ _ q2 q3;rw[←ow] at q1 z;exact⟨q1,z.1,vs,n,z.2,d.sub sb⟩
theorem Gm{C:Ctx}(fit:c9 C fx)(co:eJ C gs sc)(I:Inv fx c)(no:vg c.e)(un:Ks c.e gs){S:zJ->Prop}{L:zJ}(hN:Nw S c.s az)(hS:S L)(ij:az.heap.Ns L λ_=>none)
  (hc:∀n a,(n,a)∈cellsFrom (L+1) (j5 T.tb.nm sc).names []->aF (az.heap.IsCell a none) (S a)):Inv (eM fx gs sc L) ⟨r4 (bX c.γ) S,c.e,c.g,az⟩:=by
 have WH:∀t∈CH gs,∀sl ov,c.e[t.1]? =some sl->aJ (r4 (bX c.γ) S) c.g.length az.heap ov t.1 sl:=λt ht sl ov h=>by
  refine gR (un _ (wI gs▸ZI ht) sl h ..) ?_;trivial
 refine⟨hN.rK I.g.bX,⟨⟨_,ij,if_pos hS,λi x hm sl IB=>?_⟩,λi x a hm=>?_,λa ha=>?_⟩⟩
 ·exact(Zi.mp hm).elim (λhm=>by
   obtain⟨t,ht,e⟩:=zH.mp hm;have e:t.1=i:=congrArg (·.1) e;exact e▸WH t ht sl _ (e▸IB)) λhm=>nomatch (aa (Zn.mp hm).2).1
 ·refine(Zi.mp hm).elim (λhm=>?_) λhm=>?_
  ·obtain⟨t,ht,e⟩:=zH.mp hm
   have eo:oT fx sc L t=some a:=congrArg (·.2.2) e;have e:t.1=i:=congrArg (·.1) e;exact iH co ht (λk _=>ns (k.symm.trans eo)) λb k _ _ m=>by
    cases k.symm.trans eo;have z:=hc _ _ m;exact⟨none,z.1,⟨.inl (if_pos z.2),λ_=>if_pos z.2⟩,λsl IB=>e▸WH t ht sl _ (e▸IB)⟩
  ·have z:=Zn.mp hm
   refine ze (I.f.cells i x a z.1) λov vZ=>?_;obtain⟨b,r,f⟩:=vZ;refine ze b λob rB=>(zg (λDA hd=>?_) rB);refine⟨ov,⟨ob,hN.keep _ _ DA,hd⟩,⟨.inr ((hN.old DA).trans (fz.mpr (r.1.elim .inr .inl))),λWI=>?_⟩,λsl IB=>aJ.comp (no i sl IB) (λb o r e=>⟨(hN.old e).trans (dg.mpr (.inl r)),hN.keep b o e⟩) (λb o e=>(hN.ext (γ:=bX c.γ) c.g.length).sub b o (l5 c.γ c.s.heap b o e)) rfl rfl (f sl IB)⟩;obtain⟨y,_,k⟩:=fit.only _ z.1;have e:x=T.tb.nm y:=k.2;have k1:(y,ZE)∈sc:=(eR).mp (e▸zz.mp (aa z.2).2);have k2:=(eR).mp (e▸zz.mp WI);exact nomatch iG co.nd k1 k2
 ·have r:(c.γ.R a=.fr\/c.γ.R a=.sys)/\∃m,c.s.heap.Ns a m:=(zK.mp ha).elim (λq=>have⟨m,n,b,_⟩:=I.f.ns;q▸⟨.inr b,m,n⟩) λha=>⟨.inl (I.f.out a ha).1,(I.f.out a ha).2⟩
  obtain⟨r,m,n⟩:=r;refine ze (id n) λo ia=>(ze ia λ_ iM=>(ze iM λ_ kn=>(zg (λho _=>?_) kn)));exact⟨(hN.old ho).trans (fz.mpr r),m,n.keeps hN.keep⟩
theorem iI(ha:h.objs.size<=a):h.get? a=none:=by
 cases q:h.get? a with
 |none=>rfl
 |some o=>exact absurd (zZ q) (YK.mpr ha)
def MN(names:List (Str×Zc))(n:zJ)(b:zJ):Prop:=b=n\/b=n+1\/∃x,(x,b)∈cellsFrom (n+1+1) names []
theorem KA{H H2:yi}(hH:s.heap.push (aO [] 0)=H)(hH2:H.push {cls:=.type "dict",data:=.dict #[]}=H2):
  eX (Nw (MN names s.heap.objs.size) s {s with heap:=pushCells H2 names}) ((pushCells H2 names).get? s.heap.objs.size=some (aO [] 0)) ((pushCells H2 names).Ns (s.heap.objs.size+1) λ_=>none)
   (∀n a,(n,a)∈cellsFrom (s.heap.objs.size+1+1) names []->aF ((pushCells H2 names).IsCell a none) (s.heap.objs.size+1<a)) ((cellsFrom (s.heap.objs.size+1+1) names []).Pairwise λx y=>x.2≠y.2):=by
 have hs:=hH▸Zp ..;have hs2:=(hH2▸Zp ..).trans (congrArg (·+1) hs);have cells:=cellsFrom_ok names H2 (s.heap.objs.size+1+1) [] ⟨λ_ _ hm=>(nomatch hm),List.Pairwise.nil⟩ (zO hs2.symm);replace cells:=hs2▸cells;have k2:∀b o,H.get? b=some o->(pushCells H2 names).get? b=some o:=λb o e=>pushCells_keeps _ _ b o (hH2▸zj _ e);have hd:=k2 _ _ (hH▸zq _ rfl);have ij:(pushCells H2 names).Ns (s.heap.objs.size+1) λ_=>none:=hs▸(Heap.Ns.new H (.type "dict")).keeps λb o e=>pushCells_keeps _ _ b o (hH2▸e);refine ze (id ij) λoL Gn=>?_;obtain⟨_,_,hLo,_⟩:=Gn;refine⟨⟨λb o e=>k2 b o (hH▸zj _ e),rfl,rfl,λb hb=>?_⟩,hd,ij,λn a hm=>⟨(cells.empty n a hm).1,(cells.empty n a hm).2⟩,cells.apart⟩;rcases hb with rfl |rfl |⟨n,hm⟩
 ·exact⟨iI (zm _),congrArg Zv hd⟩
 ·exact⟨iI (zN _),congrArg Zv hLo⟩
 ·have z:=cells.empty n b hm
  refine ze (z.1) λoc WJ=>(zg (λhc _=>?_) WJ);exact⟨iI (zk (zu _ 2) z.2),congrArg Zv hc⟩
theorem wO{C:Ctx}(fit:c9 C fx)(co:eJ C gs sc)(I:Inv fx c)(no:vg c.e)(un:Ks c.e gs){e:Ye}{it:zo}{RR:zo->zJ->yX->zt->Prop}
  (h:∀c',c9 (r6 C gs sc) (eM fx gs sc (c.s.heap.objs.size+1))->Inv (eM fx gs sc (c.s.heap.objs.size+1)) c'->c'.e=c.e->c'.g=c.g->ak (bX c.γ) c.g.length c.s.heap c'.γ c'.g.length c'.s.heap->cj (eM fx gs sc (c.s.heap.objs.size+1)) c.s.heap.objs.size c' []->
   ZH (zv prog w) A (.compStart e 0 it (.ref c.s.heap.objs.size) (eM fx gs sc (c.s.heap.objs.size+1)).env) (RR (.ref c.s.heap.objs.size) (c.s.heap.objs.size+1)) c'.s):
  zx (zv prog w) A (newList []) (λacc fj=>zx (zv prog w) A (newFunctionEnv (j5 T.tb.nm sc) fx.env.globals (WD fx.env (j5 T.tb.nm sc).names []) [] fx.env.qual none .none (some fx.env)) (λWK Wz=>
   ZH (zv prog w) A (.compStart e 0 it acc {WK with scope:=relabel (j5 T.tb.nm sc) fx.env}) (RR acc WK.locals) Wz) E fj) E c.s:=by
 refine wpAny_newObj_type (uD ?_) (zE _);refine gR (Zp ..) ?_;have z:=KA (s:=c.s) (names:=(j5 T.tb.nm sc).names) rfl rfl;have hL:=λi x a hm=>
  (I.f.cells i x a hm).elim λ_ z=>z.1.elim λ_ hc=>ZK (zZ hc.1)
 exact h ⟨r4 (bX c.γ) (MN (j5 T.tb.nm sc).names c.s.heap.objs.size),c.e,c.g,_⟩ (CK fit co hL (λn a hm=>(z.4 n a hm).2) z.5) (Gm fit co I no un z.1 (.inr (.inl rfl)) z.3 λn a hm=>⟨(z.4 n a hm).1,.inr (.inr ⟨n,hm⟩)⟩) rfl rfl (z.1.ext _)
  ⟨[],0,if_pos (.inl rfl),zU (Zl _),z.2,rfl⟩
end
section
variable{call:Call}
theorem AG gs (e:Env):vg (BJ gs (e.map NW)):=λj sl h=>(wG gs h).elim (λq=>q▸rfl) λz=>(ML z.1).elim λaQ y=>y.2▸Ko aQ
theorem Gp gs e:Ks (BJ gs e) gs:=λi hi sl h=>(wG gs h).resolve_right λz=>z.2 hi
theorem CL nm:∀gs,∀g∈toG nm gs,g.is_async=0:=
 fQ.ind (λa g h=>absurd h ZT) λts tp ci ifs r ih g h=>(zK.mp h).elim (λq=>q▸rfl) (ih g)
structure Gq(fx:Fx)(c₀ c:ah)(dl C:zJ):Prop where
 aM:c.γ.R C=.aM
 fresh:dh c₀ C
 ne:dl≠C
 ns:∃m,c.s.heap.Ns C m
structure kX(A:ZV)(call:Call)(fx:Fx)(C:Ctx)(ts:List (Nat×Nat×Pos))(tp:Option Pos)(ci:CI)(ifs:cz)(r:fQ)(sc:List (Nat×Zc)):Prop where
 fit:c9 C fx
 co:eJ C (.cons ts tp ci ifs r) sc
 nd:GNd (.cons ts tp ci ifs r)
 hi:rY A call fx (tp=none) ci
 wy:il (Dx T.tb.nm ci)=false
 vi:∀fN,c9 (r6 C (.cons ts tp ci ifs r) sc) fN->(∀A,iE A fx->iE A fN)->dQ (∀t∈ts,∃o,qp fN t.1 t.2.1 o) (tp=none->∃t,ts=[t]) (Pw (ct A call fN) ifs) (WA A call fN r)
section
theorem jR:d5 ⟨AD c₀.γ,e',c₀.g,c₀.s⟩ ⟨bX c₀.γ,c₀.e,c₀.g,c₀.s⟩:=λ_ hf b ob rb eb=>hf b ob (rb.imp (λrb=>gc.mpr (bM.mp rb)) λrb=>.inl (jQ.mpr (dg.mp rb))) eb
theorem Gr(h1:∀i,γ.R a≠.own i)(h2:γ.R a≠.sys):(back γ γ').R a=γ'.R a:=by
 refine(?_:(match γ.R a with |.own i=>Role.own i |.sys=>.sys |_=>γ'.R a)=_);cases q:γ.R a with
 |own i=>exact absurd q (h1 i)
 |sys=>exact absurd q h2
 |_=>rfl
theorem nJ(I:Inv fx c₀)(K:Ext ⟨AD c₀.γ,e',c₀.g,c₀.s⟩ c2)(ha:c2.s.heap.get? a=none):aF (dh c₀ a) (∀γ',(back c₀.γ γ').R a=γ'.R a):=
 ⟨λb ob rb eb=>jR (e':=e') a (.of K ha) b ob (rb.imp bM.mpr λq=>dg.mpr (.inl q)) eb,λγ'=>Gr (λi q=>
  (zp.mp (I.g.live a (bA q rfl))).elim λo ho=>nomatch ha.symm.trans (K.x.aM a o (jQ.mpr (.inr ⟨i,q⟩)) ho).2) λq=>
  (zp.mp (I.g.live a (bA q rfl))).elim λo ho=>(K.sys a o (jP.mpr q) ho).2.elim λ_ z=>nomatch ha.symm.trans z.1⟩
theorem comp_back(I:Inv fx c₀){Py:Fx}{c5:ah}(I5:Inv Py c5)(K5:ak (bX c₀.γ) c₀.g.length c₀.s.heap c5.γ c5.g.length c5.s.heap){dl:zJ}{l:List D}(ac:cj Py dl c5 l)
  (fd:aF (dh c₀ dl) (∀γ',(back c₀.γ γ').R dl=γ'.R dl)) (fC:aF (dh c₀ Py.env.locals) (∀γ',(back c₀.γ γ').R Py.env.locals=γ'.R Py.env.locals)) (ne:dl≠Py.env.locals):
  dQ (Inv fx ⟨back c₀.γ (eO c5.γ),c₀.e,c5.g,c5.s⟩) (Ext c₀ ⟨back c₀.γ (eO c5.γ),c₀.e,c5.g,c5.s⟩) (gZ fx c₀ ⟨back c₀.γ (eO c5.γ),c₀.e,c5.g,c5.s⟩ (.list l) (.ref dl)) (Gq fx c₀ ⟨back c₀.γ (eO c5.γ),c₀.e,c5.g,c5.s⟩ dl Py.env.locals):=by
 have x:=I.back (ug.bX c₀.γ c₀.s.heap) I5.g.eO (K5.trans (ak.eO c5.γ c5.g.length c5.s.heap)) (λh=>h.elim λ_ h=>h.elim);obtain⟨vs,k,z⟩:=ac;refine ze (I5.f.ns) λm qW=>?_;obtain⟨ij,rL,_⟩:=qW;refine⟨x.1,x.2.1,⟨_,rfl,(fd.2 _).trans (kU.mpr (.inr (.inl z.1))),fd.1,λj y q l hj hs e=>?_,vs,k,z.3,z.4.sub λb o e=>?_⟩,(fC.2 _).trans (kU.mpr (.inr (.inl rL))),fC.1,ne,m,ij⟩
 ·refine ze (slot_of I hj hs) λov hX=>(zg (λk' _=>?_) hX)
  refine zg (λ_ Ow=>?_) k';refine zg (λro nq=>?_) Ow;obtain⟨fR,n',fK,_⟩:=nq;exact fd.1 _ _ (.inr ro) fK e
 ·have z:=aw e
  refine aB ((Gr (λi q=>?_) λq=>?_).trans (fh.mpr z.1)) z.2
  ·exact(zp.mp (I.g.live b (bA q rfl))).elim λo' fK=>nomatch z.1.symm.trans (K5.aM b o' (dg.mpr (.inr ⟨i,q⟩)) fK).1
  ·exact(zp.mp (I.g.live b (bA q rfl))).elim λo' fK=>nomatch z.1.symm.trans (K5.fr b o' (fz.mpr (.inr q)) fK).1
end
theorem qx(hh:A.handled=none){C:Ctx}{r:fQ}{SO:Pos}(S:kX A call fx C ts tp ci ifs r sc)
   (I:Inv fx c₀)  (hw:wF c₀.e e1) (no:vg e1) (un:Ks e1 (.cons ts tp ci ifs r)) {y:List D×G} (er:Rn call (IV T.tb (.cons ts tp ci ifs r) e1 [] c₀.g) (.ok y)) {use:Option (zo->Sem Unit)} 
  (h:∀c (dl C:zJ),c.e=c₀.e->c.g=y.2->dQ (Inv fx c) (Ext c₀ c) (gZ fx c₀ c (.list y.1) (.ref dl)) (Gq fx c₀ c dl C)->compPost (zv prog w) A E use Q (.ref dl) C (.ok .next) c.s):
  zx (zv prog w) A (comprehension (.ListComp (tn T.tb.nm r) (toG T.tb.nm (.cons ts tp ci ifs r)) (j5 T.tb.nm sc) p) (j5 T.tb.nm sc) fx.env SO (newList []) false (YJ (Dx T.tb.nm ci) fx.env) use) Q E c₀.s:=by
 have er:Rn call ((evI T.tb ci e1 c₀.g).bind λy=>mr (λg=>stays e1 g y.1.1 y.1.2) (Gi T.tb ts tp ifs r e1) y.1.2 [] y.2.2) (.ok y):=er;refine wpAny_comprehension_free rfl (λx=>kR S.wy _ _) (r7 S.fit S.co) rfl (λx hx hk=>?_) ?_
 ·refine ze (zH.mp hx) λz jx=>(zg (λhz e=>?_) jx)
  exact(congrArg (·.1) e)▸gI S.co.nd (((congrArg (·.2) e).trans hk)▸hz)
 refine zI (S.hi ⟨AD c₀.γ,e1,c₀.g,c₀.s⟩ _ (I.ro hw) er.vd (.inr no)) (λx az q=>zI q (λit gw q=>?_) λ_ _ q=>XE.ok (XE.up (.refl _) er q)) λ_ _ q=>XE.ok (XE.up (.refl _) er q);obtain⟨src,l,c2,qu,St,Md,q⟩:=q;refine gL q.2 ?_;have K2:=q.4;have WC:c2.e=e1:=K2.env no;refine wO S.fit S.co q.3 (WC▸no) (WC▸un) λc4 Pz I4 ee4 eg4 K4 ac4=>?_;have H:=S.vi _ Pz λ_ h=>h.comp;have J:=q.5 (eM fx (.cons ts tp ci ifs r) sc (c2.s.heap.objs.size+1)) ⟨bX c₀.γ,c₀.e,c₀.g,c₀.s⟩ jR;have S4:=J.1.keep _ _ c4 J.2 ((ak.bX c2.γ c2.g.length c2.s.heap).trans K4);have fM:=CL T.tb.nm (.cons ts tp ci ifs r);have loop:ZH (zv prog w) A (.compLoop (.ListComp (tn T.tb.nm r) (toG T.tb.nm (.cons ts tp ci ifs r)) (j5 T.tb.nm sc) p) 0 it (.ref c2.s.heap.objs.size) (eM fx (.cons ts tp ci ifs r) sc (c2.s.heap.objs.size+1)).env) (compPost (zv prog w) A E use Q (.ref c2.s.heap.objs.size) (c2.s.heap.objs.size+1)) c4.s:=
  qw Pz.ok hh rfl fM H.1 H.2 H.3 (Kw Pz.ok hh fM r rfl 0 H.4 S.nd.2 rfl) (λe e1 x hb hu i hi sl hs=>hu i hi sl ((uB hb λt ht e=>S.nd.1 t ht (e▸hi)).symm.trans hs))
   J.1 (λd h=>q.6 d h) (λh i v d=>q.7 h _ i v d) I4 ((F9 K2 (.refl _ _ _)).trans K4) S4 (ee4.trans WC) no (λt ht sl hs=>un t.1 (y4 _ (ZI ht)) sl hs) (λi hi sl hs=>un i (yV _ hi) sl hs) ac4 (eg4.symm▸(er.at q.1)) λc5 eg5 I5 WB K5 ac5=>
   h ⟨back c₀.γ (eO c5.γ),c₀.e,c5.g,c5.s⟩ _ _ rfl eg5 (comp_back I I5 K5 ac5 (nJ I K2 (ao _)) (nJ I K2 (iI (zN _))) (zU (Zl _)))
 exact eA rfl rfl loop (J.1.self _ _ _ _ S4 loop)
end
section
variable{call:Call}
theorem DE.one(fr:dh c₀ a)(r:c.γ.R a=.aM)(ho:c.s.heap.get? a=some o)(nl:∀j y q l,(j,y,q)∈fx.lay->c.e[j]? =some (Slot.ro l)->c.γ.own j≠a)(nc:∀v,o.data≠.cell v):DE fx c₀ c λb=>b=a:=
 ⟨λ_ e=>e▸fr,λ_ e=>e▸r,λ_ e=>e▸⟨o,ho,nc⟩,λ_ e=>e▸nl⟩
def CM(c:ah)(a:zJ)(s':zt):ah:=FU c (λb=>b=a) s'
theorem Gs(h:b≠a):(CM c a s').γ.R b=c.γ.R b:=if_neg h
theorem Gu(I:Inv fx c)(K:Ext c₀ c)(H:DE fx c₀ c λb=>b=a)
  (k:∀b ob,b≠a->c.s.heap.get? b=some ob->s'.heap.get? b=some ob) (Pb:s'.os=c.s.os) (hg:s'.gens=c.s.gens):aG (Inv fx (CM c a s')) (Ext c₀ (CM c a s')) (Sub (lk c.γ.R c.s.heap) (lk (CM c a s').γ.R s'.heap)):=
 have z:=I.Cq K.x H k Pb hg
 ⟨z.1,⟨z.2,K.own,K.ro,λb ob rb e=>
  have y:=K.sys b ob rb e;have ne:b≠a:=λq=>nomatch y.1.symm.trans (H.r b q)
  ⟨(Gs ne).trans y.1,y.2.imp λo' x=>⟨k _ _ ne x.1,x.2⟩⟩,K.env⟩,z.3⟩
theorem Gq.go{dl C:zJ}{p:D}(z:dQ (Inv fx c) (Ext c₀ c) (gZ fx c₀ c p (.ref dl)) (Gq fx c₀ c dl C))(hs:ZN C c.s.heap h'):
  aG (Inv fx (CM c C {c.s with heap:=h'})) (Ext c₀ (CM c C {c.s with heap:=h'})) (gZ fx c₀ (CM c C {c.s with heap:=h'}) p (.ref dl)):=by
 refine ze (z.4.ns) λm v7=>(ze v7 λo iM=>(ze iM λes qT=>(ze qT λep lM=>(zg (λho j9=>?_) lM))));refine zg (λhd _=>?_) j9;have y:=Gu z.1 z.2 (.one z.4.fresh z.4.aM ho (wo z.1 ho λvs n e=>by replace hd:=e▸hd;cases hd) λv e=>by replace e:=hd▸e;cases e) (s':={c.s with heap:=h'}) (λb ob hb e=>(hs.2 b hb).trans e) rfl rfl;refine ze (z.3) λa x=>?_;cases x.1;exact⟨y.1,y.2,dl,rfl,(Gs z.4.ne).trans x.2,x.3,x.4,x.5.au y.3 λo h=>(hs.2 dl z.4.ne).trans h⟩
theorem gZ.free(I:Inv fx c)(K:Ext c₀ c){l:List D}(P:gZ fx c₀ c (.list l) (.ref a)):aG (Inv fx (CM c a c.s)) (Ext c₀ (CM c a c.s)) (DR (lk (CM c a c.s).γ.R c.s.heap) (.list l) (.ref a)):=by refine ze P λ_ x=>?_;cases x.1;obtain⟨vs,k,h,ds⟩:=x.5;have y:=Gu I K (.one x.3 x.2 h x.4 λv e=>nomatch e) (s':=c.s) (λb ob hb e=>e) rfl rfl;exact⟨y.1,y.2,a,vs,k,rfl,aB (if_pos rfl) h,ds.sub y.3⟩
section
variable{C:Ctx}{r:fQ}
theorem nK(hh:A.handled=none)(S:kX A call fx C ts tp ci ifs r sc){r':R (AV×Env×G)}(I:Inv fx c)(h:Rn call (cC T.tb (.comp (.cons ts tp ci ifs r) sc p) c.e c.g) r')
  (q:∀l c' a,r'=.ok (.d (.list l),c'.e,c'.g)->Inv fx c'->Ext c c'->gZ fx c c' (.list l) (.ref a)->Q (.ref a) c'.s):zx (zv prog w) A (YJ (aH T.tb.nm (.comp (.cons ts tp ci ifs r) sc p)) fx.env) Q E c.s:=
 Rn.eY h λy hy h=>qx hh S I (nG _ _) (AG _ _) (Gp _ _) hy λc6 dl C6 ee eg z=>z.4.ns.imp λm ij=>⟨ij,λh' hs=>
  have g:=Gq.go z hs
  q y.1 (CM c6 C6 {c6.s with heap:=h'}) dl (h.1.symm.trans (eg▸(ee▸rfl))) g.1 g.2 g.3⟩
theorem CN(hh:A.handled=none)(S:kX A call fx C ts tp ci ifs r sc):pb A call fx (.comp (.cons ts tp ci ifs r) sc p):=λc r I h=>
 nK hh S I h λl c' a e I' K' P=>⟨.list l,c',e,rfl,I',K',P⟩
theorem uE(hh:A.handled=none)(S:kX A call fx C ts tp ci ifs r sc):ai A call fx (.comp (.cons ts tp ci ifs r) sc p):=λc r I h=>
 nK hh S I h λl c' a e I' K' P=>
  have z:=P.free I' K'
  ⟨.d (.list l),CM c' a c'.s,e,rfl,z.1,z.2,z.3⟩
theorem pv(hh:A.handled=none){p' q:Pos}{o:Option zJ}(t:qp fx i x o)(S:kX A call fx C ts tp ci ifs r sc):
  g9 A call fx (.Iv (.n i x q) (.comp (.cons ts tp ci ifs r) sc p') p):=λc r' I h=>by
 refine(?_:zx _ _ (exec (.Assign [.Name (T.tb.nm x) q] (aH T.tb.nm (.comp (.cons ts tp ci ifs r) sc p')) p) fx.env) _ _ _);have two:∃b,swapsWith (aH T.tb.nm (.comp (.cons ts tp ci ifs r) sc p')) (some (.Name (T.tb.nm x) q)) p.line fx.env=pure b:=⟨_,rfl⟩;refine ze two λb hb=>?_;cases b with
 |false=>exact wpAny_Assign_Name ((uE hh S).hY I (.refl _) h λa1 c1 v1 h I1 K1 V1 _=>fe S.fit.ok I1 K1.x t (V1.lT h.bO.1) λs' I2 K2 _=>.n (c':={c1 with e:=_,s:=s'}) h.bO.2.1.symm I2 K2) hb
 |true=>
  refine gR (exec_Assign_Name_used _ _ _ _ hb ..) (zf (wpAny_standAt (zf ?_)));refine Rn.eY h.vd λy hy h'=>?_;have h:=h.at h'.1.symm;refine zf (qx hh S I (nG _ _) (AG _ _) (Gp _ _) hy λc6 dl C6 ee eg z=>?_);have f:=z.3.free z.1 z.2;refine wpAny_assign_Name (fe S.fit.ok f.1 f.2.x t (a:=.d (.list y.1)) f.3 λs8 I8 K8 hk=>?_);obtain⟨m,ij⟩:=z.4.ns;have rC:(CM c6 dl c6.s).γ.R C6=.aM:=(Gs (Z8 z.4.ne)).trans z.4.aM;have ns8:=ly (λo h=>hk C6 o (.inl (bA rC rfl)) h) ij;refine⟨m,ns8,λh' hs=>zl (zl ?_)⟩;refine ze ns8 λoC xX=>(ze xX λes JK=>(ze JK λep j4=>(zg (λho oZ=>?_) j4)));refine zg (λhd _=>?_) oZ;have z9:=I8.Cq K8 (.one z.4.fresh rC ho (wo I8 ho λvs n e=>by replace hd:=e▸hd;cases hd) λv e=>by replace e:=hd▸e;cases e) (s':={s8 with heap:=h'}) (λb ob hb e=>(hs.2 b hb).trans e) rfl rfl;exact .n (c':=FU ⟨_,bh c6.e i _,c6.g,s8⟩ _ {s8 with heap:=h'}) (ee.symm▸eg.symm▸h.1.symm) z9.1 z9.2
end
end
section
variable{call:Call}
theorem bP.ext{it:zJ}(x:bP h it ax i t)(hs:yT b h h')(hn:it≠b):bP h' it ax i t:=x.at_ λo e=>hs it o hn e
theorem CP{it:zJ}{n:Nat}{x:zo}(hit:bP s.heap it ax i t)(hs:s.heap.get? ax=some (dj t vs n))(hx:vs[i]? =some x)
  (hQ:∀h',bP h' it ax (i+1) t->ZN it s.heap h'->Q x {s with heap:=h'}):zx (zv prog w) A (y7 (.ref it)) Q E s:=by
 cases t with
 |false=>exact wpAny_nextOf_list_item hit ⟨_,hs,rfl,n,rfl⟩ (by simpa using hx) hQ
 |true=>
  obtain⟨o,ho,hc,hd⟩:=id hit;refine zf (ZJ (yJ hit) F.slot_tuple_iterator_next (wpAny_call_entry F.slot_tuple_iterator_next (yJ hit) F.entry_tuple_iterator_next ?_ (F.args_tuple_iterator_next_1 _)));refine(?_:zx _ _ (field (.ref it) 0 >>=_) _ _ s);refine zf (wpAny_field ho hd (x:=.ref ax) rfl ?_);refine iT (zi) (zf (wpAny_field ho hd (x:=.int i 0) rfl ?_));refine zf (wpAny_seqItems hs rfl ?_);have rG:vs.toArray[(i:Int).toNat]? =some x:=by simpa using hx
  simp only[rG];refine zf (wpAny_setField ho hd (zm _) (zl ⟨x,rfl,zl (hQ _ ?_ (ZU ..))⟩));exact⟨_,Ze _ ho (Z1 (ZO hd _)),(abO ..).trans hc,by refine gR (ZO hd ..) ?_;simp[rawInt]⟩
theorem Gv(hh:A.handled=none){it:zJ}{n:Nat}(hit:bP s.heap it ax i t)(hs:s.heap.get? ax=some (dj t vs n))(hx:vs[i]? =none)
  (hE:∀h' e,yT it s.heap h'->(∃o,h'.get? e=some o/\o.cls=.type "StopIteration")->E (.ref e) {s with heap:=h'}):zx (zv prog w) A (y7 (.ref it)) Q E s:=by
 cases t with
 |false=>exact wpAny_nextOf_list_end hh hit ⟨_,hs,rfl,n,rfl⟩ (by simpa using hx) hE
 |true=>
  refine ag λ_ k=>(ze (id hit) λo nq=>(zg (λho E5=>?_) nq));refine zg (λhc hd=>?_) E5;refine k (zf (ZJ (yJ hit) F.slot_tuple_iterator_next (wpAny_call_entry F.slot_tuple_iterator_next (yJ hit) F.entry_tuple_iterator_next ?_ (F.args_tuple_iterator_next_1 _))));refine(?_:zx _ _ (field (.ref it) 0 >>=_) _ _ s);refine zf (wpAny_field ho hd (x:=.ref ax) rfl ?_);refine iT (zi) (zf (wpAny_field ho hd (x:=.int i 0) rfl ?_));refine zf (wpAny_seqItems hs rfl ?_);have rG:vs.toArray[(i:Int).toNat]? =none:=by simpa using hx
  simp only[rG];refine zf (wpAny_rule (zf (wpAny_setField ho hd (zN _) ?_)));refine kE (A:=A.in1) hh λh2 e k2 ho=>?_;exact hE _ _ (λb o hb e=>k2 b o ((ZU ..).extBut b o hb e)) ho
theorem uF(hh:A.handled=none){it:zJ}{n:Nat}(hit:bP s.heap it ax i t)(hs:s.heap.get? ax=some (dj t vs n))
  (hQ:∀x h',vs[i]? =some x->bP h' it ax (i+1) t->ZN it s.heap h'->Q x {s with heap:=h'})
  (hE:∀h' e,vs[i]? =none->yT it s.heap h'->(∃o,h'.get? e=some o/\o.cls=.type "StopIteration")->E (.ref e) {s with heap:=h'}):zx (zv prog w) A (y7 (.ref it)) Q E s:=by
 cases hx:vs[i]? with
 |none=>exact Gv hh hit hs hx λh' e=>hE h' e hx
 |some x=>exact CP hit hs hx λh'=>hQ x h' hx
theorem qy{m:Sem α}{Q:α->zt->Prop}(h:∀Q' E',Q'=Q->E'=E->zx M A m Q' E' s):zx M A m Q E s:=h Q E rfl rfl
structure pz(h:yi)(z ti to i1 i2 a1 a2:zJ)(t1 t2:Bool)(k:Nat)(f:zo):Prop where
 z:IsZip h z ti to f
 ti:IsPair h ti (.ref i1) (.ref i2)
 to:c8 λa b=>IsPair h to a b
 i1:bP h i1 a1 k t1
 i2:bP h i2 a2 k t2
theorem pz.at_{k:Nat}{f:zo}(x:pz h z ti to i1 i2 a1 a2 t1 t2 k f)(hk:∀b o,(b=z\/b=ti\/b=to\/b=i1\/b=i2)->h.get? b=some o->h'.get? b=some o):pz h' z ti to i1 i2 a1 a2 t1 t2 k f:=
 ⟨hk _ _ (.inl rfl) x.z,hk _ _ (.inr (.inl rfl)) x.ti,let⟨a,b,e⟩:=x.to;⟨a,b,hk _ _ (.inr (.inr (.inl rfl))) e⟩,x.i1.at_ λo e=>hk _ o (.inr (.inr (.inr (.inl rfl)))) e,x.i2.at_ λo e=>hk _ o (.inr (.inr (.inr (.inr rfl)))) e⟩
theorem Gw{Q:Bool->zt->Prop}(hz:IsZip s.heap z ti to .none)(q:Q true s):zx (zv prog w) A (Builtin.SmallTypes.ownedTupleIsFree (.ref z)) Q E s:=by exact zf (wpAny_field hz rfl (x:=.none) rfl (zl q))
theorem KD{t:zJ}{Q:Unit->zt->Prop}(hz:IsZip s.heap z ti to .ellipsis)(q:∀h',IsZip h' z ti to (rawInt t)->(∀c o,c≠z->s.heap.get? c=some o->h'.get? c=some o)->Q () {s with heap:=h'}):
  zx (zv prog w) A (Builtin.SmallTypes.ownedTupleHandOut (.ref z) (.ref t)) Q E s:=by
 refine zf (wpAny_setField_rec hz (Zu _) λg7 z7 s7=>?_);exact wpAny_setField_rec z7 (adp (Zu _)) λg8 z8 s8=>q g8 z8 λc o c1 e=>s8.extBut _ _ c1 (s7.extBut _ _ c1 e)
theorem iZ{M:Model}{α β:Type}{a:α}{l:List α}{b:β}{f:α->β->Sem (ForInStep β)}{Q:β->zt->Prop}(h:zx M A (f a b) (λr s'=>zx M A (match r with |.done b=>pure b |.yield b=>forIn l b f) Q E s') E s):zx M A (forIn (a::l) b f) Q E s:=by refine gR (ady ..) ?_;exact zf h
theorem pA{b:β}{f:α->β->Sem (ForInStep β)}{Q:β->zt->Prop}(h:Q b s):zx M A (forIn ([]) b f) Q E s:=by exact gR List.forIn_nil (zl h)
theorem uG(hh:A.handled=none){k:Nat}{n:Nat}{Q:Option zo->zt->Prop}(D:ZipApart z ti to i1 i2 a1 a2)(Z:pz s.heap z ti to i1 i2 a1 a2 t1 t2 k .none)
  (h1:s.heap.get? a1=some (dj t1 vs n)) (h2:s.heap.get? a2=some (dj t2 ws m))
  (q1:∀x y h',vs[k]? =some x->ws[k]? =some y->pz h' z ti to i1 i2 a1 a2 t1 t2 (k+1) (rawInt s.heap.objs.size)->h'.get? s.heap.objs.size=some (fJ [x,y] 0)->(∀c o,c≠z->c≠to->c≠i1->c≠i2->s.heap.get? c=some o->h'.get? c=some o)->Q (some (.ref s.heap.objs.size)) {s with heap:=h'})
  (q0:∀h',(vs[k]? =none\/ws[k]? =none)->(∀c o,c≠z->c≠to->c≠i1->c≠i2->s.heap.get? c=some o->h'.get? c=some o)->Q none {s with heap:=h'}):
  zx (zv prog w) A (pyNext (.ref z)) Q E s:=by
 have hT:s.TypeIs (.ref z) "zip":=⟨_,Z.z,rfl⟩;have fin:∀h' e,(vs[k]? =none\/ws[k]? =none)->(∀c o,c≠z->c≠to->c≠i1->c≠i2->s.heap.get? c=some o->h'.get? c=some o)->(∃o,h'.get? e=some o/\o.cls=.type "StopIteration")->
   zx (zv prog w) A (do if ←isInstance (.ref e) (.type "StopIteration") then pure none else throw (.ref e)) Q E {s with heap:=h'}:=λh' e hn hk ⟨o,ho,hc⟩=>
  zf (wpAny_isInstance ⟨o,ho,hc⟩ isSubtype_stop (zl (q0 h' hn hk)))
 refine zf (wpAny_attempt (ZJ hT F.slot_zip_next (wpAny_call_entry F.slot_zip_next hT F.entry_zip_next (qy λQ1 E1 hQ hE=>?_) (F.args_zip_next_1 _))));obtain⟨a,b,hto⟩:=Z.to;refine(?_:zx _ _ (field (.ref z) 2 >>=_) _ _ _);refine zf (wpAny_field Z.z rfl (x:=.bool false) rfl ?_);refine zf (wpAny_field Z.z rfl (x:=.ref ti) rfl (zf (wpAny_seqItems Z.ti rfl ?_)));refine zf (Gw Z.z ?_);refine NP rfl (zf (wpAny_rule (zf (wpAny_field Z.z rfl (x:=.ref to) rfl (zf (wpAny_setField_rec Z.z (Zu _) λg1 z1 s1=>?_))))));have z1:IsZip g1 z ti to .ellipsis:=z1;refine zf (qy λQ2 E2 hQ2 hE2=>iZ (zf (wpAny_onRaise ?_)));refine zf (uF (A:=A.in1) hh (Z.i1.ext s1.extBut D.i1z) (s1.extBut _ _ D.l1z h1) (λx g2 hx q1' s2=>zl ?_) λg2 e hx s2 ⟨oe,PA,PB⟩=>?_)
 case refine_2=>
  have z2:IsZip g2 z ti to .ellipsis:=s2 _ _ D.i1z.symm z1;have hez:e≠z:=λq=>by subst q;rw[z2] at PA;obtain rfl:=zh PA;simp at PB
  exact wpAny_setField_rec z2 (Zu _) λg3 _ s3=>hE2▸hE▸fin g3 e (.inl hx) (λc o c1 _ c3 _ q=>s3.extBut _ _ c1 (s2 _ _ c3 (s1.extBut _ _ c1 q))) ⟨oe,s3.extBut _ _ hez PA,PB⟩
 have to2:IsPair g2 to a b:=s2.extBut _ _ D.TOi1 (s1.extBut _ _ D.TOz hto);refine zf (wpAny_seqItems to2 rfl (zf (wpAny_updateSeq_pair to2 λg3 to3 s3=>?_)));have z3:IsZip g3 z ti to .ellipsis:=s3.extBut _ _ D.TOz.symm (s2.extBut _ _ D.i1z.symm z1);have k3:∀c o,c≠z->c≠to->c≠i1->c≠i2->s.heap.get? c=some o->g3.get? c=some o:=λc o c1 c2 c3 c4 e=>s3.extBut _ _ c2 (s2.extBut _ _ c3 (s1.extBut _ _ c1 e));refine zf (wpAny_letGo (zl ?_));refine iZ (zf (wpAny_onRaise ?_));refine zf (uF (A:=A.in1) hh (((Z.i2.ext s1.extBut D.i2z).ext s2.extBut D.i12.symm).ext s3.extBut D.TOi2.symm) (s3.extBut _ _ D.l2TO (s2.extBut _ _ D.l2i1 (s1.extBut _ _ D.l2z h2))) (λy g4 hy q2 s4=>zl ?_) λg4 e hy s4 ⟨oe,PA,PB⟩=>?_)
 case refine_2=>
  have z4:IsZip g4 z ti to .ellipsis:=s4 _ _ D.i2z.symm z3;have hez:e≠z:=λq=>by subst q;rw[z4] at PA;obtain rfl:=zh PA;simp at PB
  exact wpAny_setField_rec z4 (Zu _) λg5 _ s5=>hE2▸hE▸fin g5 e (.inr hy) (λc o c1 c2 c3 c4 q=>s5.extBut _ _ c1 (s4 _ _ c4 (k3 c o c1 c2 c3 c4 q))) ⟨oe,s5.extBut _ _ hez PA,PB⟩
 have to4:IsPair g4 to x b:=s4.extBut _ _ D.TOi2 to3;refine zf (wpAny_seqItems to4 rfl (zf (wpAny_updateSeq_pair to4 λg5 to5 s5=>?_)));have to5:IsPair g5 to x y:=to5;have z5:=s5.extBut _ _ D.TOz.symm (s4.extBut _ _ D.i2z.symm z3);have k5:=λc o c1 c2 c3 c4 e=>
  s5.extBut _ _ c2 (s4.extBut _ _ c4 (k3 c o c1 c2 c3 c4 e))
 refine zf (wpAny_letGo (zl (pA (hQ2▸?_))));refine zf (wpAny_seqItems to5 rfl (zf (wpAny_newTuple ?_)));have z6:IsZip (g5.push {cls:=.type "tuple",data:=.seq #[x,y]}) z ti to .ellipsis:=zj _ z5;refine zf (KD z6 λg8 z8 u=>zl (hQ▸⟨_,rfl,?_⟩));have up:=λc o c1 e=>u c o c1 (zj _ e);have t8:=u _ _ (yD (zZ z5)) (zq _ rfl);refine(?_:zx _ _ (pure (some (Zm g5.objs.size))) _ _ _);rw[((((s5.1.trans s4.1).trans s3.1).trans s2.1).trans s1.1)] at z8 t8⊢;exact zl (q1 x y g8 hx hy ⟨z8,up _ _ D.TIz (k5 _ _ D.TIz D.TITO D.TIi1 D.TIi2 Z.ti),⟨x,y,up _ _ D.TOz to5⟩,(((q1'.ext s3.extBut D.TOi1.symm).ext s4.extBut D.i12).ext s5.extBut D.TOi1.symm).at_ λo e=>up _ o D.i1z e,(q2.ext s5.extBut D.TOi2.symm).at_ λo e=>up _ o D.i2z e⟩ t8 λc o c1 c2 c3 c4 e=>up c o c1 (k5 c o c1 c2 c3 c4 e))
end
noncomputable def PC(t:Bool)(a:zJ):Obj:={cls:=.type (if t then "tuple_iterator" else "list_iterator"),data:=.fields #[.ref a,.int 0 0]}
abbrev zH1(h:yi)(t1:Bool)(a1:zJ):Heap:=h.push (PC t1 a1)
abbrev zH2(h:yi)(t1 t2:Bool)(a1 a2:zJ):Heap:=(zH1 h t1 a1).push (PC t2 a2)
abbrev zH3(h:yi)(t1 t2:Bool)(a1 a2:zJ):Heap:=(zH2 h t1 t2 a1 a2).push {cls:=.type "tuple",data:=.seq #[.ref h.objs.size,.ref (zH1 h t1 a1).objs.size]}
abbrev zH4(h:yi)(t1 t2:Bool)(a1 a2:zJ):Heap:=(zH3 h t1 t2 a1 a2).push {cls:=.type "tuple",data:=.seq #[.none,.none]}
abbrev WL(h:yi)(t1 t2:Bool)(a1 a2:zJ):Heap:=(zH4 h t1 t2 a1 a2).push {cls:=.type "zip",data:=.fields #[.none,.bool false,.bool false,.ref (zH2 h t1 t2 a1 a2).objs.size,.ref (zH3 h t1 t2 a1 a2).objs.size]}
def AH(h:yi)(a:zJ)(t:Bool)(vs:List zo)(n:Nat):Prop:=h.get? a=some (dj t vs n)
theorem nM{prog:Program}{w:Y3}{n:Nat}(hs:AH s.heap a t vs n)
  (hQ:Q (.ref s.heap.objs.size) {s with heap:=s.heap.push (PC t a)}):zx (zv prog w) A (pyIter (.ref a)) Q E s:=by
 have hs:=hs;cases t
 ·exact wpAny_pyIter_list ⟨_,hs,rfl,n,rfl⟩ hQ
 ·exact wpAny_pyIter_tuple ⟨_,hs,rfl,n,rfl⟩ hQ
set_option maxHeartbeats 1600000 in
theorem CQ(t1 t2)(a1 a2)(vs ws:List zo)(n m:Nat):
  Meets (Yc.«zip.__new__» ⟨[.type "zip",.ref a1,.ref a2],[]⟩) (λ_ R s=>AH s.heap a1 t1 vs n/\AH s.heap a2 t2 ws m/\
   R (.ok (.ret (.ref (zH4 s.heap t1 t2 a1 a2).objs.size))) {s with heap:=WL s.heap t1 t2 a1 a2}):=
 .of_wp λprog w A R s h=>by
  obtain⟨hp,g,d,tk,os⟩:=s;refine zg (λhl1 Fd=>?_) h;refine zg (λhl2 h=>?_) Fd;have PD:=sub_zip;have hL2:AH (Shared.heap ⟨hp.push (PC t1 a1),g,d,tk,os⟩) a2 t2 ws m:=zj _ hl2
  wp_walk using nM hl1,nM hL2
  exact⟨_,rfl,h⟩
section
variable{call:Call}
theorem jS{it:zJ}(e:h.get? it=some (PC t a)):bP h it a 0 t:=by
 cases t
 ·exact⟨_,e,rfl,rfl⟩
 ·exact⟨_,e,rfl,rfl⟩
theorem Gx{n:Nat}(h1:s.heap.get? a1=some (dj t1 vs n))(h2:s.heap.get? a2=some (dj t2 ws m))
  (h:∀h',pz h' (s.heap.objs.size+4) (s.heap.objs.size+2) (s.heap.objs.size+3) s.heap.objs.size (s.heap.objs.size+1) a1 a2 t1 t2 0 .none->(∀c o,s.heap.get? c=some o->h'.get? c=some o)->Q (.ref (s.heap.objs.size+4)) {s with heap:=h'}):
  zx (zv prog w) A (ZP (.type "zip") [.ref a1,.ref a2]) Q E s:=by
 refine callType_new F.called_zip rfl (F.typeCall_zip_2 _ _) (F.newCall_zip_2 _ _) (λobj=>F.args_object_init_3 obj _ _) F.entry_zip_new (CQ t1 t2 a1 a2 vs ws n m) ⟨h1,h2,?_⟩;have z1:(zH1 s.heap t1 a1).objs.size=s.heap.objs.size+1:=Zp ..;have z2:(zH2 s.heap t1 t2 a1 a2).objs.size=s.heap.objs.size+2:=gR (Zp ..) (gR z1 rfl);have z3:(zH3 s.heap t1 t2 a1 a2).objs.size=s.heap.objs.size+3:=gR (Zp ..) (gR z2 rfl);have z4:(zH4 s.heap t1 t2 a1 a2).objs.size=s.heap.objs.size+4:=gR (Zp ..) (gR z3 rfl);have g5:(WL s.heap t1 t2 a1 a2).get? (zH4 s.heap t1 t2 a1 a2).objs.size=some _:=zq _ rfl;have g4:(WL s.heap t1 t2 a1 a2).get? (zH3 s.heap t1 t2 a1 a2).objs.size=some _:=zj _ (zq _ rfl);have g3:(WL s.heap t1 t2 a1 a2).get? (zH2 s.heap t1 t2 a1 a2).objs.size=some _:=zj _ (zj _ (zq _ rfl));have g2:(WL s.heap t1 t2 a1 a2).get? (zH1 s.heap t1 a1).objs.size=some _:=zj _ (zj _ (zj _ (zq _ rfl)));refine(?_:_/\_);rw[z2,z3,z4] at g5;rw[z1,z2] at g3;rw[z3] at g4;rw[z1] at g2;exact gR z4 ⟨⟨_,g5,rfl⟩,h _ ⟨g5,g3,⟨_,_,g4⟩,jS (zj _ (zj _ (zj _ (zj _ (zq _ rfl))))),jS g2⟩ λc o x=>zj _ (zj _ (zj _ (zj _ (zj _ x))))⟩
end
section
variable{call:Call}
def zP(z ti to i1 i2 b:zJ):Prop:=b=z\/b=ti\/b=to\/b=i1\/b=i2
theorem MO{P:zJ->Prop}(h:zP z ti to i1 i2 b)(a1:P z)(a2:P ti)(a3:P to)(a4:P i1)(a5:P i2):P b:=
 h.elim (λe=>e▸a1) λh=>h.elim (λe=>e▸a2) λh=>h.elim (λe=>e▸a3) λh=>h.elim (λe=>e▸a4) λe=>e▸a5
structure i0(c₀:ah)(z ti to i1 i2 a1 a2:zJ)(t1 t2:Bool)(l1 l2:List D)(k:Nat)(f:zo)(c:ah):Prop where
 held:∀b,zP z ti to i1 i2 b->aF (dh c₀ b) (c.γ.R b=.aM)
 o:pz c.s.heap z ti to i1 i2 a1 a2 t1 t2 k f
 s1:c8 λvs n=>aF (lk c.γ.R c.s.heap a1=some (dj t1 vs n)) (aU (lk c.γ.R c.s.heap) l1 vs)
 s2:c8 λvs n=>aF (lk c.γ.R c.s.heap a2=some (dj t2 vs n)) (aU (lk c.γ.R c.s.heap) l2 vs)
theorem qz{n:String}{vs:Array zo}(e:h.get? a=some o)(hc:o.cls=.type n)(hn:(n=="list")=false)(hd:o.data=.fields vs\/o.data=.seq vs):∃o,aG (h.get? a=some o) (∀vs n,o≠aO vs n) (∀v,o.data≠.cell v):=
 ⟨o,e,λ_ _ q=>Zq (hn.symm.trans (beq_iff_eq.mpr (adK (hc.symm.trans (congrArg Obj.cls q))))),λ_ q=>hd.elim (λd=>nomatch d.symm.trans q) λd=>nomatch d.symm.trans q⟩
section
variable{l1 l2:List D}{k:Nat}{f:zo}
theorem pz.obj(x:pz h z ti to i1 i2 a1 a2 t1 t2 k f) b (hb:zP z ti to i1 i2 b):∃o,aG (h.get? b=some o) (∀vs n,o≠aO vs n) (∀v,o.data≠.cell v):=
 MO hb (qz x.z rfl rfl (.inl rfl)) (qz x.ti rfl rfl (.inr rfl)) (have⟨_,_,e⟩:=x.to;qz e rfl rfl (.inr rfl)) (ik x.i1) (ik x.i2)
theorem i0.keep(S:i0 c₀ z ti to i1 i2 a1 a2 t1 t2 l1 l2 k f c)(K:ak c.γ c.g.length c.s.heap c'.γ c'.g.length c'.s.heap):i0 c₀ z ti to i1 i2 a1 a2 t1 t2 l1 l2 k f c' where
 held:=λb hb=>(S.o.obj b hb).elim λo y=>⟨(S.held b hb).1,(K.aM b o (S.held b hb).2 y.1).1⟩
 o:=S.o.at_ λb o hb e=>(K.aM b o (S.held b hb).2 e).2
 s1:=have⟨vs,n,y⟩:=S.s1;⟨vs,n,K.sub _ _ y.1,y.2.sub K.sub⟩
 s2:=have⟨vs,n,y⟩:=S.s2;⟨vs,n,K.sub _ _ y.1,y.2.sub K.sub⟩
theorem i0.hd(I:Inv fx c)(S:i0 c₀ z ti to i1 i2 a1 a2 t1 t2 l1 l2 k f c):DE fx c₀ c (zP z ti to i1 i2):=.of I S.held S.o.obj
theorem i0.step(I:Inv fx c)(K:ak c₀.γ c₀.g.length c₀.s.heap c.γ c.g.length c.s.heap)(S:i0 c₀ z ti to i1 i2 a1 a2 t1 t2 l1 l2 k f c){k':Nat}{f':zo}(Z:pz h' z ti to i1 i2 a1 a2 t1 t2 k' f')(hk:∀b o,¬zP z ti to i1 i2 b->c.s.heap.get? b=some o->h'.get? b=some o):
  eX (Inv fx {c with s:={c.s with heap:=h'}}) (ak c₀.γ c₀.g.length c₀.s.heap c.γ c.g.length h') (iN c {c with s:={c.s with heap:=h'}}) (i0 c₀ z ti to i1 i2 a1 a2 t1 t2 l1 l2 k' f' {c with s:={c.s with heap:=h'}}) (Sub (lk c.γ.R c.s.heap) (lk c.γ.R h')):=
 have y:=I.Kf (s':={c.s with heap:=h'}) K (S.hd I) hk rfl rfl λb hb=>(Z.obj b hb).elim λ_ y=>congrArg Zv y.1
 ⟨y.1,y.2,y.4,⟨S.held,Z,have⟨vs,n,x⟩:=S.s1;⟨vs,n,y.3 _ _ x.1,x.2.sub y.3⟩,have⟨vs,n,x⟩:=S.s2;⟨vs,n,y.3 _ _ x.1,x.2.sub y.3⟩⟩,y.3⟩
theorem KG{l:List α}{l':List β}:(l.zip l').length=l.length\/(l.zip l').length=l'.length:=List.length_zip▸(Nat.le_total l.length l'.length).imp YT Nat.min_eq_right
theorem KH(hh:A.handled=none)(Dz:ZipApart z ti to i1 i2 a1 a2):tc A fx c₀ (.ref z) ((l1.zip l2).map λx=>yq [x.1,x.2]) (λ_=>True)
  (λk c=>i0 c₀ z ti to i1 i2 a1 a2 t1 t2 l1 l2 k .none c) (λk v c=>∃t,aF (v=.ref t) (i0 c₀ z ti to i1 i2 a1 a2 t1 t2 l1 l2 (k+1) (rawInt t) c)) where
 keep:=λk c c' S K=>S.keep K
 self:=λk c Q E S q=>wpAny_pyIter_zip S.o.z q
 item:=λk c p Q E hp S _ I K q=>by
  obtain⟨vs,n,y1⟩:=S.s1;obtain⟨ws,m,y2⟩:=S.s2;refine ze (map_some ((Zd ..).symm.trans hp)) λpq mY=>?_;obtain⟨hz,rfl⟩:=mY;have hz:=Y1.mp hz;refine ze (y1.2.get hz.1) λx kC=>(zg (λhx dx=>?_) kC);refine ze (y2.2.get hz.2) λy o8=>(zg (λhy dy=>?_) o8);refine uG hh Dz S.o (aw y1.1).2 (aw y2.1).2 (λx' y' h' rG RB Z' ht hk=>?_) λh' h=>h.elim (λh=>nomatch h.symm.trans hx) λh=>nomatch h.symm.trans hy;cases hx.symm.trans rG;cases hy.symm.trans RB;have t:=S.step I K Z' λb o hb e=>hk b o (λh=>hb (.inl h)) (λh=>hb (.inr (.inr (.inl h)))) (λh=>hb (.inr (.inr (.inr (.inl h))))) (λh=>hb (.inr (.inr (.inr (.inr h))))) e;exact q _ {c with s:={c.s with heap:=h'}} t.1 rfl rfl t.2 t.3 ⟨_,rfl,t.4⟩ ⟨_,[x,y],0,rfl,aB (I.g.bU (ao _)) ht,.cons (dx.sub t.5) (.one (dy.sub t.5))⟩
 stop:=λc Q E S _ I K q=>by
  obtain⟨vs,n,y1⟩:=S.s1;obtain⟨ws,m,y2⟩:=S.s2;refine uG hh Dz S.o (aw y1.1).2 (aw y2.1).2 (λx y h' hx hy _ _ _=>?_) λh' _ hk=>?_
  ·rw[zA] at hx hy
   exact KG.elim (λe=>nomatch (Zs (zO (y1.2.length.trans e.symm))).symm.trans hx) λe=>nomatch (Zs (zO (y2.2.length.trans e.symm))).symm.trans hy
  ·have t:=I.Cq (s':={c.s with heap:=h'}) K (S.hd I) (λb ob hb e=>hk b ob (λh=>hb (.inl h)) (λh=>hb (.inr (.inr (.inl h)))) (λh=>hb (.inr (.inr (.inr (.inl h))))) (λh=>hb (.inr (.inr (.inr (.inr h))))) e) rfl rfl
   exact q (FU c _ _) t.1 rfl rfl t.2 t.4
 go:=λk v c nt pos p Q E M I K dv q=>M.elim λt S=>by
  refine gR S.1 (wpAny_letOwnedTupleGo_zip S.2.o.z λh' z' hs=>?_);have O:=S.2.o;have y:=S.2.step I K (k':=k+1) (f':=.none) ⟨z',hs.extBut _ _ Dz.TIz O.ti,have⟨a,b,e⟩:=O.to;⟨a,b,hs.extBut _ _ Dz.TOz e⟩,O.i1.ext hs.extBut Dz.i1z,O.i2.ext hs.extBut Dz.i2z⟩ λb o hb e=>hs.extBut _ _ (λh=>hb (.inl h)) e;exact q {c with s:={c.s with heap:=h'}} y.1 rfl rfl y.2 y.3 y.4 (dv.sub y.5)
end
theorem CR(n a b:Nat)(h1:a<n)(h2:b<n):ZipApart (n+4) (n+2) (n+3) n (n+1) a b:=by
 constructor <;> first
  |exact zU h1
  |exact zU h2
  |exact zU (zF h1 (zu n _))
  |exact zU (zF h2 (zu n _))
  |exact yD (zF h1 (zu n _))
  |exact yD (zF h2 (zu n _))
  |exact λh=>nomatch y9 (m:=0) h
  |exact λh=>nomatch y9 (k:=0) h
  |exact λh=>nomatch y9 h
theorem Gy{p:D}(h:DR (lk c.γ.R c.s.heap) p v){l:List D}(e:bQ p=some l):NN λt a vs n=>aG (v=.ref a) (lk c.γ.R c.s.heap a=some (dj t vs n)) (aU (lk c.γ.R c.s.heap) l vs):=by
 cases p with
 |tuple xs=>obtain rfl:=zh e;obtain⟨a,vs,n,q⟩:=h;exact⟨true,a,vs,n,q⟩
 |list xs=>obtain rfl:=zh e;obtain⟨a,vs,n,q⟩:=h;exact⟨false,a,vs,n,q⟩
 |_=>exact ns e
open Classical in
theorem uH(I:Inv fx c1)(K:Ext c c1){P:zJ->Prop}(gr:ae c1.s s')(hn:∀b,P b->c1.s.heap.get? b=none)(lv:∀b,P b->(s'.heap.get? b).isSome=true):
  dQ (Inv fx ⟨{c1.γ with R:=λb=>if P b then .aM else c1.γ.R b},c1.e,c1.g,s'⟩) (Ext c ⟨{c1.γ with R:=λb=>if P b then .aM else c1.γ.R b},c1.e,c1.g,s'⟩) (∀c₀,d5 c c₀->∀b,P b->aF (dh c₀ b) ((if P b then Role.aM else c1.γ.R b)=.aM)) (Sub (lk c1.γ.R c1.s.heap) (lk (λb=>if P b then .aM else c1.γ.R b) s'.heap)):=
 have x:=I.m7 gr (λb=>if P b then .aM else c1.γ.R b) λb=>(Yy (P b)).elim (λh=>.inr ⟨hn b h,lv b h⟩) λh=>.inl (if_neg h)
 ⟨x.1,K.trans x.2,λc₀ hf b hb=>⟨hf b (.of K (hn b hb)),if_pos hb⟩,x.2.x.sub⟩
theorem CU(hh:A.handled=none)(I:Inv fx c2)(K:Ext c c2){q1 q2:D}{v2:zo}(V1:DR (lk c2.γ.R c2.s.heap) q1 v1)(V2:DR (lk c2.γ.R c2.s.heap) q2 v2){l1 l2:List D}(e1:bQ q1=some l1)(e2:bQ q2=some l2)
  (q:∀it c' (St:ah->Nat->ah->Prop) (Md:ah->Nat->zo->ah->Prop),c'.e=c2.e->c'.g=c2.g->Inv fx c'->Ext c c'->(∀fN c₀,d5 c c₀->tc A fN c₀ (.ref it) ((l1.zip l2).map λx=>yq [x.1,x.2]) (λ_=>True) (St c₀) (Md c₀)/\St c₀ 0 c')->Q (.ref it) c'.s):
  zx (zv prog w) A (ZP (.type "zip") [v1,v2]) (λx az=>zx (zv prog w) A (pyIter x) Q E az) E c2.s:=by
 obtain⟨t1,a1,vs,n,y1⟩:=Gy V1 e1;obtain⟨t2,a2,ws,m,y2⟩:=Gy V2 e2;refine gR y1.1 (gR y2.1 ?_);refine Gx (aw y1.2).2 (aw y2.2).2 λh' Z qf=>?_;have x:=uH (P:=zP (c2.s.heap.objs.size+4) (c2.s.heap.objs.size+2) (c2.s.heap.objs.size+3) c2.s.heap.objs.size (c2.s.heap.objs.size+1)) I K (s':={c2.s with heap:=h'}) ⟨qf,rfl,rfl⟩ (λb hb=>iI (MO hb (zu _ _) (zu _ _) (zu _ _) (zm _) (zu _ _)))
  λb hb=>(Z.obj b hb).elim λ_ y=>congrArg Zv y.1
 exact wpAny_pyIter_zip Z.z (q _ ⟨_,c2.e,c2.g,{c2.s with heap:=h'}⟩ _ _ rfl rfl x.1 x.2 λfN c₀ hf=>⟨KH hh (CR _ _ _ (zZ (aw y1.2).2) (zZ (aw y2.2).2)),x.3 c₀ hf,Z,⟨vs,n,x.4 _ _ y1.2,y1.3.sub x.4⟩,⟨ws,m,x.4 _ _ y2.2,y2.3.sub x.4⟩⟩)
theorem Gz(ok:bF fx)(hh:A.handled=none)(hng:¬ng){a b:CE}(hk:fx.env.kindOf "zip"=some .globalImplicit)(hs:notStar (aH T.tb.nm a)=true)(vf:notStar (aH T.tb.nm b)=true)(ha:ai A call fx a)(hb:ai A call fx b):
  rY A call fx ng (.zip a b pf p):=λc r I h _=>by
 refine bC (λQ q=>cK ok I.g (zy (i:=8) rfl) hk rfl q) (gR (aj hs ..) (gR (ay ..) ?_));refine gR (aj vf ..) (gR (ay ..) ?_);refine yI rfl (evalArgs_plain (spliced_cons (ha.d7 I (.refl _) h λa1 c1 v1 h I1 K1 V1 _=>spliced_cons (hb.d7 I1 K1 h λa2 c2 v2 h I2 K2 V2 fT=>spliced_nil (h.opt λq1 d1 h3=>h3.opt λq2 d2 h4=>h4.opt λl1 e1 h5=>h5.opt λl2 e2 h6=>?_)))));cases bL d1;cases bL d2;exact CU hh I2 K2 (V1.d fT) V2 e1 e2 λit c3 St Md ee eg I3 K3 J=>⟨.d .none,_,c3,_,_,_,h6.1.symm.trans (ee▸eg▸rfl),rfl,I3,K3,J,λ_ _=>trivial,λh=>absurd h hng⟩
end
section
variable{call:Call}
structure pB(c₀:ah)(z it ax:zJ)(l:List D)(k:Nat)(c:ah):Prop where
 held:∀b,b=z\/b=it->aF (dh c₀ b) (c.γ.R b=.aM)
 i:c.s.heap.IsListIter it ax k
 s:c8 λvs n=>aF (lk c.γ.R c.s.heap ax=some (aO vs n)) (aU (lk c.γ.R c.s.heap) l vs)
section
variable{it:zJ}{l:List D}{k:Nat}
theorem pB.keep(S:pB c₀ z it ax l k c){oz:Obj}(hz:c.s.heap.get? z=some oz)(K:ak c.γ c.g.length c.s.heap c'.γ c'.g.length c'.s.heap):pB c₀ z it ax l k c':=
 have⟨_,ho,r⟩:=S.i;have⟨vs,n,y⟩:=S.s
 ⟨λb hb=>⟨(S.held b hb).1,hb.elim (λe=>e▸(K.aM z _ (S.held z (.inl rfl)).2 hz).1) λe=>e▸(K.aM it _ (S.held it (.inr rfl)).2 ho).1⟩,⟨_,(K.aM it _ (S.held it (.inr rfl)).2 ho).2,r⟩,vs,n,K.sub _ _ y.1,y.2.sub K.sub⟩
theorem pB.hd(I:Inv fx c)(S:pB c₀ z it ax l k c)(e:∃o,aG (c.s.heap.get? z=some o) (∀vs n,o≠aO vs n) (∀v,o.data≠.cell v)):DE fx c₀ c λb=>b=z\/b=it:=
 .of I S.held λb hb=>hb.elim (λh=>h▸e) λh=>h▸ik (t:=false) S.i
theorem pB.step(I:Inv fx c)(K:ak c₀.γ c₀.g.length c₀.s.heap c.γ c.g.length c.s.heap)(S:pB c₀ z it ax l k c)(e:∃o,aG (c.s.heap.get? z=some o) (∀vs n,o≠aO vs n) (∀v,o.data≠.cell v)){k':Nat}(e':(h'.get? z).isSome=true)(RG:h'.IsListIter it ax k')(hk:∀b o,¬(b=z\/b=it)->c.s.heap.get? b=some o->h'.get? b=some o):
  eX (Inv fx {c with s:={c.s with heap:=h',toks:=tk}}) (ak c₀.γ c₀.g.length c₀.s.heap c.γ c.g.length h') (iN c {c with s:={c.s with heap:=h',toks:=tk}}) (pB c₀ z it ax l k' {c with s:={c.s with heap:=h',toks:=tk}}) (Sub (lk c.γ.R c.s.heap) (lk c.γ.R h')):=
 have y:=I.Kf (s':={c.s with heap:=h',toks:=tk}) K (S.hd I e) hk rfl rfl λb hb=>hb.elim (λh=>h▸e') λh=>h▸RG.elim λ_ y=>congrArg Zv y.1
 ⟨y.1,y.2,y.4,⟨S.held,RG,have⟨vs,n,x⟩:=S.s;⟨vs,n,y.3 _ _ x.1,x.2.sub y.3⟩⟩,y.3⟩
theorem PE{p:D}(hp:(l.zipIdx.map λ(x:D×Nat)=>yq [.int (x.2:Int),x.1])[k]? =some p):∃x,aF (l[k]? =some x) (p=.tuple [.int (k:Int),x]):=by obtain⟨q,hz,e⟩:=map_some ((Zd ..).symm.trans hp);obtain⟨x,hx,e2⟩:=map_some (List.getElem?_zipIdx.symm.trans hz);refine⟨x,hx,e.symm.trans ?_⟩;exact gL (e2 ..) (gR (yu ..) rfl)
theorem GA(hh:A.handled=none)(h1:z≠it):tc A fx c₀ (.ref z) (l.zipIdx.map λ(x:D×Nat)=>yq [.int (x.2:Int),x.1]) (λ_=>True)
  (λk c=>aF (pB c₀ z it ax l k c) (∃old,IsEnum c.s.heap z it k old)) (λk v c=>aF (pB c₀ z it ax l (k+1) c) (c8 λt x=>aF (v=.ref t) (IsEnumOut c.s.heap z it ((k:Int)+1) x t))) where
 keep:=λk c c' S K=>S.2.elim λold e=>⟨S.1.keep e K,old,(K.aM z _ (S.1.held z (.inl rfl)).2 e).2⟩
 self:=λk c Q E S q=>S.2.elim λ_ e=>wpAny_pyIter_enum e q
 item:=λk c p Q E hp S _ I K q=>by
  obtain⟨old,e⟩:=S.2;obtain⟨vs,n,y⟩:=S.1.s;obtain⟨px,hx,rfl⟩:=PE hp;obtain⟨x,hx,dx⟩:=y.2.get hx;refine wpAny_pyNext_enum_item e S.1.i ⟨_,(aw y.1).2,rfl,n,rfl⟩ (by simpa using hx) h1 λh' e' i' ht _ hk=>?_;have t:=S.1.step I K (qz (n:="enumerate") e rfl rfl (.inl rfl)) (tk:=c.s.toks+1) (congrArg Zv e') i' λb ob hb e=>hk b ob (λh=>hb (.inl h)) (λh=>hb (.inr h)) e;exact q _ {c with s:={c.s with heap:=h',toks:=c.s.toks+1}} t.1 rfl rfl t.2 t.3 ⟨t.4,_,_,rfl,e'⟩ ⟨_,[.int k c.s.toks,x],0,rfl,aB (I.g.bU (ao _)) ht,.cons ⟨_,rfl⟩ (.one (dx.sub t.5))⟩
 stop:=λc Q E S _ I K q=>by
  obtain⟨old,e⟩:=S.2;obtain⟨vs,n,y⟩:=S.1.s;refine wpAny_pyNext_enum_end hh e S.1.i ⟨_,(aw y.1).2,rfl,n,rfl⟩ (by simp[y.2.length]) λh' hk=>?_;have t:=I.Cq (s':={c.s with heap:=h'}) K (S.1.hd I (qz (n:="enumerate") e rfl rfl (.inl rfl))) (λb ob hb e=>hk b ob (λh=>hb (.inr h)) e) rfl rfl;exact q (FU c _ _) t.1 rfl rfl t.2 t.4
 go:=λk v c nt pos p Q E S I K dv q=>by
  obtain⟨t,x,e⟩:=S.2;cases e.1;refine wpAny_letOwnedTupleGo_enum e.2 λh' e' hs=>?_;have y:=S.1.step I K (qz (n:="enumerate") e.2 rfl rfl (.inl rfl)) (tk:=c.s.toks) (congrArg Zv e') (S.1.i.extBut hs.extBut h1.symm) λb o hb e=>hs.extBut _ _ (λh=>hb (.inl h)) e;exact q {c with s:={c.s with heap:=h'}} y.1 rfl rfl y.2 y.3 ⟨y.4,x,e'⟩ (dv.sub y.5)
end
theorem wQ(hh:A.handled=none)(I:Inv fx c1)(K:Ext c c1){l:List D}(V:DR (lk c1.γ.R c1.s.heap) (.list l) v1)
  (q:∀it c' (St:ah->Nat->ah->Prop) (Md:ah->Nat->zo->ah->Prop),c'.e=c1.e->c'.g=c1.g->Inv fx c'->Ext c c'->(∀fN c₀,d5 c c₀->tc A fN c₀ (.ref it) (l.zipIdx.map λ(x:D×Nat)=>yq [.int (x.2:Int),x.1]) (λ_=>True) (St c₀) (Md c₀)/\St c₀ 0 c')->Q (.ref it) c'.s):
  zx (zv prog w) A (ZP (.type "enumerate") [v1]) (λx az=>zx (zv prog w) A (pyIter x) Q E az) E c1.s:=by
 obtain⟨ax,vs,n,y⟩:=V;cases y.1;refine call_enumerate_1 (aw y.2).2 λh' en i' _ qf=>?_;have x:=uH (P:=λb=>b=c1.s.heap.objs.size+1\/b=c1.s.heap.objs.size) I K (s':={c1.s with heap:=h'}) ⟨qf,rfl,rfl⟩ (λb hb=>iI (hb.elim (λh=>h▸zN _) λh=>h▸zm _))
  λb hb=>hb.elim (λh=>h▸congrArg Zv en) λh=>h▸i'.elim λ_ y=>congrArg Zv y.1
 exact wpAny_pyIter_enum en (q _ ⟨_,c1.e,c1.g,{c1.s with heap:=h'}⟩ _ _ rfl rfl x.1 x.2 λfN c₀ hf=>⟨GA (l:=l) hh (Nat.succ_ne_self _),⟨x.3 c₀ hf,i',vs,n,x.4 _ _ y.2,y.3.sub x.4⟩,.none,en⟩)
theorem CV(ok:bF fx)(hh:A.handled=none)(hng:¬ng){a:CE}(hk:fx.env.kindOf "enumerate"=some .globalImplicit)(hs:notStar (aH T.tb.nm a)=true)(ha:ai A call fx a):
  rY A call fx ng (.Bx a pf p):=λc r I h _=>by
 refine(?_:zx _ _ (YJ (.Call (.Name "enumerate" pf) [aH T.tb.nm a] [] p) fx.env) _ _ _);refine bC (f:=.type "enumerate") (λQ q=>cK ok I.g (zy (i:=9) rfl) hk rfl q) (gR (aj hs ..) (gR (ay ..) ?_));refine yI rfl (evalArgs_plain (spliced_cons (ha.d7 I (.refl _) h λa1 c1 v1 h I1 K1 V1 _=>spliced_nil (h.opt λl hl h2=>?_))));obtain⟨d,hd,hl⟩:=bind_some hl;cases bL hd;cases eT hl;exact wQ hh I1 K1 V1 λit c3 St Md ee eg I3 K3 J=>⟨.d .none,_,c3,_,_,_,h2.1.symm.trans (ee▸eg▸rfl),rfl,I3,K3,J,λ_ _=>trivial,λh=>absurd h hng⟩
end
end Lw
namespace Lw
open PySem
variable{α β:Type}{P:Prop}
theorem fi{xs:Array α}{i:Nat} h:xs[i]? =some xs[i]:=y6 h
inductive vj:Array Nat->Prop
 |nil:vj #[]
 |one (a:Nat) (h:a<=7):vj #[a]
 |two (a b:Nat) (h:a<b) (h2:b<=7):vj #[a,b]
def Tk(xs:Array Nat)(j:Nat):Prop:=∃i:Nat,xs[i]? =some j
theorem tk1{a j:Nat}(h:Tk #[a] j):j=a:=by
 refine ze h λi h=>?_;cases i with
 |zero=>exact(zh h).symm
 |succ i=>exact ns h
theorem tk2{a b j:Nat}(h:Tk #[a,b] j):j=a\/j=b:=by
 refine ze h λi h=>?_;cases i with
 |zero=>exact .inl (zh h).symm
 |succ i=>cases i with
  |zero=>exact .inr (zh h).symm
  |succ i=>exact ns h
theorem r9(a j:Nat):Zt #[a] j=if a<j then 1 else 0:=by kernel_rfl
theorem nN(a b j:Nat):Zt #[a,b] j=if b<j then 2 else if a<j then 1 else 0:=by kernel_rfl
theorem below_at{xs:Array Nat}(p:vj xs){i j:Nat}(h:xs[i]? =some j):Zt xs j=i:=by
 cases p with
 |nil=>exact ns h
 |one a _=>cases i with
  |zero=>cases zh h;exact(r9 a a).trans (if_neg (yv a))
  |succ i=>exact ns h
 |two a b l _=>cases i with
  |zero=>cases zh h;exact(nN a b a).trans ((if_neg (aea l)).trans (if_neg (yv a)))
  |succ i=>cases i with
   |zero=>cases zh h;exact(nN a b b).trans ((if_neg (yv b)).trans (if_pos l))
   |succ i=>exact ns h
theorem vj.size{xs:Array Nat}(p:vj xs):xs.size<=2:=by
 cases p with
 |nil=>exact zE 2
 |one _ _=>exact zN 1
 |two _ _ _ _=>exact zm 2
theorem vj.PF{xs:Array Nat}(p:vj xs):Zt xs 0=0:=by
 cases p with
 |nil=>rfl
 |one a _=>exact(r9 a 0).trans (if_neg (Zw _))
 |two a b _ _=>exact(nN a b 0).trans ((if_neg (Zw _)).trans (if_neg (Zw _)))
theorem vj.next{xs:Array Nat}(p:vj xs){i a:Nat}(h:xs[i]? =some a):Zt xs (a+1)=i+1:=by
 cases p with
 |nil=>exact ns h
 |one c _=>cases i with
  |zero=>exact zh h▸(r9 c (c+1)).trans (if_pos (Zl c))
  |succ i=>exact ns h
 |two c b l _=>cases i with
  |zero=>exact zh h▸(nN c b (c+1)).trans ((if_neg (yK l)).trans (if_pos (Zl c)))
  |succ i=>cases i with
   |zero=>exact zh h▸(nN c b (b+1)).trans (if_pos (Zl b))
   |succ i=>exact ns h
theorem vj.free{xs:Array Nat}(p:vj xs){x y z:Nat}(h1:x≠y)(h2:x≠z)(h3:y≠z):¬Tk xs x\/¬Tk xs y\/¬Tk xs z:=by
 cases p with
 |nil=>exact .inl λ⟨_,h⟩=>ns h
 |one a _=>exact(Yy (x=a)).elim (λe=>.inr (.inl λq=>h1 (e.trans (tk1 q).symm))) λe=>.inl λq=>e (tk1 q)
 |two a b _ _=>
  refine(Yy (Tk #[a,b] x)).elim (λq=>(Yy (Tk #[a,b] y)).elim (λr=>.inr (.inr λt=>?_)) λr=>.inr (.inl r)) .inl;rcases tk2 q with q |q <;> rcases tk2 r with r |r <;> rcases tk2 t with t |t <;> first |exact h1 (q.trans r.symm) |exact h2 (q.trans t.symm) |exact h3 (r.trans t.symm)
theorem qA{t:ZL}(p:vj t.place){i j:Nat}(h:t.place[i]? =some j):t.slot j=.live i:=by unfold SetTable.slot;dsimp only;exact gR (below_at p h ..) (gR h (gR (if_pos (beq_self_eq_true _) ..) rfl))
theorem wR{t:ZL}(hd:t.dummies=#[]){j:Nat}(h:¬Tk t.place j):t.slot j=.empty:=by unfold SetTable.slot;dsimp only;refine gR (if_neg λq=>h ⟨_,eq_of_beq q⟩ ..) (gR hd ?_);exact if_neg zi
noncomputable def js(h:Int):Nat->Nat×Nat
 |0=>(adm h%8,adm h)
 |n+1=>(((js h n).1*5+1+(js h n).2/32)%8,(js h n).2/32)
def pj(h:Int)(n:Nat):Nat:=(js h n).1
def pr(h:Int)(n:Nat):SetTable.Probe:=⟨pj h n,0,pj h n,(js h n).2,none⟩
theorem WM i:adz 7 i - i=0:=by unfold adz;exact gR (if_neg λq=>absurd (zk (Zf 9 i) q) (by decide) ..) (gR (Nat.sub_self ..) rfl)
theorem pC{t:ZL}(m:t.mask=7) h:t.probeStart h=pr h 0:=by unfold SetTable.probeStart;dsimp only;refine gR m (gR (WM ..) ?_);rfl
theorem wU{t:ZL}(m:t.mask=7) h n:t.advance (pr h n)=pr h (n+1):=by refine(?_:(⟨(YI t.mask (pj h n) (js h n).2).1,adz t.mask (YI t.mask (pj h n) (js h n).2).1 - (YI t.mask (pj h n) (js h n).2).1,(YI t.mask (pj h n) (js h n).2).1,(YI t.mask (pj h n) (js h n).2).2,none⟩:adL)=_);refine gR m (gR (WM ..) ?_);rfl
theorem MP h n:pj h n<=7:=by
 cases n with
 |zero=>exact Zg (ad9 _ (by decide))
 |succ n=>exact Zg (ad9 _ (by decide))
theorem KI h n:(js h n).2=adm h/32 ^ n:=by
 induction n with
 |zero=>exact(Nat.div_one _).symm
 |succ n ih=>exact(congrArg (·/32) ih).trans (Nat.div_div_eq_div_mul _ _ _)
theorem KJ h:adm h<2 ^ 64:=(aec (Int.emod_nonneg _ (by decide))).mpr (Int.emod_lt_of_pos _ (by decide))
theorem KL h {n:Nat} (hn:13<=n):(js h n).2=0:=
 (KI h n).trans (Nat.div_eq_of_lt (zF (KJ h) (zk (by decide:2 ^ 64<=32 ^ 13) (Nat.pow_le_pow_right (zw (zE _)) hn))))
theorem AI h {n:Nat} (hn:13<=n):pj h (n+1)=(pj h n*5+1)%8:=congrArg (λp=>(pj h n*5+1+p/32)%8) (KL h hn)
theorem apart:∀z:_root_.Fin 8,z.1≠(z.1*5+1)%8/\z.1≠((z.1*5+1)%8*5+1)%8/\(z.1*5+1)%8≠((z.1*5+1)%8*5+1)%8:=by decide
structure nO(xs:Array Nat)(h:Int)(e:Nat):Prop where
 lt:e<=15
 emp:¬Tk xs (pj h e)
 bef:∀k,k<e->Tk xs (pj h k)
theorem WN{P:Nat->Prop}{m:Nat} n:n<=m->P n->∃k,aG (k<=m) (P k) (∀i,i<k->¬P i):=by
 induction n using Nat.strongRecOn with
 |_ n ih=>
  intro hn h;exact(Yy (∃k,k<n/\P k)).elim (λ⟨k,hk,hp⟩=>ih k hk (zk (Zz hk) hn) hp) λc=>⟨n,hn,h,λk hk hp=>c ⟨k,hk,hp⟩⟩
theorem GB{xs:Array Nat}(p:vj xs) h:∃e,nO xs h e:=by
 have fin:∀n,n<=15->¬Tk xs (pj h n)->∃e,nO xs h e:=λn hn hf=>
  have⟨k,z⟩:=WN n hn hf
  ⟨k,z.1,z.2,λi hi=>Classical.not_not.mp (z.3 i hi)⟩
 have a:=apart ⟨pj h 13,yk (MP h 13)⟩;rw[←(AI h (zm _)),←(AI h (n:=14) (zN _))] at a;exact(p.free a.1 a.2.1 a.2.2).elim (fin 13 (by decide)) λq=>q.elim (fin 14 (zN _)) (fin 15 (zm _))
def Rc(xs:Array Nat)(a:Nat)(h:Int):Prop:=∃n,pj h n=a/\∀k,k<n->Tk xs (pj h k)
theorem Rc.au{xs ys:Array Nat}{a:Nat}{h:Int}(x:Rc xs a h)(k:∀j,Tk xs j->Tk ys j):Rc ys a h:=let⟨n,e,f⟩:=x;⟨n,e,λi hi=>k _ (f i hi)⟩
structure Tab(t:ZL)(hs:Array Int):Prop where
 mask:t.mask=7
 WO:t.dummies=#[]
 size:t.place.size=hs.size
 pl:vj t.place
 reach:∀(i a:Nat) (h:Int),t.place[i]? =some a->hs[i]? =some h->Rc t.place a h
theorem CW{t:ZL}{hs:Array Int}(T:Tab t hs) hA {h:Int} {e:Nat} (F:nO t.place h e) fuel:∀{n},n<=e->e<n+fuel->
  (yW t hA h fuel (pr h n)=some (.empty (pj h e) none)/\∀k i:Nat,n<=k->k<e->t.place[i]? =some (pj h k)->hA i≠h)\/
  c8 λk i=>DJ (n<=k) (k<e) (t.place[i]? =some (pj h k)) (hA i=h) (yW t hA h fuel (pr h n)=some (.candidate (pj h k) i (pr h (k+1)))) (∀k' i':Nat,n<=k'->k'<k->t.place[i']? =some (pj h k')->hA i'≠h):=by
 induction fuel with
 |zero=>exact λh1 h2=>absurd h2 (yK h1)
 |succ fuel ih=>
  intro n hn hf;have go:yW t hA h (fuel+1) (pr h n)=match t.slot (pj h n) with
   |.empty=>some (.empty (pj h n) none)
   |.dummy=>yW t hA h fuel (t.advance {pr h n with dummy:=some (pj h n)})
   |.live i=>if hA i==h then some (.candidate (pj h n) i (t.advance (pr h n))) else yW t hA h fuel (t.advance (pr h n)):=rfl
  refine gR go ?_;rcases Yj hn with c |c
  ·subst c
   exact gR (wR T.WO F.emp ..) (.inl ⟨rfl,λk i a b=>absurd b (yK a)⟩)
  ·refine ze (F.bef n c) λi hi=>(gR (qA T.pl hi ..) ?_)
   dsimp only;have uq:∀i':Nat,t.place[i']? =some (pj h n)->i'=i:=λi' h'=>(below_at T.pl h').symm.trans (below_at T.pl hi);refine gR (wU T.mask ..) ?_;by_cases q:hA i=h
   ·exact gR (if_pos (beq_iff_eq.mpr q) ..) (.inr ⟨n,i,zm _,c,hi,q,rfl,λk' i' a b=>absurd b (yK a)⟩)
   ·refine gR (if_neg λz=>q (eq_of_beq z) ..) ?_
    have step:∀k i':Nat,n<=k->(n+1<=k->hA i'≠h)->t.place[i']? =some (pj h k)->hA i'≠h:=λk i' a b h'=>(Yj a).elim (λe=>by
     subst e;cases uq i' h';exact q) b
    rcases ih c (ZZ n fuel▸hf) with⟨a,b⟩ |⟨k,i',z⟩
    ·exact .inl ⟨a,λk i' x y w=>step k i' x (λx=>b k i' x y w) w⟩
    ·exact .inr ⟨k,i',Z0 z.1,z.2,z.3,z.4,z.5,λk' i2 x y w=>step k' i2 x (λx=>z.6 k' i2 x y w) w⟩
end Lw
namespace Lw
open PySem PySem.Calls PyProof.Rows PySem.W
variable{h h':yi}{s s' az:zt}{env:Zj}{c c' c1 c₀ c2:ah}{pos p pf pa p1:Pos}{a b i1 i2 z ax a1 a2 S ti to I dd:zJ}{m x n' i j cl ep:Nat}{y q r:D}{P ng:Prop}{o:Obj}{L L':cT}{ps binds:List (Str×zo)}{v u v1:zo}{vs ws vals rest:List zo}{γ γ':Gh}{ks:List aA}{ov:Option zo}{g:G}{fx:Fx}{e e1 e':Env}{t t1 t2:Bool}{Q E:zo->zt->Prop}{sl:Slot}{α β:Type}{ce:CE}{op:ad4}{es ifs:cz}{φ:Nat->zJ×zJ}{fs:List (Nat×AV)}{l':List D}{M:Model}{name:Str}{tk:Tok}{A:ZV}{ts:List (Nat×Nat×Pos)}{tp:Option Pos}{ci:CI}{acc:List (Str×zJ)}{names:List (Str×Zc)}{F:Fn}{scope:Scope}{gs:fQ}{sc:List (Nat×Zc)}{src:AV}{xl:List Str}{qu:ah->Prop}{Md:Nat->zo->ah->Prop}
section
abbrev nQ(h:yi)(ks:List aA)(a:zJ):Prop:=Y4 (aE) h ks a
abbrev tH(ks:List aA):Int:=(tupleKind (aE)).hash ks
theorem CX n {v:zo} (h:carriedByValue v=true):ofAClassStatement n v=pure false:=by
 cases v with
 |ref a=>cases h
 |_=>cases n <;> rfl
theorem GC{n:Nat}{Q:Bool->zt->Prop}(h:carriedByValue v=true)(q:Q false s):zx (zv prog w) A (ofAClassStatement n v) Q E s:=gR (CX n h) (zl q)
set_option smartUnfolding false in
theorem qB{Q:Bool->zt->Prop}(hk:nQ s.heap ks a)(h:Q false s):zx (zv prog w) A (ofAClassStatement 8 (.ref a)) Q E s:=by
 refine ag λ_ k=>?_;have hT:=hk.typeIs;obtain⟨o,items,n,ho,_,hd,hi⟩:=hk;refine k ?_;refine zf (m:=typeOf (.ref a)) (wpAny_typeOf hT ?_);refine zf (zl ?_);refine iT (by decide) ?_;refine zf (wpAny_seqItems ho hd ?_);refine zf ?_;refine gL (ad3 ..) ?_;refine wpAny_forIn_list _ (λrest r s'=>r.1=none/\s'=s/\∀v∈rest,carriedByValue v=true) _ ?_ ?_ _ _ ⟨rfl,rfl,hi.byValue⟩
 ·rintro v rest r s' ⟨hr,rfl,fM⟩
  refine zf (GC (n:=7) (fM v yx) ?_);refine iT zi ?_;exact zl ⟨rfl,rfl,λu PH=>fM u (y5 _ PH)⟩
 ·rintro ⟨r1,r2⟩ s' ⟨hr,rfl,_⟩
  simp only at hr;refine gR hr ?_;exact zl h
theorem PI{st:List zo}{Q:Bool->zt->Prop}(hk:nQ s.heap ks a)(hs:∀v∈st,c8 λb RC=>v=.ref b/\nQ s.heap RC b)(h:Q false s):
  zx (zv prog w) A (searchCouldBeSeen (.ref a) st) Q E s:=by
 refine zf (wpAny_forIn_list _ (λrest r s'=>r.1=none/\s'=s/\∀v∈rest,c8 λb RC=>v=.ref b/\nQ s.heap RC b) _ ?_ ?_ _ _ ⟨rfl,rfl,hs⟩)
 ·rintro v rest r s' ⟨hr,rfl,fM⟩
  obtain⟨b,RC,ru,hb⟩:=fM v yx;refine gR ru ?_;dsimp only
  split
  ·exact zl ⟨rfl,rfl,λu PH=>fM u (y5 _ PH)⟩
  ·refine zf ((tupleKind (aE)).quiet hk ?_)
   refine iT (by simp) (zf ((tupleKind (aE)).quiet hb ?_));refine iT (by simp) (zf (qB hk ?_));refine iT zi (zf (qB hb ?_));exact gR (if_neg zi ..) (zl ⟨rfl,rfl,λu PH=>fM u (y5 _ PH)⟩)
 ·rintro ⟨r1,r2⟩ s' ⟨hr,rfl,_⟩
  simp only at hr;exact gR hr (zl h)
def KN(x:List aA×zJ):Int×Value:=(tH x.1,.ref x.2)
structure dJ(h:yi)(xs:List (List aA×zJ))(es:Array (Int×zo))(t:ZL):Prop where
 RH:es.toList=xs.map (KN)
 tab:Tab t (es.map (·.1))
 keys:∀x∈xs,nQ h x.1 x.2
 nd:(xs.map (·.1)).Nodup
noncomputable abbrev nR(es:Array (Int×zo))(ep:Nat)(t:ZL):Obj:={cls:=.type "set",dict:=none,data:=.set es ep t}
theorem dJ.size{xs:List (List aA×zJ)}{es:Array (Int×zo)}{t:ZL}(x:dJ h xs es t):es.size=xs.length:=by exact gL yn (gR x.RH (gR (zA ..) rfl))
theorem dJ.MQ{xs:List (List aA×zJ)}{es:Array (Int×zo)}{t:ZL}(x:dJ h xs es t):t.place.size=xs.length:=x.tab.size.trans ((Y2 ..).trans x.size)
theorem dJ.fits{xs:List (List aA×zJ)}{es:Array (Int×zo)}{t:ZL}(x:dJ h xs es t):t.fits es.size=true:=by refine(zY _ _).mpr ⟨beq_iff_eq.mpr (x.tab.size.trans (Y2 ..)),decide_eq_true ?_⟩;unfold SetTable.fill;refine gR x.tab.WO (gR x.tab.mask ?_);exact zk x.tab.pl.size (by decide)
theorem dJ.get{xs:List (List aA×zJ)}{es:Array (Int×zo)}{t:ZL}(x:dJ h xs es t)(i:Nat):es[i]? =(xs[i]?).map (KN):=by exact gL ZX (gR x.RH (gR Zd rfl))
theorem dJ.GD{xs:List (List aA×zJ)}{es:Array (Int×zo)}{t:ZL}(x:dJ h xs es t){y:List aA×zJ}(e:xs[i]? =some y):(es.map (·.1))[i]? =some (tH y.1):=by refine gR Array.getElem?_map ?_;refine gR (x.get ..) (gR e ?_);rfl
theorem dJ.live{xs:List (List aA×zJ)}{es:Array (Int×zo)}{t:ZL}(x:dJ h xs es t){a:Nat}(e:t.place[i]? =some a):∃y,xs[i]? =some y:=
 ⟨_,zB (x.MQ▸(yo.mp e).1)⟩
theorem KO{m:Sem Bool}{b:Bool}{k kk:Sem α}{Q:α->zt->Prop}(hm:∀R:Bool->zt->Prop,R false s->zx (zv prog w) A m R E s)(h:zx (zv prog w) A k Q E s):
  zx (zv prog w) A (if b=true then(m >>=λr=>if r=true then kk else k) else k) Q E s:=by
 cases b with
 |false=>exact h
 |true=>exact zf (hm _ h)
theorem uI{xs:List (List aA×zJ)}{es:Array (Int×zo)}{t:ZL}(hu:A.units<yA)(hk:nQ s.heap ks a)(X:dJ s.heap xs es t)
  (ho:s.heap.get? S=some (nR es ep t)) {e:Nat} (F:nO t.place (tH ks) e) {Q:SetFound->zt->Prop} (h1:ks∈xs.map (·.1)->Q (.there none) s) (h2:ks∉xs.map (·.1)->Q (.free (pj (tH ks) e) false) s) fuel:
  ∀{n:Nat} {GF:Option adL},n<=e->e<n+fuel->GF.getD (t.probeStart (tH ks))=pr (tH ks) n->
   (∀(k i:Nat) y,k<n->t.place[i]? =some (pj (tH ks) k)->xs[i]? =some y->y.1≠ks)->
   zx (zv prog w) A (setSearchFrom S (.ref a) (tH ks) true fuel GF) Q E s:=by
 have hA:∀(i:Nat) y,xs[i]? =some y->((es[i]?).map (·.1)).getD 0=tH y.1:=λi y e=>by refine gR (X.get ..) (gR e ?_);rfl
 have odd:t.gaveWay=false:=by unfold SetTable.gaveWay;exact gR X.tab.mask rfl
 induction fuel with
 |zero=>exact λh1 h2=>absurd h2 (yK h1)
 |succ fuel ih=>
  intro n GF hn hf hp hb;refine zf (wpAny_setState_of ho rfl X.fits ?_);dsimp only;refine gR odd (gR hp ?_);have lt:e<n+10*SetTable.turns t.mask:=gR X.tab.mask (zM F.lt (zF (by decide) (Zf _ n)));rcases CW X.tab (λi=>((es[i]?).map (·.1)).getD 0) F (10*SetTable.turns t.mask) hn lt with⟨r,non⟩ |⟨k,i,z⟩
  ·generalize hg:t.probe _ (tH ks) (pr (tH ks) n)=met
   refine gR (hg.symm.trans r) (zl (h2 λhm=>?_));refine ze (zH.mp hm) λy PJ=>(zg (λhy ey=>?_) PJ);refine ze (y3 hy) λi hi=>?_;have pi:=fi (X.MQ.symm▸(zr.mp hi).1);refine ze (X.tab.reach i _ _ pi (X.GD hi)) λm mY=>(zg (λem bm=>?_) mY);rw[ey] at em bm;rw[←em] at pi;have me:=(Y8 m e).elim id λq=>(F.emp (q.elim (λq=>q▸⟨i,pi⟩) (bm e))).elim;exact(Nat.lt_or_ge m n).elim (λq=>hb m i y q pi hi ey) λq=>non m i q me pi ((hA i y hi).trans (congrArg _ ey))
  ·have c3:=z.3
   generalize hg:t.probe _ (tH ks) (pr (tH ks) n)=met;refine gR (hg.symm.trans z.5) (ze (X.live c3) λy hy=>?_);have ey:es[i]? =some (KN y):=by refine gR (X.get ..) (gR hy ?_);rfl
   refine KO (λR q=>PI hk (λv hv=>?_) q) ?_
   ·refine ze (zH.mp hv) λz kN=>(zg (λhz rB=>?_) kN);refine gL rB ?_
    have:=yZ.mpr (Array.mem_filter.mp (yZ.mp hz)).1;rw[X.RH] at this;refine ze (zH.mp this) λy' oV=>(zg (λRB km=>?_) oV);refine gL km ?_;exact⟨y'.2,y'.1,rfl,X.keys y' RB⟩
   ·have same:t.sameMemory t.moves t.mask=some true:=by unfold SetTable.sameMemory;exact(if_pos (beq_self_eq_true _) ..)
    refine gR ey (zf (zT ((tupleKind (aE)).eqBool hu (X.keys y (zy hy)) hk ?_)));refine zf (wpAny_setState_of ho rfl X.fits ?_);by_cases q:y.1=ks
    ·exact gR (decide_eq_true q ..) (zl (h1 (zH.mpr ⟨y,zy hy,q⟩)))
    ·refine gR (decide_eq_false q ..) (gR same ?_)
     dsimp only;refine gR (if_pos rfl ..) (gR (qA X.tab.pl c3 ..) ?_);dsimp only;refine gR ey (zf (wpAny_isSame_ref_self ?_));refine gR (if_pos rfl ..) (zf (zl ?_));refine ih z.2 (zF hf ?_) rfl λk' i' y' a1 a2 a3 e3=>?_
     ·exact zk (zO (ZZ n fuel).symm) (zV (zw z.1) fuel)
     ·refine YA (Nat.lt_or_ge k' n) (λw1=>?_) λw1=>?_
      ·exact hb k' i' y' w1 a2 a3 e3
      ·refine YA (ZY.mp a1) (λw2=>?_) λw2=>?_
       ·exact z.6 k' i' w1 w2 a2 ((hA i' y' a3).trans (congrArg _ e3))
       ·cases w2
        cases(below_at X.tab.pl a2).symm.trans (below_at X.tab.pl c3);cases hy.symm.trans a3;exact q e3
end
variable{xs:List (List aA×zJ)}
theorem si(f:α->β){xs:Array α}{p:Nat}{x:α}:(Zx xs p x).map f=Zx (xs.map f) p (f x):=by apply Array.ext';exact gR adq (gR (yC ..) (gR (yC ..) (gR adq (gR yc (gR Zo (gR List.map_take (gR List.map_drop rfl)))))))
theorem fO{xs:Array α}{p:Nat}{x:α}:(Zx xs p x).size=xs.size+1:=by refine gL yn (gR (yC ..) ?_);refine gR ((YC).length_eq ..) (gR (Yu ..) ?_);rfl
theorem Tab.same{t t':ZL}{hs:Array Int}(T:Tab t hs)(h1:t'.mask=t.mask)(h2:t'.place=t.place)(h3:t'.dummies=t.dummies):Tab t' hs:=
 ⟨h1.trans T.mask,h3.trans T.WO,h2▸T.size,h2▸T.pl,h2▸T.reach⟩
theorem PL{t:ZL}(hd:t.dummies=#[]) j:t.put j=({t with place:=Zx t.place (Zt t.place j) j,dummies:=#[]},Zt t.place j):=by unfold SetTable.put;exact gR hd rfl
theorem acj{x y:α}(h:#[x][i]? =some y){P:Nat->α->Prop}(p:P 0 x):P i y:=by
 cases i with
 |zero=>exact zh h▸p
 |succ i=>exact ns h
theorem ack{x x' y:α}(h:#[x,x'][i]? =some y){P:Nat->α->Prop}(p:P 0 x)(q:P 1 x'):P i y:=by
 cases i with
 |zero=>exact zh h▸p
 |succ i=>cases i with
  |zero=>exact zh h▸q
  |succ i=>exact ns h
theorem GG{a b:Nat}{ha hb:Int}(x:Rc #[a,b] a ha)(y:Rc #[a,b] b hb)(i c:Nat) h (h1:#[a,b][i]? =some c) (h2:#[ha,hb][i]? =some h):Rc #[a,b] c h:=
 ack h1 (P:=λi c=>#[ha,hb][i]? =some h->Rc #[a,b] c h) (λe=>zh e▸x) (λe=>zh e▸y) h2
theorem Tab.put{t:ZL}{hs:Array Int}(T:Tab t hs){h:Int}{e:Nat}(F:nO t.place h e)(hr:hs.size<=1):
  Tab {t with place:=Zx t.place (Zt t.place (pj h e)) (pj h e),dummies:=#[]} (Zx hs (Zt t.place (pj h e)) h):=by
 have hj:=MP h e;have hz:=T.size;have hrc:=T.reach;have fin:∀{ys:Array Nat} {ks:Array Int},ys=Zx t.place (Zt t.place (pj h e)) (pj h e)->ks=Zx hs (Zt t.place (pj h e)) h->aF (vj ys) (∀(i a:Nat) h,ys[i]? =some a->ks[i]? =some h->Rc ys a h)->
   Tab {t with place:=Zx t.place (Zt t.place (pj h e)) (pj h e),dummies:=#[]} (Zx hs (Zt t.place (pj h e)) h):=λe1 e2 z=>by
  subst e1;subst e2;exact⟨T.mask,rfl,fO.trans ((congrArg (·+1) T.size).trans fO.symm),z.1,z.2⟩
 have own:∀ys:Array Nat,(∀j,Tk t.place j->Tk ys j)->Rc ys (pj h e) h:=λys k=>⟨e,rfl,λi hi=>k _ (F.bef i hi)⟩;have pl:=T.pl;generalize t.place=xs at*;refine fin rfl rfl ?_;clear fin;cases pl with
 |nil=>
  have:=Array.eq_empty_of_size_eq_zero hz.symm;exact gR this ⟨.one _ hj,λi a h' h1 h2=>acj h1 (P:=λi c=>#[h][i]? =some h'->Rc #[pj h e] c h') (λq=>zh q▸own #[pj h e] λj ⟨_,q⟩=>ns q) h2⟩
 |one a ha=>
  obtain⟨h0,rfl⟩:∃h0,hs=#[h0]:=Array.size_eq_one_iff.mp hz.symm;have r:=hrc 0 a h0 rfl rfl;refine gR (r9 ..) ?_;by_cases c:a<pj h e
  ·refine gR (if_pos c ..) ?_
   have k:∀j,Tk #[a] j->Tk #[a,pj h e] j:=λj q=>⟨0,congrArg some (tk1 q).symm⟩;exact⟨.two _ _ c hj,GG (r.au k) (own _ k)⟩
  ·refine gR (if_neg c ..) ?_
   have k:∀j,Tk #[a] j->Tk #[pj h e,a] j:=λj q=>⟨1,congrArg some (tk1 q).symm⟩;exact⟨.two _ _ (Nat.lt_of_le_of_ne (ZS c) λq=>(F.emp) ⟨0,congrArg some q.symm⟩) ha,GG (own _ k) (r.au k)⟩
 |two a b _ _=>exact absurd (zk (zO hz) hr) (by decide:¬2<=1)
section
theorem sj n {l:aA} {v:zo} (h:mz l v=true):∃b,hashByValue n v=pure b:=by
 cases v with
 |int i t=>exact⟨true,by cases n <;> rfl⟩
 |str x t=>exact⟨false,by cases n <;> rfl⟩
 |_=>cases l <;> cases h
theorem uJ{Q:Bool->zt->Prop}(hk:nQ s.heap ks a)(h:∀b,Q b s):zx (zv prog w) A (hashByValue 8 (.ref a)) Q E s:=by
 have hT:=hk.typeIs;obtain⟨o,items,n,ho,_,hd,hi⟩:=hk;refine zf (wpAny_specialOf hT F.slot_tuple_hash.lookup ?_);refine zf (wpAny_seqItems ho hd ?_);have all:∀v∈items.toList,∀n,∃b,hashByValue n v=pure b:=by
  have go:∀{ks:List aA} {vs:List zo},ItemsAre (aE) ks vs->∀v∈vs,∀n,∃b,hashByValue n v=pure b:=by
   intro ks vs h
   induction h with
   |nil=>intro v hv;cases hv
   |cons h1 _ ih=>
    intro v hv n;rcases zK.mp hv with rfl |hv
    ·exact sj n h1
    ·exact ih v hv n
  exact go hi
 refine zf (?_:zx _ _ (forIn items _ _) _ _ s);refine gL ad3 (wpAny_forIn_list _ (λrest r s'=>r.1=none/\s'=s/\∀v∈rest,∀n,∃b,hashByValue n v=pure b) _ ?_ ?_ _ _ ⟨rfl,rfl,all⟩)
 ·rintro v rest r s' ⟨hr,rfl,fM⟩
  obtain⟨b,e⟩:=fM v yx 7;refine gR e (zf (zl ?_));cases b with
  |true=>
   exact iT (by decide) (zl ⟨rfl,rfl,λu PH=>fM u (y5 _ PH)⟩)
  |false=>
   exact NP rfl (zl (zl (h _)))
 ·rintro ⟨r1,r2⟩ s' ⟨hr,rfl,_⟩
  simp only at hr;exact gR hr (zl (h _))
end
section
theorem AJ{es:Array (Int×zo)}{t:ZL}(ho:h.get? S=some (nR es ep t))(hk:nQ h ks a):a≠S:=by refine ze hk λo WQ=>?_;obtain⟨_,_,fK,hc,_⟩:=WQ;rintro rfl;rw[ho] at fK;obtain rfl:=zh fK;exact absurd hc (show ¬(ZF "set"=ZF "tuple") by decide)
theorem uK(k:∀b o,b≠S->h.get? b=some o->h'.get? b=some o)(hs:a≠S)(hk:nQ h ks a):nQ h' ks a:=by refine ze hk λo JK=>(ze JK λi j4=>(ze j4 λn oZ=>(zg (λfK r=>?_) oZ)));exact⟨o,i,n,k _ _ hs fK,r⟩
theorem KP{es:Array (Int×zo)}{t:ZL}(hu:A.units<yA)(hk:nQ s.heap ks a)(X:dJ s.heap xs es t)
  (ho:s.heap.get? S=some (nR es ep t)) (hr:ks∉xs.map (·.1)->xs.length<=1) {Q:Bool->zt->Prop} (h1:ks∈xs.map (·.1)->Q false s)
  (h2:ks∉xs.map (·.1)->∀h' RE t' xs',(∀b o,b≠S->s.heap.get? b=some o->h'.get? b=some o)->h'.get? S=some (nR RE (ep+1) t')->dJ h' xs' RE t'->xs'.Perm ((ks,a)::xs)->t'.led=t.led->Q true {s with heap:=h'}):
  zx (zv prog w) A (setAddHashed S (.ref a) (tH ks)) Q E s:=by
 refine ze (GB X.tab.pl (tH ks)) λe F=>?_;have key:∀R:SetFound->zt->Prop,(ks∈xs.map (·.1)->R (.there none) s)->(ks∉xs.map (·.1)->R (.free (pj (tH ks) e) false) s)->zx (zv prog w) A (setSearch S (.ref a) (tH ks) true) R E s:=λR r1 r2=>
  uI hu hk X ho F r1 r2 100000 (zE _) (zM F.lt (by decide)) (pC X.tab.mask _) λk i y hk=>absurd hk (Zw _)
 refine zT (zf (wpAny_setState_of ho rfl X.fits ?_));dsimp only;refine iT (zi) (zf (key _ (λhm=>zl (h1 hm)) λhm=>?_));refine zf (wpAny_setState_of ho rfl X.fits ?_);have sz:=X.size;have T':=X.tab.put F ((Y2 ..).symm▸sz▸hr hm);refine gR (PL X.tab.WO ..) ?_;rw[←si (f:=λe:Int×zo=>e.1) (x:=(tH ks,Zm a))] at T';generalize Zt t.place (pj (tH ks) e)=p at*;generalize ve:Zx es p (tH ks,Zm a)=ne at*;have WR:ne.toList=(xs.take p++(ks,a)::xs.drop p).map (KN):=by refine gL ve (gR (yC ..) (gR X.RH ?_));refine gR yc (gR Zo ?_);refine gR List.map_take (gR List.map_drop ?_);rfl
 have perm:(xs.take p++(ks,a)::xs.drop p).Perm ((ks,a)::xs):=List.perm_middle.trans (by rw[Yu]);have esz:ne.size<=2:=by refine gL ve (gR fO (gR sz ?_));exact zw (hr hm)
 have fin:∀t':ZL,t'.mask=t.mask->t'.place=Zx t.place p (pj (tH ks) e)->t'.dummies=#[]->t'.led=t.led->
   zx (zv prog w) A (do
    storeSet S ne t'
    if(!false&&t'.tooFull)=true then do setRelay S (SetTable.grown (es.size+1));pure true else pure true) Q E s:=λt' e1 e2 e3 e4=>by
  have T2:=T'.same e1 e2 e3;refine zf (wpAny_storeSet_of ho rfl ?_ (zk esz (by decide)));have hf:t'.tooFull=false:=by unfold SetTable.tooFull SetTable.fill;refine gR T2.WO (gR T2.mask ?_);exact decide_eq_false (Nat.not_le_of_lt (zM (YF 5 T2.pl.size) (by decide)))
  refine gR hf ?_;have hg:(s.heap.update S (Obj.putSet ne t')).get? S=some (nR ne (ep+1) t'):=by have:=Ze (Obj.putSet ne t') ho (gR (putSet_of _ t' rfl ..) rfl);rw[putSet_of _ t' rfl] at this;exact this
  have kp:∀b o,b≠S->s.heap.get? b=some o->(s.heap.update S (Obj.putSet ne t')).get? b=some o:=λb o hb e=>(ZG _ _ _ _ hb).trans e;refine zl (h2 hm _ _ t' _ kp hg ⟨WR,T2,λy hy=>(zK.mp (perm.mem_iff.mp hy)).elim (λq=>?_) λq=>uK kp (AJ ho (X.keys _ q)) (X.keys _ q),(perm.map (·.1)).nodup_iff.mpr (ZR.mpr ⟨hm,X.nd⟩)⟩ perm e4);exact gR q (uK kp (AJ ho hk) hk)
 split
 ·refine zf (uJ hk λb=>?_)
  cases b with
  |true=>exact fin _ rfl rfl rfl rfl
  |false=>exact fin _ rfl rfl rfl rfl
 ·exact zf (zl (fin _ rfl rfl rfl rfl))
end
theorem lp0{n:Nat}(hk:n - i=0)(hi:i<=n):i=n:=yS hi (Nat.sub_eq_zero_iff_le.mp hk)
theorem lp1{n k:Nat}(hk:n - i=k+1):i<n:=Nat.lt_of_sub_eq_succ hk
theorem lp2{n k:Nat}(hk:n - i=k+1):n - (i+1)=k:=congrArg Nat.pred hk
abbrev hG(ks:List aA):D:=.tuple (ks.map aV)
theorem wV{p:D}(h:j8 p=true):∃ks,p=hG ks:=by obtain⟨k,ks,ub⟩:=f5 h;refine gR ub ?_;exact⟨(k::ks).map .s,congrArg yq (ye (f:=aA.s) (g:=aV)).symm⟩
theorem sr{l:List D}(h:l.all j8=true):∃kl:List (List aA),l=kl.map hG:=by
 induction l with
 |nil=>exact⟨[],rfl⟩
 |cons p r ih=>
  refine zg (λh1 h2=>?_) (aa h);refine ze (wV h1) λks i9=>(gR i9 ?_);refine ze (ih h2) λkl PM=>(gR PM ?_);exact⟨ks::kl,rfl⟩
theorem nS:∀kl:List (List aA),∃dl:List (List aA),aG (dedup (kl.map hG)=dl.map hG) dl.Nodup (∀k,k∈dl↔k∈kl)
 |[]=>⟨[],rfl,.nil,λ_=>Iff.rfl⟩
 |k::r=>by
  refine ze (nS r) λdl wu=>?_;obtain⟨e,nd,m⟩:=wu;refine⟨k::dl.filter (λj=>!decide (j=k)),?_,?_,λj=>?_⟩
  ·refine(?_:hG k::(dedup (r.map hG)).filter (λy=>!PyData.eqv y (hG k))=_)
   refine gR e (gR List.filter_map (gR Zo ?_))
   congr 2
   refine List.filter_congr λj _=>(?_:(!PyData.eqv (hG j) (hG k))=_);exact gR (jE ..) rfl
  ·refine ZR.mpr ⟨by simp,nd.sublist adT⟩
  ·simp only[zK,Zn,m,Yt,decide_eq_false_iff_not]
   by_cases q:j=k <;> simp[q]
section
def pD(L:cT)(h:yi)(S:zJ)(kl:List (List aA)):Prop:=
 NN λxs es ep t=>eX (h.get? S=some (nR es ep t)) (∀x∈xs,DR L (hG x.1) (.ref x.2)) (∀h':yi,Sub L h'.get?->dJ h' xs es t) (t.led=!(w.params.followText "set-order")) (∀k,k∈xs.map (·.1)↔k∈kl)
theorem pD.at_{kl:List (List aA)}(x:pD L h S kl)(k:∀o,h.get? S=some o->h'.get? S=some o):pD L h' S kl:=by obtain⟨xs,es,ep,t,a,b,d,e,g⟩:=x;exact⟨xs,es,ep,t,k _ a,b,d,e,g⟩
theorem GH{kl:List (List aA)}(hu:A.units<yA)(hL:Sub L s.heap.get?)(hn:L S=none)(d:DR L (hG ks) v)(X:pD L s.heap S kl)
  (hm:∃dl:List (List aA),aG (dl.length<=2) (ks∈dl) (∀k∈kl,k∈dl)) {Q:Bool->zt->Prop}
  (h:∀b h' tk,(∀b o,b≠S->s.heap.get? b=some o->h'.get? b=some o)->pD L h' S (kl++[ks])->Q b {s with heap:=h',toks:=tk}):zx (zv prog w) A (setAdd S v) Q E s:=by
 refine ze (kz (d.sub hL)) λa jb=>?_;obtain⟨rfl,hk⟩:=jb;obtain⟨xs,es,ep,t,ho,dx,X,led,me⟩:=X;obtain⟨dl,h4,h5,h6⟩:=hm;refine zT (zf ((tupleKind (aE)).pyHash hu hk ?_));refine KP (s:={s with toks:=s.toks+(tupleKind (aE)).draws ks}) hu hk (X _ hL) ho (λO5=>?_) (λhm=>?_) λhm h' RE t' xs' kp fK X' pm l'=>?_
 ·have:=(ZR.mpr ⟨O5,(X _ hL).nd⟩).length_le_of_subset λk hk=>by
   rcases zK.mp hk with rfl |hk
   ·exact h5
   ·exact h6 k ((me k).mp hk)
  exact Za (zk (zA (f:=λx:List aA×zJ=>x.1)▸this) h4)
 ·refine h _ s.heap _ (λ_ _ _ e=>e) ⟨xs,es,ep,t,ho,dx,X,led,λk=>?_⟩
  rw[me,Zi,zX];refine⟨.inl,λq=>?_⟩;rcases q with q |rfl
  ·exact q
  ·exact(me k).mp hm
 ·refine h _ h' _ kp ⟨xs',RE,ep+1,t',fK,λx hx=>?_,λh2 hL2=>⟨X'.RH,X'.tab,λx hx=>?_,X'.nd⟩,l'.trans led,λk=>?_⟩
  ·rcases zK.mp (pm.mem_iff.mp hx) with rfl |hx
   ·exact d
   ·exact dx x hx
  ·have dd:DR L (hG x.1) (.ref x.2):=by
    rcases zK.mp (pm.mem_iff.mp hx) with rfl |hx
    ·exact d
    ·exact dx x hx
   refine ze (kz (dd.sub hL2)) λa' lL=>?_;obtain⟨e,qf⟩:=lL;cases e;exact qf
  ·rw[(pm.map (·.1)).mem_iff,Zo,zK,me,Zi,zX]
   exact Or.comm
theorem GJ(hh:A.handled=none)(hu:A.units+1<yA){it:zJ}{tb:Bool}{n:Nat}{kl:List (List aA)}(hS:L S=none)(hI:L it=none)(h1:S≠it)(h2:ax≠S)(h3:ax≠it)
  (ds:aU L (kl.map hG) vs) (hm:∃dl:List (List aA),dl.length<=2/\∀k∈kl,k∈dl) {R:yX->zt->Prop}:
  ∀(k i:Nat) s,kl.length - i=k->i<=kl.length->Sub L s.heap.get?->s.heap.get? ax=some (dj tb vs n)->bP s.heap it ax i tb->pD L s.heap S (kl.take i)->
   (∀h' tk,(∀b o,b≠S->b≠it->s.heap.get? b=some o->h'.get? b=some o)->pD L h' S kl->R (.ok (.ret .none)) {s with heap:=h',toks:=tk})->
   ZH (zv prog w) A (.builtin "set.update.loop" ⟨[.ref S,.ref it],[]⟩) R s:=by
 intro k
 induction k with
 |zero=>
  intro i s hk hi hL ha hit X hR;have vi:=lp0 hk hi;subst vi;rw[Yz] at X;refine codeAny_builtin F.entry_set_update_loop (gR (ZC F.plain_set_update_loop _ ..) (zf (nu (A:=A.in1) hh hit ha (Zs (zO (gR ds.length (gR (zA ..) rfl)))) λh' he=>?_)));exact zl (hR h' s.toks (λb o _ hb e=>he b o hb e) (X.at_ λo e=>he S o h1 e))
 |succ k ih=>
  intro i s hk hi hL ha hit X hR;have vX:=lp1 hk;refine ze (ds.get (by refine gR Zd (gR (zB vX ..) ?_);rfl)) λv kL=>?_;refine codeAny_builtin F.entry_set_update_loop ?_;refine gR (ZC F.plain_set_update_loop _ ..) (zf (kO hit ha kL.1 λh' ua vf=>?_));refine(?_:zx _ A.in1 (holding [v] (setAdd S v) >>=_) _ _ _);have kp:=λb o hb e=>vf.extBut b o hb e;have hL':Sub L h'.get?:=λb o e=>kp b o (by rintro rfl;replace e:=hI▸e;cases e) (hL _ _ e);refine ze hm λdl j4=>(zf (zT (GH hu hL' hS kL.2 (X.at_ λo e=>kp S o h1 e) ⟨dl,j4.1,j4.2 _ (ads vX),λk hk=>j4.2 k (YE hk)⟩ λb qZ tk RI X2=>?_)));refine zl ⟨plainId_quiet F.plain_set_update_loop _,ih (i+1) _ (lp2 hk) vX (λb o e=>RI b o (by rintro rfl;replace e:=hS▸e;cases e) (hL' b o e)) (RI ax _ h2 (kp ax _ h3 ha)) (ua.at_ λo e=>RI it o (Z8 h1) e) (by refine gR adM (gR (zB vX ..) ?_);exact X2) λh3 tk3 kp3 X3=>?_⟩;exact hR h3 tk3 (λb o b1 b2 e=>kp3 b o b1 b2 (RI b o b1 (kp b o b2 e))) X3
end
variable{kl:List (List aA)}
section
abbrev cP:Obj:=nR #[] 0 (.fresh 0 0 (!(w.params.followText "set-order")))
theorem KQ a {WT:zo->zt->Prop} (h:WT (.ref s.heap.objs.size) {s with heap:=s.heap.push (cP)}):
  ZH (zv prog w) A (.call (.builtin "set.__new__") ⟨[.type "set",a],[]⟩) (wants WT E) s:=by
 refine codeAny_of_tree ?_;show zx _ A.in1 (do checkBuiltinCall "set.__new__" ⟨[.type "set",a],[]⟩;again (.builtin "set.__new__" ⟨[.type "set",a],[]⟩)) _ _ s;refine zf (wpAny_of_eq (F.newCall_set_1 a) (zl ⟨plainId_quiet F.plain_set_new _,codeAny_builtin F.entry_set_new ?_⟩));refine gR (ZC F.plain_set_new _ ..) ?_;have PD:=sub_set_self;obtain⟨hp,g,d,tk,os⟩:=s
 wp_walk
 refine wpAny_askSetting (zl ?_);simp only[newObj];refine zf (wpAny_alloc (zl ?_));exact zl h
theorem pE:adA (.type "tuple") (.type "set")=pure false:=by refine gR (isSubtype_type ..) ?_;kernel_rfl
theorem iP:adA (.type "tuple") (.type "frozenset")=pure false:=by refine gR (isSubtype_type ..) ?_;kernel_rfl
theorem KS{c:String}(hT:s.TypeIs (.ref ax) c)(h1:adA (.type c) (.type "set")=pure false)(h2:adA (.type c) (.type "frozenset")=pure false){Q:Bool->zt->Prop}(q:Q false s):
  zx (zv prog w) A (Builtin.Frozenset.isAnySet (.ref ax)) Q E s:=by
 refine zf (wpAny_isInstance hT h1 ?_);exact wpAny_isInstance hT h2 q
theorem GK{tb:Bool}{n:Nat}(hs:s.heap.get? ax=some (dj tb vs n)){Q:zt->Prop}
  (loop:ZH (zv prog w) A (.builtin "set.update.loop" ⟨[.ref S,.ref s.heap.objs.size],[]⟩) (λr s'=>r=.ok (.ret .none)/\Q s') {s with heap:=s.heap.push (PC tb ax)}):
  zx (zv prog w) A (yj "set.__init__" S (.ref ax)) (λ_ s'=>Q s') E s:=by
 have go:∀c:String,s.TypeIs (.ref ax) c->adA (.type c) (.type "set")=pure false->adA (.type c) (.type "frozenset")=pure false->(ZF c==ZF "dict")=false->
   zx (zv prog w) A (yj "set.__init__" S (.ref ax)) (λ_ s'=>Q s') E s:=λc hT h1 h2 h3=>by
  refine zf (KS hT h1 h2 ?_);refine iT zi (zf (wpAny_typeOf hT ?_));refine gR h3 (gR (if_neg zi ..) ?_);refine zf (nM hs (zf (wpAny_runValue (codeAny_mono loop λr s' x=>?_))));exact gR x.1 (zl x.2)
 cases tb with
 |false=>exact go "list" ⟨_,hs,rfl⟩ F.sub_list_set F.sub_list_frozenset rfl
 |true=>exact go "tuple" ⟨_,hs,rfl⟩ pE iP rfl
theorem gK(h:yi):(h.push (cP)).get? h.objs.size=some (cP):=zq _ rfl
theorem pF{Q:YQ->zt->Prop}(hT:s.TypeIs (.ref S) "set")(ho:s.heap.get? S=some cP)(h:zx (zv prog w) A (yj "set.__init__" S (.ref ax)) (λ_ s'=>Q (.done (.ret .none)) s') E s):
  zx (zv prog w) A (Yc.«set.__init__» ⟨[.ref S,.ref ax],[]⟩) Q E s:=by
 unfold Yc.«set.__init__» noKeywords;generalize hU:yj=U
 wp_walk
 subst hU;exact zI h (λ_ s' q=>zl q) λ_ _ e=>e
set_option maxHeartbeats 3200000 in
theorem uL{tb:Bool}{n:Nat}(hs:s.heap.get? ax=some (dj tb vs n))
  (loop:ZH (zv prog w) A.in1.in1 (.builtin "set.update.loop" ⟨[.ref s.heap.objs.size,.ref (s.heap.push (cP)).objs.size],[]⟩) (λr s'=>r=.ok (.ret .none)/\Q (.ref s.heap.objs.size) s')
   {s with heap:=(s.heap.push (cP)).push (PC tb ax)}):
  zx (zv prog w) A (call (.type "set") [.ref ax]) Q E s:=by
 refine ze (F.called_set.mro) λc kj=>(ze kj λtl acm=>?_);have WU:=F.called_set.made;have PD:=F.called_set.sub;refine wpAny_call (codeAny_of_tree ?_);refine zl ⟨Yk _ (by decide+kernel),codeAny_builtin F.entry_type_call ?_⟩;refine gR (Around.under_plain (weight_type_call_type "set" [.ref ax] []) rfl ..) ?_;refine(?_:zx _ _ (checkTypeCall "set" ⟨[.ref ax],[]⟩ >>=_) _ _ _);refine zf (wpAny_of_eq (F.typeCall_set_1 (.ref ax)) (zf (wpAny_of_eq acm ?_)));refine zf (wpAny_of_eq WU (zf (zl (zf (zT (wpAny_runValue ?_))))));refine(?_:ZH _ _ _ (wants _ E) _);refine KQ (.ref ax) ?_;have hT:Shared.TypeIs {s with heap:=s.heap.push (cP)} (.ref s.heap.objs.size) "set":=⟨_,(gK s.heap),rfl⟩;refine zf (wpAny_isInstance hT PD (zf (zT (ZJ hT F.called_set.init (wpAny_call ?_)))));refine codeAny_call_builtin F.called_set.init.plain F.entry_set_init (check_set_init_1 hT ?_);refine pF hT (gK s.heap) ?_;have vf:({s with heap:=s.heap.push (cP)}:zt).heap.get? ax=some (dj tb vs n):=zj _ hs;exact zI (GK vf loop) (λ_ s' q=>zl q) λ_ _ e=>e
end
theorem bj:PySem.Slot "set_iterator" "__next__" "set_iterator.__next__":=
 .of (owner:="set_iterator") (n:="__next__") (by refine gR (typeLookup_type ..) (gR builtinLookup_eq_fast ?_);kernel_rfl) (by decide+kernel) (by decide+kernel) (by decide+kernel)
  (by first |exact .inl (by decide+kernel) |exact .inr (by decide+kernel)) (by refine gR (isSubtype_type ..) ?_;kernel_rfl)
theorem gd:entryFor table "set_iterator.__next__"=some Yc.«set_iterator.__next__»:=entryFor_of_tree (by kernel_rfl)
theorem gM a:argsOk "set_iterator.__next__" ⟨[a],[]⟩:=by unfold argsOk;kernel_rfl
theorem nT:entryFor table "set.__iter__"=some Yc.«frozenset.__iter__»:=entryFor_alias (id':="frozenset.__iter__") (by kernel_rfl) rfl (by decide+kernel) (by kernel_rfl)
theorem ji:∀{l:List α} {i:Nat} {x:α},l[i]? =some x->(x::l.eraseIdx i).Perm l
 |[],i,x,h=>by simp at h
 |y::r,0,x,h=>by
  simp only[yE,Yp] at h;subst h;exact .refl _
 |y::r,i+1,x,h=>by
  simp only[yF] at h;exact(List.Perm.swap y x _).trans ((ji h).cons y)
theorem CY{next:Nat->Nat}{n k:Nat}{left:List α}{x:α}(h:left[next k%left.length]? =some x)(out:Array α):pickOrder.go next (n+1) k left out=pickOrder.go next n (k+1) (left.eraseIdx (next k%left.length)) (out.push x):=by refine(?_:(match left[next k%left.length]? with |some x=>pickOrder.go next n (k+1) (left.eraseIdx (next k%left.length)) (out.push x) |none=>out)=_);exact gR h rfl
theorem AL(next:Nat->Nat):∀(n k:Nat) (left:List α) (out:Array α),n=left.length->(pickOrder.go next n k left out).toList.Perm (out.toList++left)
 |0,_,left,out,h=>by
  have:left=[]:=YD h.symm;refine gR this ?_;refine gR (YM ..) ?_;exact .refl _
 |n+1,k,left,out,h=>by
  have hl:next k%left.length<left.length:=ad9 _ (h▸Zu n)
  refine(CY (zB hl) ..).symm▸?_;refine(AL next n (k+1) _ _ (by refine gR (adE ..) ?_;refine gR (if_pos hl ..) ?_;exact congrArg Nat.pred h)).trans ?_;refine gR (Array.toList_push ..) ?_;refine gR (List.append_assoc ..) ?_;refine gR (List.singleton_append ..) ?_;exact List.Perm.append_left _ (ji (zB hl))
theorem CZ next (xs:Array α):(pickOrder next xs).toList.Perm xs.toList:=AL next xs.size 0 xs.toList #[] rfl
theorem jT{f:α->β}:∀{xs:List α} {l:List β},l.Perm (xs.map f)->∃ys:List α,ys.Perm xs/\l=ys.map f
 |[],l,h=>⟨[],.nil,List.Perm.eq_nil h⟩
 |x::r,l,h=>by
  refine ag λ_ k=>(ze (List.append_of_mem (h.mem_iff.mpr (yx))) λa o9=>?_);obtain⟨b,rfl⟩:=o9;refine ze (jT ((YC.symm.trans h).cons_inv)) λys kL=>(ze (List.map_eq_append_iff.mp kL.2.symm) λy1 qX=>?_);obtain⟨y2,rfl,rfl,rfl⟩:=qX;exact k ⟨y1++x::y2,List.perm_middle.trans (kL.1.cons x),by simp⟩
section
theorem wp_choose{src:Source}{n:Nat}{Q:Nat->zt->Prop}(hn:n≠0)(h:∀i d,i<n->Q i {s with drawn:=d}):zx (zv prog w) A (choose src n) Q E s:=
 λ_ _ _=>⟨hn,h _ _ (ad9 _ (Nat.pos_of_ne_zero hn))⟩
theorem AM:∀n (xs:List α) s Q,n=xs.length->(∀ys d,ys.Perm xs->Q ys {s with drawn:=d})->zx (zv prog w) A (drawOrder n xs) Q E s
 |0,xs,s,Q,h,q=>by
  have:=YD h.symm;subst this;exact zl (q [] s.drawn .nil)
 |n+1,[],s,Q,h,q=>by cases h
 |n+1,x::r,s,Q,h,q=>by
  refine zf (wp_choose (by simp) λi d hi=>?_);refine gR (zB hi ..) ?_;refine zf (AM n _ _ _ (by refine gR adE (gR (if_pos hi ..) ?_);exact congrArg Nat.pred h) λys d2 p=>zl (q _ _ ?_));exact(p.cons _).trans (ji (zB hi))
def jU(es:Array (Int×zo))(ep:Nat)(t:ZL)(S I:zJ)(ord:List (Int×zo))(i:Nat)(h:yi):Prop:=
 ∃first,aG (h.get? I=some {cls:=.type "set_iterator",data:=.fields #[first,.int i 0,.ref S,.int es.size 0,.int ep 0]}) (h.get? S=some (nR es ep t)) ((c8 λ(P:zJ) (ps:List Nat)=>eX (first=.ref P) (P≠I) (h.get? P=some (fJ (ps.map λ(n:Nat)=>rawInt n) 0)) (ps.length=es.size) (∀(j p:Nat),ps[j]? =some p->∃e,es[p]? =some e/\ord[j]? =some e))\/
   ∃slot:Nat,aG (first=.int slot 0) (w.params.followText "set-order"=true->ord=(pickOrder (w.params.setOrder S ep) es).toList) (w.params.followText "set-order"=false->(!t.plain&&decide (es.size>1))=false/\t.led=true/\Zt t.place slot=i/\ord=es.toList))
theorem jU.at_{es:Array (Int×zo)}{t:ZL}{ord:List (Int×zo)}(k:∀b o,(b=I\/b=S\/∃P,b=P/\c8 λvs n=>h.get? P=some (fJ vs n))->h.get? b=some o->h'.get? b=some o)(x:jU es ep t S I ord i h):jU es ep t S I ord i h':=by
 refine ze x λf qW=>?_;obtain⟨a,b,c⟩:=qW;refine⟨f,k _ _ (.inl rfl) a,k _ _ (.inr (.inl rfl)) b,?_⟩;rcases c with⟨P,ps,h1,h2,h3,h4,h5⟩ |c
 ·exact .inl ⟨P,ps,h1,h2,k _ _ (.inr (.inr ⟨P,rfl,_,_,h3⟩)) h3,h4,h5⟩
 ·exact .inr c
theorem GL{es:Array (Int×zo)}{t:ZL}(X:dJ s.heap xs es t)(ho:s.heap.get? S=some (nR es ep t))(led:t.led=!(w.params.followText "set-order"))(hz:es.size<=4096)
   (h:∀I h' d ord,s.heap.objs.size<=I->(∀b o,s.heap.get? b=some o->h'.get? b=some o)->jU es ep t S I ord 0 h'->ord.Perm es.toList->Q (.ref I) {s with heap:=h',drawn:=d}):
  zx (zv prog w) A (pyIter (.ref S)) Q E s:=by
 have hT:s.TypeIs (.ref S) "set":=⟨_,ho,rfl⟩;refine wpAny_pyIter_slot hT F.slot_set_iter (wpAny_call_entry F.slot_set_iter hT nT ?_ (F.args_set_iter_1 _));refine zf (zf (zl (zl ?_)));refine zf (zf (zf (wpAny_setState_of ho rfl X.fits (zl (zl ?_)))));dsimp only;unfold setDrawn setsByText;refine zf (zf (wpAny_setState_of ho rfl X.fits ?_));refine zf (zf (wpAny_askSetting (zl (zl ?_))));refine wpAny_ite_split (λc=>?_) λc=>?_
 ·refine zf (AM es.size _ _ _ (by simp) λys d p=>?_)
  have hl:ys.length=es.size:=gR p.length_eq (gR yl rfl);refine zf (wpAny_newTuple ?_ (by refine gR (zA ..) (gR hl ?_);exact bc hz));have fK:(s.heap.push {cls:=.type "tuple",data:=.seq (ys.map λ(i:Nat)=>rawInt i).toArray}).get? S=some (nR es ep t):=zj _ ho;refine zf (wpAny_setEpoch_of (s:={s with drawn:=d,heap:=s.heap.push {cls:=.type "tuple",data:=.seq (ys.map λ(i:Nat)=>rawInt i).toArray}}) fK rfl X.fits ?_);refine zf (wpAny_newObj_type (zl ⟨_,rfl,"set_iterator",_,⟨_,zq _ rfl,rfl⟩,bj.lookup,?_⟩));refine h _ _ d (ys.map λp=>(es[p]?).getD default) (gR (Zp ..) (zN _)) (λb o e=>zj _ (zj _ e)) ⟨_,zq _ rfl,zj _ fK,.inl ⟨_,ys,rfl,zU (zZ (zq _ rfl)),zj _ (zq _ rfl),hl,λj q e=>?_⟩⟩ ?_
  ·have:=adI.mp (p.mem_iff.mp (zy e))
   refine⟨es[q],fi this,?_⟩;refine gR Zd (gR e ?_);refine gR (yQ ..) (gR (fi this ..) ?_);rfl
  ·refine(p.map _).trans (.of_eq ?_)
   apply Y9;intro i;refine gR Zd ?_;rw[show es.toList[i]? =es[i]? from ZX];by_cases hi:i<es.size
   ·refine gR (Yb hi ..) ?_;refine gR (yQ ..) (gR (fi hi ..) ?_);rfl
   ·refine gR (Zs (by simpa using hi) ..) (gR (Array.getElem?_eq_none (ZS hi) ..) ?_);rfl
 ·refine zf (zl (zf (wpAny_setEpoch_of ho rfl X.fits ?_)))
  refine zf (wpAny_newObj_type (zl ⟨_,rfl,"set_iterator",_,⟨_,zq _ rfl,rfl⟩,bj.lookup,?_⟩));have c':w.params.followText "set-order"=true\/(w.params.followText "set-order"=false/\(!t.plain&&decide (es.size>1))=false):=by
   cases hb:w.params.followText "set-order" with
   |true=>exact .inl rfl
   |false=>
    refine .inr ⟨rfl,?_⟩;cases hd:(!t.plain&&decide (es.size>1)) with
    |false=>rfl
    |true=>
     refine absurd ?_ c;refine(?_:(!(w.params.followText "set-order")&&(!t.plain&&decide (es.size>1)))=true);refine gR hb (gR hd ?_);rfl
  rcases c' with b |⟨b,d⟩
  ·exact h _ _ s.drawn _ (zm _) (λb o e=>zj _ e) ⟨_,zq _ rfl,zj _ ho,.inr ⟨0,rfl,λ_=>rfl,λz=>by rw[b] at z;cases z⟩⟩ (CZ _ _)
  ·refine h _ _ s.drawn _ (zm _) (λb o e=>zj _ e) ⟨_,zq _ rfl,zj _ ho,.inr ⟨0,rfl,λz=>(by rw[b] at z;cases z),λ_=>⟨d,by refine gR led (gR b ?_);rfl,?_,rfl⟩⟩⟩ (.refl _)
   exact X.tab.pl.PF
end
variable{ord:List (Int×zo)}
section
theorem eV{vs:Array zo}{x:zo}{Q:Unit->zt->Prop}(ho:s.heap.get? I=some {cls:=.type "set_iterator",data:=.fields vs})(hi:i<vs.size)
  (h:∀h',ZN I s.heap h'->h'.get? I=some {cls:=.type "set_iterator",data:=.fields (vs.setIfInBounds i x)}->Q () {s with heap:=h'}):zx (zv prog w) A (setField (.ref I) i x) Q E s:=by
 refine wpAny_setField ho rfl hi (h _ (ZU ..) ?_);refine gR (Ze _ ho (Z1 (ZO rfl _)) ..) ?_;rfl
theorem PN(hh:A.handled=none)(MR:S≠I){es:Array (Int×zo)}{t:ZL}(tab:Tab t (es.map (·.1)))(fits:t.fits es.size=true)(hl:ord.length=es.size)
  (st:jU es ep t S I ord i s.heap) {Q:YQ->zt->Prop} (hQ:∀e,ord[i]? =some e->∀h',ZN I s.heap h'->jU es ep t S I ord (i+1) h'->Q (.done (.ret e.2)) {s with heap:=h'})
  (h0:ord[i]? =none->∀h' e,yT I s.heap h'->(∃o,h'.get? e=some o/\o.cls=.type "StopIteration")->E (.ref e) {s with heap:=h'}):zx (zv prog w) A (Yc.«set_iterator.__next__» ⟨[.ref I],[]⟩) Q E s:=by
 refine ze st λfirst mX=>?_;obtain⟨hI,hS,kind⟩:=mX;refine zf (zl (zf (wpAny_fieldsOf hI rfl ?_)));dsimp only;unfold setEntries;refine zf (zf (wpAny_setState_of hS rfl fits (zl ?_)));refine iT (by simp) ?_;have stop:∀h1,yT I s.heap h1->ord[i]? =none->zx (zv prog w) A (do let e ←newExc (.type "StopIteration") [];raiseNew (α:=YQ) e) Q E {s with heap:=h1}:=λh1 k1 hn=>kE hh λh2 e k2 ho=>h0 hn h2 e (λb o hb e=>k2 b o (k1 b o hb e)) ho;rcases kind with⟨P,ps,rfl,hPI,hP,hps,hpo⟩ |⟨slot,rfl,kt,kl⟩
 ·refine zf (wpAny_seqItems hP rfl ?_)
  dsimp only;cases hp:ps[i]? with
  |some p=>
   have e1:(ps.map λ(n:Nat)=>rawInt n).toArray[(i:Int).toNat]? =some (.int p 0):=by refine gR (yB ..) (gR yw ?_);refine gR Zd (gR hp ?_);rfl
   refine gR e1 ?_;dsimp only;refine ze (hpo i p hp) λe mK=>(zg (λhe ho=>?_) mK);refine zf (zf (wpAny_setState_of hS rfl fits ?_));refine iT (by simp) (gR (yB ..) (gR he ?_));refine zl (zf (eV hI (by simp) λh' hs hI'=>zl (hQ e ho h' hs ?_)));exact⟨_,hI',hs.extBut S _ MR hS,.inl ⟨P,ps,rfl,hPI,hs.extBut P _ hPI hP,hps,hpo⟩⟩
  |none=>
   have hn:ord[i]? =none:=by exact Zs (hl▸hps▸List.getElem?_eq_none_iff.mp hp)
   have e1:(ps.map λ(n:Nat)=>rawInt n).toArray[(i:Int).toNat]? =none:=by refine gR (yB ..) (gR yw ?_);refine gR Zd (gR hp ?_);rfl
   refine gR e1 (zf (eV hI (zw (zE _)) λh1 s1 hI1=>zf (eV hI1 (by simp) λh2 s2 hI2=>?_)));exact stop h2 (λb o hb e=>s2.extBut b o hb (s1.extBut b o hb e)) hn
 ·have fin:∀next:Nat,(w.params.followText "set-order"=true->ord=(pickOrder (w.params.setOrder S ep) es).toList)->
    (w.params.followText "set-order"=false->(!t.plain&&decide (es.size>1))=false/\t.led=true/\Zt t.place next=i+1/\ord=es.toList)->∀e,ord[i]? =some e->
    zx (zv prog w) A (do setField (.ref I) 0 (rawInt next);setField (.ref I) 1 (rawInt (i+1));ret e.2) Q E s:=λnext k1 k2 e he=>by
   refine zf (eV hI (zw (zE _)) λh1 s1 hI1=>zf (eV hI1 (by simp) λh2 s2 hI2=>zl (hQ e he h2 (s1.trans s2) ?_)));exact⟨_,hI2,s2.extBut S _ MR (s1.extBut S _ MR hS),.inr ⟨next,rfl,k1,k2⟩⟩
  have non:ord[i]? =none->zx (zv prog w) A (do setField (.ref I) 2 .none;let e ←newExc (.type "StopIteration") [];raiseNew (α:=YQ) e) Q E s:=λhn=>
   zf (eV hI (by simp) λh1 s1 _=>stop h1 (λb o hb e=>s1.extBut b o hb e) hn)
  refine zf (zf (wpAny_setState_of hS rfl fits ?_));refine zf (zf (wpAny_askSetting (zl ?_)));refine wpAny_ite_split (λb=>?_) λb=>?_
  ·have b:w.params.followText "set-order"=true:=b
   refine iT (by simp) (zf (zf (wpAny_setState_of hS rfl fits ?_)));refine zf (zf (wpAny_askSetting (zl ?_)));refine wpAny_ite_split (λ_=>?_) λc=>absurd b c;refine zf (wpAny_askSetting (zl (zl ?_)));have eo:=kt b;have e1:(pickOrder (w.params.setOrder S ep) es)[(i:Int).toNat]? =ord[i]?:=gR eo (gR (yB ..) (gR ZX rfl));refine gR e1 ?_;cases ho:ord[i]? with
   |some e=>exact fin _ kt (λz=>by rw[b] at z;exact nomatch z) e ho
   |none=>exact non ho
  ·have b:w.params.followText "set-order"=false:=abG.mpr b
   refine zg (λd jx=>?_) (kl b);refine zg (λled iM=>?_) jx;refine wpAny_ite_split (λc=>absurd (d.symm.trans c) zi) λ_=>?_;refine zf (iT (by simp[led]) (zl (zl ?_)));refine gR (yB ..) (gR iM.1 ?_);have e1:es[i]? =ord[i]?:=gR iM.2 (gR ZX rfl);have ts:t.place.size=es.size:=gR tab.size (gR Y2 rfl);refine gR e1 ?_;cases ho:ord[i]? with
   |some e=>
    have hi:i<es.size:=gL hl ((zr.mp ho).1);have e2:=fi (ts.symm▸hi);exact gR e2 (fin _ (λz=>by replace z:=b▸z;cases z) (λ_=>⟨d,led,tab.pl.next e2,iM.2⟩) e ho)
   |none=>exact non ho
theorem uM(hh:A.handled=none)(MR:S≠I){es:Array (Int×zo)}{t:ZL}(tab:Tab t (es.map (·.1)))(fits:t.fits es.size=true)(hl:ord.length=es.size)
  (st:jU es ep t S I ord i s.heap) {Q:Option zo->zt->Prop} (hQ:∀e,ord[i]? =some e->∀h',ZN I s.heap h'->jU es ep t S I ord (i+1) h'->Q (some e.2) {s with heap:=h'})
  (h0:ord[i]? =none->∀h',yT I s.heap h'->Q none {s with heap:=h'}):zx (zv prog w) A (pyNext (.ref I)) Q E s:=by
 refine ze st λfirst z=>?_;have hT:s.TypeIs (.ref I) "set_iterator":=⟨_,z.1,rfl⟩;exact zf (wpAny_attempt (ZJ hT bj (wpAny_call_entry bj hT gd (PN (A:=A.in1) hh MR tab fits hl st (λe he h' hs tW=>⟨_,rfl,zl (hQ e he h' hs tW)⟩) λhn h' e k z=>(zf (wpAny_isInstance z isSubtype_stop (zl (h0 hn h' k))))) (gM _))))
end
section
theorem GN(hT:s.TypeIs (.ref S) "set"){Q:Bool->zt->Prop}(h:Q false s):zx (zv prog w) A (Builtin.List.listLengthHint (.ref S)) Q E s:=by
 refine zf (wpAny_specialOf hT PySem.F.slot_set_len.lookup ?_);generalize hid:("set.__len__")=id0
 wp_delta
 rw[show splitId id0=some ("set","__len__") from by subst hid;decide+kernel];subst hid;refine zf (wpAny_isInstance hT sub_set_self ?_);refine wpAny_ite_split (λPj=>absurd Pj (by decide)) (λ_=>?_);refine wpAny_ite_split (λ_=>?_) (λPj=>absurd (by decide+kernel) Pj);refine zf (wpAny_typeOf hT ?_);exact zl h
theorem nU{a b:List zo}{n:Nat}(h:some (aO a n)=some (fJ b m)):False:=
 absurd (congrArg Obj.cls (zh h)) (show ¬(ZF "list"=ZF "tuple") by decide)
theorem GO(hh:A.handled=none){B:zJ}(MR:S≠I)(RJ:B≠I)(WV:B≠S){es:Array (Int×zo)}{t:ZL}(tab:Tab t (es.map (·.1)))(fits:t.fits es.size=true)(hl:ord.length=es.size)(hz:es.size<=4096){res:zo}{R:yX->zt->Prop}:
  ∀(k i:Nat) s c,ord.length - i=k->i<=ord.length->jU es ep t S I ord i s.heap->s.heap.get? B=some (aO ((ord.take i).map (·.2)) c)->
   (∀h' c',(∀b o,b≠B->b≠I->s.heap.get? b=some o->h'.get? b=some o)->h'.get? B=some (aO (ord.map (·.2)) c')->R (.ok (.ret res)) {s with heap:=h'})->
   ZH (zv prog w) A (.builtin "list.extend.loop" ⟨[.ref B,.ref I,res],[]⟩) R s:=by
 intro k
 induction k with
 |zero=>
  intro i s c hk hi st hB hR;have vi:=lp0 hk hi;subst vi;rw[Yz] at hB;refine codeAny_builtin PySem.F.entry_extend_loop (gR (ZC PySem.F.plain_extend_loop _ ..) (zf (uM (A:=A.in1) hh MR tab fits hl st (λe he=>absurd he (by simp)) λ_ h' kb=>?_)));exact zl (hR h' c (λb o _ hb e=>kb b o hb e) (kb B _ RJ hB))
 |succ k ih=>
  intro i s c hk hi st hB hR;have vX:=lp1 hk;refine codeAny_builtin PySem.F.entry_extend_loop (gR (ZC PySem.F.plain_extend_loop _ ..) (zf (uM (A:=A.in1) hh MR tab fits hl st (λe he h' sb tW=>?_) λhn=>absurd hn (by simp[vX]))));have hB':=sb.extBut B _ RJ hB;have ez:((ord.take i).map (·.2)).toArray.push e.2=((ord.take (i+1)).map (·.2)).toArray:=by refine gR adM (gR he ?_);simp
  have tz:(ord.take i).length=i:=by exact gR YB (YT hi)
  refine zf (wpAny_updateSeq hB' rfl (zl ⟨plainId_quiet PySem.F.plain_extend_loop _,?_⟩) (by simp only[zS,zA,tz];exact bc (zk hi (zk (zO hl) hz))) (by simp only[Array.size_push,zS,zA,tz];exact zw (bc (zk hi (zk (zO hl) hz)))));obtain⟨c2,RK⟩:∃c2,(h'.update B (ym (·.push e.2))).get? B=some (aO ((ord.take (i+1)).map (·.2)) c2):=je hB' ez;refine ih (i+1) {s with heap:=h'.update B (ym (·.push e.2))} c2 (lp2 hk) vX (tW.at_ λb o hb e=>?_) RK λh2 c' kb RL=>?_
  ·refine(ZG _ _ _ _ ?_).trans e
   rcases hb with rfl |rfl |⟨P,rfl,vs,n,hp⟩
   ·exact RJ.symm
   ·exact WV.symm
   ·rintro rfl
    exact nU (hB'.symm.trans hp)
  ·exact hR h2 c' (λb o b1 b2 e=>kb b o b1 b2 ((ZG _ _ _ _ b1).trans (sb.extBut b o b2 e))) RL
theorem uN(hh:A.handled=none){es:Array (Int×zo)}{t:ZL}(X:∀h':yi,Sub s.heap.get? h'.get?->dJ h' xs es t)(ho:s.heap.get? S=some (nR es ep t))(led:t.led=!(w.params.followText "set-order"))(hz:es.size<=4096)
  {R:List zo->zt->Prop} (h:∀(ord:List (Int×zo)) s',ae s s'->ord.Perm es.toList->R (ord.map (·.2)) s'):zx (zv prog w) A (collect (.ref S)) R E s:=by
 have acn:=zZ ho;refine zf (wpAny_runValue (codeAny_builtin entry_proto_collect' ?_));refine gR (ZC PySem.F.plain_proto_collect _ ..) (zf (wpAny_newObj_type ?_));refine zl ⟨plainId_quiet PySem.F.plain_list_iadd _,codeAny_builtin entry_list_iadd' ?_⟩;refine gR (ZC PySem.F.plain_list_iadd _ ..) ?_;have GP:(s.heap.push {cls:=.type "list",data:=.seq ([]).toArray}).get? s.heap.objs.size=some (aO [] 0):=zq _ rfl;have g1:Sub s.heap.get? (s.heap.push {cls:=.type "list",data:=.seq ([]).toArray}).get?:=λb o e=>zj _ e;generalize s.heap.push {cls:=.type "list",data:=.seq ([]).toArray}=H at GP g1;generalize hB:s.heap.objs.size=B at*;have WV:=yD acn;have OJ:=g1 _ _ ho;have hT:({s with heap:=H}:zt).TypeIs (.ref S) "set":=⟨_,OJ,rfl⟩;refine(?_:zx _ A.in1 (Builtin.List.listExtendWith (.ref B) (.ref S) (.ref B)) _ _ _);refine zf (wpAny_typeOf hT ?_);have h1:adg (.ref B) (.ref S)=false:=by simp[adg,WV]
 refine wpAny_ite_split (λPj=>absurd Pj (by rw[h1];decide)) (λ_=>?_);have X1:=X H g1;refine zf (GL X1 OJ led hz λI h2 d ord hI k2 st pm=>?_);have RJ:=zU (zF (zZ GP) hI);have RK:=k2 _ _ GP;have fin:∀h3 c,(∀b o,b≠B->h2.get? b=some o->h3.get? b=some o)->h3.get? B=some (aO [] c)->
   ZH (zv prog w) A (.builtin "list.extend.loop" ⟨[.ref B,.ref I,.ref B],[]⟩) (λr s'=>r=.ok (.ret (.ref B))/\c8 λ(ord:List (Int×zo)) c'=>aG (ord.Perm es.toList) (ae s s') (s'.heap.get? B=some (aO (ord.map (·.2)) c'))) {s with heap:=h3,drawn:=d}:=λh3 c k3 RL=>by
  refine GO hh (zU (zF (zZ OJ) hI)) RJ WV X1.tab X1.fits (gR pm.length_eq (gR yn rfl)) hz (ord.length - 0) 0 {s with heap:=h3,drawn:=d} c rfl (zE _) (st.at_ λb o hb e=>k3 b o ?_ e) RL λh4 c' k4 hB4=>?_
  ·rcases hb with rfl |rfl |⟨P,rfl,vs,n,hp⟩
   ·exact RJ.symm
   ·exact WV.symm
   ·rintro rfl
    exact nU (RK.symm.trans hp)
  ·refine⟨rfl,ord,c',pm,⟨λb o e=>?_,rfl,rfl⟩,hB4⟩
   have bB:b≠B:=gL hB (zU (zZ e));exact k4 b o bB (zU (zF (zZ (g1 _ _ e)) hI)) (k3 b o bB (k2 _ _ (g1 _ _ e)))
 have ho2:=k2 _ _ OJ;refine zf (zT (GN (s:={s with heap:=h2,drawn:=d}) ⟨_,ho2,rfl⟩ ?_));refine wpAny_ite_split (λ_=>?_) (λ_=>zl ⟨plainId_quiet PySem.F.plain_extend_loop _,codeAny_mono (fin h2 0 (λ_ _ _ e=>e) RK) λr s' x=>by
  obtain⟨rfl,ord,c',pm,g,e⟩:=x;exact zf (wpAny_load e (zl (h ord _ g pm)))⟩)
 refine zf (wpAny_rule ?_);refine zf (zf (wpAny_updateSeq RK rfl ?_));have RL:=Ze (ym (·.push yp)) RK rfl;exact wpAny_updateSeq RL rfl (zl ⟨plainId_quiet PySem.F.plain_extend_loop _,codeAny_mono (fin _ _ (λb o hb e=>(ZD _ _ (Z8 hb)).trans ((ZD _ _ (Z8 hb)).trans e)) (Ze (ym (·.pop)) RL rfl)) λr s' x=>by
  obtain⟨rfl,ord,c',pm,g,e⟩:=x;exact zf (wpAny_load e (zl (h ord _ g pm)))⟩)
end
section
theorem AN f g:∀{l:List α},(∀x∈l,DR L (f x) (g x))->aU L (l.map f) (l.map g)
 |[],_=>.nil
 |x::r,h=>.cons (h x (.head _)) (AN f g λy hy=>h y (.tail _ hy))
theorem wW(hh:A.handled=none)(hL:Sub L s.heap.get?){dl:List (List aA)}(X:pD L s.heap S kl)(nd:dl.Nodup)(hm:∀k,k∈dl↔k∈kl)(hz:dl.length<64)(hs:sortable (dl.map hG)=true)
  (h:∀s' c fR k,ae s s'->s'.heap.get? c=some (aO fR k)->s.heap.get? c=none->aU L (aT (dl.map hG)) fR->Q (.ref c) s'):zx (zv prog w) A (call (.builtin "sorted") [.ref S]) Q E s:=by
 obtain⟨xs,es,ep,t,ho,dx,X,led,me⟩:=X;have X0:=X _ hL;have pm:=(yY X0.nd nd).mpr λk=>(me k).trans (hm k).symm;have hl:es.size=dl.length:=gR X0.size (gL pm.length_eq (gR (zA ..) rfl));refine kF hL hs (gR (zA ..) hz) (λR r=>uN (A:=A.in1) hh (λh' k=>X h' λb o e=>k b o (hL b o e)) ho led (hl▸Zz (ZA hz (by decide))) λord s' g po=>?_) h;rw[X0.RH] at po;refine ze (jT po) λys rX=>(zg (λpy j4=>?_) rX);refine gR j4 (gR ye ?_);refine r _ (ys.map λx=>hG x.1) s' g ?_ (AN _ _ λx hx=>dx x (py.mem_iff.mp hx));have:=((py.map (·.1)).trans pm).map hG;rw[ye] at this;exact this
theorem KU led:Tab (.fresh 0 0 led) #[]:=⟨rfl,rfl,rfl,.nil,λi a h e=>ns e⟩
theorem GQ(ho:h.get? S=some (cP)):pD L h S []:=
 ⟨[],#[],0,_,ho,(λx hx=>nomatch hx),λh' _=>⟨rfl,(gR Array.map_empty (KU _)),(λx hx=>nomatch hx),.nil⟩,rfl,λk=>by simp⟩
theorem GR(hh:A.handled=none)(hu:A.units+64<yA)(hL:Sub L s.heap.get?){tb:Bool}{n:Nat}(hs:s.heap.get? ax=some (dj tb vs n))(ds:aU L (kl.map hG) vs)
  (hm:∃dl:List (List aA),dl.length<=2/\∀k∈kl,k∈dl)  (h:∀s' S,ae s s'->s.heap.get? S=none->pD L s'.heap S kl->Q (.ref S) s'):zx (zv prog w) A (call (.type "set") [.ref ax]) Q E s:=by
 have ha:=zZ hs;have off:∀b:zJ,s.heap.objs.size<=b->L b=none:=λb hb=>by
  cases q:L b with
  |none=>rfl
  |some o=>exact absurd (zZ (hL _ _ q)) (YK.mpr hb)
 have e1:(s.heap.push (cP)).objs.size=s.heap.objs.size+1:=Zp ..;refine uL hs ?_;refine GJ (A:=A.in1.in1) hh (zM (zG (by decide:3<=64) A.units) hu) (off _ (zm _)) (off _ (by refine gR e1 ?_;exact zN _)) (zU (by refine gR e1 ?_;exact Zl _)) (zU ha) (zU (by refine gR e1 ?_;exact ZK ha)) ds hm (kl.length - 0) 0 _ rfl (zE _)
  (λb o e=>zj _ (zj _ (hL _ _ e))) (zj _ (zj _ hs)) (jS (zq _ rfl)) (GQ (zj _ (gK _))) λh' tk kp X=>⟨rfl,h _ _ ⟨λb o e=>?_,rfl,rfl⟩ (ao _) X⟩
 have hb:=zZ e;exact kp b o (zU hb) (zU (gR e1 (ZK hb))) (zj _ (zj _ e))
end
theorem gN:∀xl:List Str,∃dl:List Str,aG (dedup (xl.map .str)=dl.map .str) dl.Nodup (∀k,k∈dl↔k∈xl)
 |[]=>⟨[],rfl,.nil,λ_=>Iff.rfl⟩
 |k::r=>by
  refine ze (gN r) λdl kh=>?_;obtain⟨e,nd,m⟩:=kh;refine⟨k::dl.filter (λj=>!decide (j=k)),?_,?_,λj=>?_⟩
  ·refine(?_:Yo k::(dedup (r.map .str)).filter (λy=>!PyData.eqv y (.str k))=_)
   refine gR e (gR List.filter_map (gR Zo ?_))
   congr 2
  ·refine ZR.mpr ⟨by simp,nd.sublist adT⟩
  ·simp only[zK,Zn,m,Yt,decide_eq_false_iff_not]
   by_cases q:j=k <;> simp[q]
def KV(xl:List Str):Nat:=(dedup (xl.map .str)).length
theorem GS l x:KV (l++[x])=if x∈l then KV l else KV l+1:=by
 refine ze (gN l) λd1 hX=>?_;obtain⟨e1,n1,m1⟩:=hX;refine ze (gN (l++[x])) λd2 jN=>?_;obtain⟨e2,n2,m2⟩:=jN;unfold KV;refine gR e1 (gR e2 ?_);refine gR (zA ..) (gR (zA ..) ?_);by_cases q:x∈l
 ·exact gR (if_pos q ..) (((yY n2 n1).mpr λk=>by
   rw[m1,m2,Zi,zX];exact⟨λh=>h.elim id λe=>e▸q,.inl⟩).length_eq)
 ·exact gR (if_neg q ..) (((yY n2 (ZR.mpr ⟨λh=>q ((m1 x).mp h),n1⟩)).mpr λk=>by
   rw[m2,Zi,zX,zK,m1];exact Or.comm).length_eq)
theorem GU l:KV l<=l.length:=by refine ze (gN l) λd1 mX=>?_;obtain⟨e1,n1,m1⟩:=mX;unfold KV;refine gR e1 (gR (zA ..) ?_);exact n1.length_le_of_subset λk hk=>(m1 k).mp hk
theorem AO:∀{l:List D},l.all isStr=true->∃xl:List Str,l=xl.map .str
 |[],_=>⟨[],rfl⟩
 |p::r,h=>by
  simp only[Z9,zY] at h;obtain⟨x,rm⟩:=ba h.1;refine gR rm ?_;obtain⟨xl,jb⟩:=AO h.2;refine gR jb ?_;exact⟨x::xl,rfl⟩
section
abbrev pG(h:yi)(S:zJ)(xl:List Str):Prop:=h.SetOf (zR prog w) S (λx=>decide (x∈xl)) (KV xl)
theorem pG.at_(x:pG h S xl)(k:∀o,h.get? S=some o->h'.get? S=some o):pG h' S xl:=by refine ze x λo mY=>(ze mY λes Ga=>(ze Ga λep wz=>(ze wz λt PJ=>(zg (λho r=>?_) PJ))));exact⟨o,es,ep,t,k _ ho,r⟩
theorem GV(hh:A.handled=none){it:zJ}{tb:Bool}{n:Nat}(h1:S≠it)(h2:ax≠S)(h3:ax≠it)
  (ds:aU L (xl.map .str) vs) (hz:xl.length<=1000) {R:yX->zt->Prop}:
  ∀(k i:Nat) s,xl.length - i=k->i<=xl.length->s.heap.get? ax=some (dj tb vs n)->bP s.heap it ax i tb->pG s.heap S (xl.take i)->
   (∀h' tk,(∀b o,b≠S->b≠it->s.heap.get? b=some o->h'.get? b=some o)->pG h' S xl->R (.ok (.ret .none)) {s with heap:=h',toks:=tk})->
   ZH (zv prog w) A (.builtin "set.update.loop" ⟨[.ref S,.ref it],[]⟩) R s:=by
 intro k
 induction k with
 |zero=>
  intro i s hk hi ha hit X hR;have vi:=lp0 hk hi;subst vi;rw[Yz] at X;refine codeAny_builtin F.entry_set_update_loop (gR (ZC F.plain_set_update_loop _ ..) (zf (nu (A:=A.in1) hh hit ha (Zs (zO (gR ds.length (gR (zA ..) rfl)))) λh' he=>?_)));exact zl (hR h' s.toks (λb o _ hb e=>he b o hb e) (X.at_ λo e=>he S o h1 e))
 |succ k ih=>
  intro i s hk hi ha hit X hR;have vX:=lp1 hk;obtain⟨v,hv,_,t,rfl⟩:=ds.get (by refine gR Zd (gR (zB vX ..) ?_);rfl);refine codeAny_builtin F.entry_set_update_loop (gR (ZC F.plain_set_update_loop _ ..) (zf (kO hit ha hv λh' ua vf=>?_)));have kp:=λb o hb e=>vf.extBut b o hb e;refine zf (zT ?_);refine zT (zf ((zR prog w).pyHash (ku _ _) ?_));have room:KV (xl.take i)+1<scanBound:=by have:=GU (xl.take i);have this:=(YB)▸this;exact zM (zw (zk this (zk (Nat.min_le_right ..) hz))) (by decide:1000+1<4096)
  refine wpAny_setAddHashed_of (s:={s with heap:=h',toks:=s.toks+1}) (ku _ _) rfl (X.at_ λo e=>kp S o h1 e) room λqZ sb X2=>?_;have X3:pG qZ S (xl.take (i+1)):=by
   have e1:xl.take (i+1)=xl.take i++[xl[i]]:=by refine gR adM (gR (zB vX ..) ?_);rfl
   have e2:(λx=>decide (x∈xl.take (i+1)))=λx=>(decide (x∈xl.take i)||decide (x=xl[i])):=by
    funext x
    refine gR e1 (gL (Bool.decide_or ..) ?_);exact decide_eq_decide.mpr (by rw[Zi,zX])
   unfold pG;refine gR e2 (gR e1 (gR (GS ..) ?_));simpa using X2
  refine zl ⟨plainId_quiet F.plain_set_update_loop _,ih (i+1) _ (lp2 hk) vX (sb.extBut ax _ h2 (kp ax _ h3 ha)) (ua.at_ λo e=>sb.extBut it o (Z8 h1) e) X3 λh3 tk3 kp3 X3=>?_⟩;exact hR h3 tk3 (λb o b1 b2 e=>kp3 b o b1 b2 (sb.extBut b o b1 (kp b o b2 e))) X3
theorem GW(ho:h.get? S=some (cP)):pG h S []:=
 ⟨_,#[],0,_,ho,⟨rfl,rfl,rfl⟩,rfl,λe he=>by simp at he,λk=>by simp,by decide,by rfl,rfl⟩
theorem GX(hh:A.handled=none){tb:Bool}{n:Nat}(hs:s.heap.get? ax=some (dj tb vs n))(ds:aU L (xl.map .str) vs)(hz:xl.length<=1000)
   (h:∀s' S,ae s s'->pG s'.heap S xl->Q (.ref S) s'):zx (zv prog w) A (call (.type "set") [.ref ax]) Q E s:=by
 have ha:=zZ hs;have e1:(s.heap.push (cP)).objs.size=s.heap.objs.size+1:=Zp ..;refine uL hs ?_;refine GV (A:=A.in1.in1) hh (zU (by refine gR e1 ?_;exact Zl _)) (zU ha) (zU (by refine gR e1 ?_;exact ZK ha)) ds hz (xl.length - 0) 0 _ rfl (zE _)
  (zj _ (zj _ hs)) (jS (zq _ rfl)) (GW (zj _ (gK _))) λh' tk kp X=>⟨rfl,h _ _ ⟨λb o e=>?_,rfl,rfl⟩ X⟩
 have hb:=zZ e;exact kp b o (zU hb) (zU (gR e1 (ZK hb))) (zj _ (zj _ e))
theorem KW(X:pG s.heap S xl)(hz:xl.length<=1000)(h:∀s' t,ae s s'->Q (.int (KV xl) t) s'):zx (zv prog w) A (call (.builtin "len") [.ref S]) Q E s:=by refine ze X λo vF=>?_;obtain⟨es,ep,t,ho,hex,hd,_,_,_,hf,hn⟩:=vF;have:=GU xl;exact call_len_set ho hex hd hf (c63 (hn▸zk this (zk hz (by decide)))) (gR hn (h _ _ (ae.toks _ _)))
end
section
variable{call:Call}
theorem get_none{c:zJ}(g:ae s s')(hn:s'.heap.get? c=none):s.heap.get? c=none:=by
 cases z:s.heap.get? c with
 |none=>rfl
 |some o=>exact nomatch hn.symm.trans (g.sub _ _ z)
theorem GY(hh:A.handled=none)(hu:A.units+64<yA){len:Bool}{p:D}(hL:Sub L s.heap.get?){tb:Bool}{n:Nat}{l:List D}(hp:bQ p=some l)(hs:s.heap.get? ax=some (dj tb vs n))(ds:aU L l vs)(hr:(ssD len p).is r)
   (q:∀s' z,ae s s'->(∀L',Sub L L'->(∀b o,s.heap.get? b=none->s'.heap.get? b=some o->L' b=some o)->DR L' r z)->Q z s'):
  zx (zv prog w) A (ZP (.type "set") [.ref ax]) (λS az=>zx (zv prog w) A (ZP (.builtin (if len then "len" else "sorted")) [S]) Q E az) E s:=O.cV hr λl' el hr=>by
 cases hp.symm.trans el;cases len with
 |false=>
  have c:=aa hr.1;cases hr.2;obtain⟨kl,rfl⟩:=sr c.1;obtain⟨dl,e,nd,m⟩:=nS kl;refine zg (λso c2=>?_) (aa c.2);rw[e] at so q;have c2:=of_decide_eq_true c2;rw[e,zA] at c2;exact GR hh hu hL hs ds ⟨dl,c2,λk hk=>(m k).mpr hk⟩ λs' S g _ X=>
   wW hh (λb o x=>g.sub b o (hL b o x)) X nd m (zM c2 (by decide)) so λs2 cc fR k g2 h hn d=>q s2 _ (g.trans g2) λL' sb new=>⟨cc,fR,k,rfl,new cc _ (get_none g hn) h,d.sub sb⟩
 |true=>
  have c:=aa hr.1;cases hr.2;obtain⟨xl,rfl⟩:=AO c.1;have c2:=(zA ..)▸of_decide_eq_true c.2;exact GX hh hs ds c2 λs' S g X=>KW X c2 λs2 t g2=>q s2 _ (g.trans g2) λ_ _ _=>⟨t,rfl⟩
theorem PO(len:Bool):((if len then "len" else "sorted":Str),Z3 (if len then "len" else "sorted"))∈dc:=match len with
 |false=>.tail _ (.head _)
 |true=>.head _
theorem PQ(len:Bool):((if len then "len" else "sorted":Str)==("__debug__"))=false:=match len with
 |false=>rfl
 |true=>rfl
theorem GZ(ok:bF fx)(hu:A.units+64<yA)(hh:A.handled=none){len:Bool}{a:CE}{pg p':Pos}(hk:fx.env.kindOf (if len then "len" else "sorted")=some .globalImplicit)(qf:fx.env.kindOf "set"=some .globalImplicit)
  (hs:notStar (aH T.tb.nm a)=true) (ha:ai A call fx a):ai A call fx (.Bv len a pf pg p' p):=λc r I h=>by
 refine bC (λQ q=>cK ok I.g (PO len) hk (PQ len) q) (callWith_builtin rfl ?_);refine gR (aj rfl ..) (gR (ay ..) ?_);refine evalArgs_plain (spliced_cons (bC (λQ q=>cK ok I.g (zy (i:=11) rfl) qf rfl q) ?_));refine gR (aj hs ..) (gR (ay ..) ?_);refine yI rfl (evalArgs_plain (spliced_cons (ha.d7 I (.refl _) h λa1 c1 v1 h I1 K1 V1 _=>spliced_nil (h.fH λr1 hd h2=>O.cV hd λpd ep hd=>?_))));obtain⟨l,el⟩:∃l,bQ pd=some l:=O.cV hd λl el _=>⟨l,el⟩;obtain⟨ad,vs,n,y⟩:=cu I1 V1 ep el;refine gR y.1 ?_;obtain⟨tb,hs1⟩:∃tb,c1.s.heap.get? ad=some (dj tb vs n):=y.3.elim (λo=>⟨true,(aw o.2).2⟩) λo=>⟨false,o.2⟩;exact zI (GY hh hu (cM _ _) el hs1 y.2 hd λs' z g dr=>QE.data I1 K1 g h2.1.symm (dr _ (bR g) λb o hb e=>aB (I1.g.bU hb) e)) (λv s q=>spliced_nil q) (λ_ _ e=>e)
end
section
variable{call:Call}
theorem C0{a:AV}{r:List AV}{l:List D}(h:qR (a::r)=some l):c8 λp l'=>aG (a=.d p) (qR r=some l') (l=p::l'):=by
 cases a with
 |d p=>exact(map_some h).elim λl' z=>⟨p,l',rfl,z.1,z.2.symm⟩
 |_=>exact ns h
theorem G0{len:Nat}{es:List (D×AV)}{l:List D}{ns:List Int}(K:iU γ len h es ps)(hl:qR (es.map (·.2))=some l)(hn:l.mapM intD=some ns):
  aF (ps.length=ns.length) (∀(i:Nat) k v,ps[i]? =some (k,v)->∃t,v=.int (ns.getD i 0) t):=by
 induction es generalizing ps l ns with
 |nil=>
  obtain rfl:=K;obtain rfl:=zh hl;obtain rfl:=zh hn;exact⟨rfl,λ_ _ _ e=>Lw.ns e⟩
 |cons x r ih=>
  obtain⟨s,v,t,z⟩:=K;obtain⟨p,l',y⟩:=C0 hl;rw[y.3,List.mapM_cons] at hn;refine ze (bind_some hn) λn jw=>(ze (bind_some jw.2) λns' uc=>?_);have q:=ih z.5 y.2 uc.1;obtain rfl:=zh uc.2;refine⟨z.1▸congrArg (·+1) q.1,λi k u e=>?_⟩;replace e:=(z.1)▸e;cases i with
  |zero=>
   have d:=z.4;have y1:x.2=.d p:=y.1;rw[y1,dR jw.1] at d;have e1:v=u:=congrArg (·.2) (zh e);exact e1▸d
  |succ i=>exact q.2 i k u e
theorem wX(hh:A.handled=none){d:zJ}{ns:List Int}{m:Int}(hS:(d==sysModules)=false)(hm:s.heap.DictOf (zR prog w) d ps)(hl:ps.length=ns.length)
  (hv:∀(i:Nat) k v,ps[i]? =some (k,v)->∃t,v=.int (ns.getD i 0) t) (mn:BH ns=some m)  (q:∀s' t,ae s s'->Q (.int m t) s'):
  zx (zv prog w) A (ZP (.builtin "dict.values") [.ref d]) (λv az=>zx (zv prog w) A (ZP (.builtin "min") [v]) Q E az) E s:=by
 have hn:0<ns.length:=by cases ns with |nil=>cases mn |cons _ _=>exact Zu _
 refine wpAny_call_entry PySem.F.slot_dict_values hm.typeIs PySem.F.entry_dict_values ?_ (PySem.F.args_dict_values_1 _);refine zf (zf (wpAny_notOrdered_dict hm.typeIs ?_));refine zl ?_;unfold Yv;refine gR (if_neg (by refine gR hS ?_;exact zi) ..) ?_;refine zf (zl (zf (wpAny_newObj_type (zl ⟨_,rfl,?_⟩))));refine ze (hm.dictAt) λep ha=>?_;have hv1:(s.heap.push {cls:=.type "dict_values",data:=.fields #[.ref d]}).IsValuesView s.heap.objs.size d:=⟨_,zq _ rfl,rfl,rfl⟩;have hd:=ha.lt_size;refine call_min_walk (wpAny_pyIter_values hv1 (ha.push _) ?_);refine⟨_,_,_,_,_,_,_,rfl,Walks.dictValues (A:=A.in1) hh _ d (zU (zF hd (by refine gR (Zp ..) ?_;exact zN _))) ps ep,⟨⟨_,zq _ rfl,rfl,rfl⟩,(ha.push _).push _⟩,?_,by refine gR hl ?_;exact hn,
  CmpOf.ints_lt (λi=>ns.getD i 0) (λi v ⟨k,e⟩=>hv i k v e),λv h' tk ⟨k,e⟩ hk=>?_⟩
 ·intro b hb
  simp only[zK,ZT,or_false] at hb;rcases hb with rfl |rfl
  ·exact zZ (zq _ rfl)
  ·refine gR (Zp ..) (gR (Zp ..) ?_);exact ZK (ZK hd)
 ·refine ze (hv _ k v e) λt WQ=>(gR WQ ?_)
  have:=x8 mn (λi=>ns.getD i 0) λi hi=>by simp[List.getD,zB hi]
  refine gR hl (gR this ?_);refine q _ t ⟨λb o e=>hk b o ?_ (zj _ (zj _ e)),rfl,rfl⟩;have:=zZ e;simp only[zX,Zp];exact zU (ZK this)
theorem G1(ok:bF fx)(hh:A.handled=none){a:CE}(hk:fx.env.kindOf "min"=some .globalImplicit)(hb:d9 (aH T.tb.nm a)=true)(bk:(pa.endLine==p1.line)=true)(ha:ai A call fx a):
  ai A call fx (.Bw a pa p1 pf p):=λc r I h=>by
 refine bC (λQ q=>cK ok I.g (zy (i:=7) rfl) hk rfl q) (callWith_builtin rfl ?_);refine gR (aj rfl ..) (gR (ay ..) ?_);refine evalArgs_plain (spliced_cons (qk (es:=.nil) hb trivial (show 0<29 by decide) bk ha I h λa1 c1 v1 h I1 K1 V1=>h.fH λm hd h2=>?_));refine(?_:adf prog w A _ _ _ _ [] _ _);cases a1 with
 |d p=>exact hd.elim
 |w i=>exact hd.elim
 |o n=>
  refine zg (λkm hn=>?_) V1;refine gR km ?_;refine O.cV hd λes eo hd=>?_;obtain⟨o,ho,eo⟩:=bind_some eo;cases kJ eo;obtain⟨ns,hd2,mn⟩:=bind_some (O.of_is hd.2);obtain⟨l,hl,ij⟩:=bind_some hd2;obtain⟨ps,hm,kv⟩:=dX (I1.g.objs n _ ho) hd.1;have e:=G0 kv hl ij;exact Ac PySem.F.slot_dict_values PySem.F.type_dict_values hm (callWith_builtin rfl (PySem.evalArgs_none (zI (wX hh (eU I1 ho) hm e.1 e.2 mn λs' t g=>QE.data I1 K1 g h2.1.symm ⟨t,rfl⟩) (λv s q=>spliced_nil q) λ_ _ e=>e)))
end
inductive aco(env:Zj)(lay:List (Nat×Str×Option zJ))(f2:Nat):Prop where
 |mk {f cc IE D:zJ} {o oc dK oD:Obj} {fd:YW} {ar:Arg} {vs:Array zo} {fl:Str} {tf:Tok} {AP:Yl} (a1:env.func=some f) (a2:T.top.get? f=some o) (a3:o.data=.func fd) (a4:(fd.params.posonlyargs++fd.params.args).head? =some ar) (a5:(0,ar.arg,none)∈lay)
  (a6:env.code=.ref IE) (a7:T.top.get? IE=some oc) (a8:oc.data=.fields vs) (a9:vs[2]? =some (.str fl tf)) (WW:((prog.main.file:Str)==fl)=true) (WX:env.cells.lookup ("__class__":Str)=some cc) (RM:T.top.get? cc=some dK) (RN:dK.data=.cell (some (.ref D))) (PS:T.top.get? D=some oD) (PT:oD.data=.cls AP)
  (a16:∀c,T.tb.jt f2 c=true->aF (mroIn T.K (T.cls c) (.ref D)=some true) (∃RO,aF (clsIn T.K (T.cls c)=some RO) (alongIn T.K "__init__" ((RO.mro.dropWhile (· != .ref D)).drop 1)=some (some (.ref (T.fa f2))))))
structure MS(env:Zj)(lay:List (Nat×Str×Option zJ))(f2:Nat):Prop where
 file:aco env lay f2
 super:env.kindOf "super"=some .globalImplicit
 cls:env.kindOf "__class__"=some .free
 main:(prog.main.scope.names.lookup ("super":Str)).isSome=false
 Oh:nsIn T.K cStatics "thirdparty.any"=some none
 fn:∃of,aG (T.top.get? (T.fa f2)=some of) (of.cls=.type "function") (fnIn T.K (T.fa f2)=true)
section
variable{call:Call}
theorem wY{o:Option Slot}{a:AV}(h:o.bind Mg=some a):o=some (.v a):=by
 refine ze (bind_some h) λsl Ed=>?_;obtain⟨WY,h⟩:=Ed;refine gR WY ?_;cases sl with
 |v b=>exact congrArg (λa=>some (Slot.v a)) (zh h)
 |_=>exact ns h
theorem PU{r:R β}{k:AV×Env×G->W β}{f:Nat}{p2 p3 p4:Pos}(h:Rn call ((cC T.tb (.s9 f es p1 p2 p3 p4) e g).bind k) r):
  mi λn c fs=>dQ (e[0]? =some (.v (.o n))) (g[n]? =some (.inst c fs)) (T.tb.jt f c=true) (Rn call ((ka T.tb es e g).bind λy=>W.bind (.bO (y.1.all fX) ((IP f (.o n::y.1) y.2.2).bind λr=>.ok (r.1,y.2.1,r.2))) k) r):=
 (Rn.bu h).opt λa h1 h=>(Rn.bu h).opt λs h2 h=>
  have h3:=gj h2;have h:=Rn.bO h
  ⟨s.1,s.2.1,s.2.2,h3.1▸wY h1,h3.2,h.1,Rn.bu h.2⟩
theorem wZ{R:zJ->Role}{K:Frag}{C:zJ}{cd:Yl}(h:∀o,K.lookup C=some o->R C=.free)(m:clsIn K C=some cd)(q:R C=.g x false):False:=by
 delta clsIn at m
 revert m h
 generalize K.lookup C=l;intro h m;cases l with
 |none=>cases m
 |some o=>exact nomatch (h o rfl).symm.trans q
theorem PX(I:aS γ g s){n c:Nat}(eg:g[n]? =some (.inst c fs)){cd:Yl}(m2:clsIn T.K (T.cls c)=some cd):(γ.aI n).1≠T.cls c:=λe=>by
 have r:=(I.objs n _ eg).1;rw[e] at r;exact wZ (λo ho=>(I.top _ _ (T.Ry _ _ ho)).1) m2 r
theorem G3(ok:bF fx)(vh:iE A fx)(hc:bS A call){f2:Nat}{p2 p3 p4:Pos}(io:MS fx.env fx.lay f2)(bk:(p3.endLine==p4.line)=true)(hl:es.len<29)(h:gm (ai A call fx) es)(hs:fY es)(I:Inv fx c){body:List Stmt}
   {r:R β} {f:AV×Env×G->W β} (er:Rn call ((cC T.tb (.s9 f2 es p1 p2 p3 p4) c.e c.g).bind f) r) {Q:Flow->zt->Prop} (k:∀a c',Rn call (f (a,c'.e,c'.g)) r->Inv fx c'->Ext c c'->Q .next c'.s):
  _root_.PySem.wpAt (zv prog w) A (.func body fx.env) (exec (toS T.tb.nm (.expr (.s9 f2 es p1 p2 p3 p4) p)) fx.env) Q (XE c r) c.s:=by
 obtain⟨n,cl,fs,z⟩:=PU er;obtain @⟨_,_,_,D,_,_,_,_,_,_,_,_,_,_,a1,a2,a3,a4,a5,a6,a7,a8,a9,WW,WX,RM,RN,PS,PT,a16⟩:=io.file;have m1:=a16 cl z.3;refine ze (m1.2) λRO m2=>(ze (io.fn) λof f1=>?_);have top:=λb ob e=>(I.g.top b ob e).2;obtain⟨od,ps,hi,_⟩:=lY (I.g.objs n _ z.2);refine ze (I.f.ns) λm Fz=>?_;obtain⟨ij,_,IB⟩:=Fz;refine ze (IB 0 _ a5 _ z.1) λv jw=>(zg (λhv i9=>?_) jw);refine zg (λhv2 hn=>?_) i9;refine(?_:_root_.PySem.wpAt _ _ _ (exec (.Expr (.Call (.Attribute (.Call (.Name "super" p1) [] [] p2) "__init__" p3) (cn T.tb.nm es) [] p4) p) fx.env) _ _ _);refine ks_wpAt_Expr_any ?_ (uj ok) (ew rfl _ _ _);refine gR (arm_eval_Call ..) ?_;obtain⟨mg,mb,gl⟩:=tok.glob;have k1:=gl.3 ("super",.type "super") (zy (i:=13) rfl);refine _root_.PySem.wpAt_bind (_root_.PySem.wpAt_mono (ks_wpAt_super_base io.super io.cls (by decide) a1 (top _ _ a2) a3 a4 a6 (top _ _ a7) a8 a9 WW io.main (Q:=λov az=>∃q,dQ (ov=.ref q) (ae c.s az) (c.s.heap.get? q=none) (az.heap.get? q=some {cls:=.type "super",dict:=none,data:=.fields #[.ref D,.ref (c.γ.aI n).1,.ref (T.cls cl)],slots:=#[]})) ?_) (λov az hq=>_root_.PySem.wpAt_of_wpAny ?_) λ_ _ x=>x)
 ·refine PySem.W.ks_loadName_global ok.kind io.super (loadGlobal_builtin (ok.globals▸gl.1.keeps top) k1.1 (ok.builtins▸gl.2.keeps top) k1.2 ⟨rfl,?_⟩)
  refine wpAny_loadName_free ok.kind io.cls WX ⟨_,top _ _ RM,RN⟩ (wpAny_loadName_local ok.kind (ok.loc _ _ a5).1 ij (hv.trans (congrArg some hv2)) (ks_wpAny_isType_cls (top _ _ PS) PT ⟨rfl,?_⟩));exact ks_wpAny_call_super (h:=c.s.heap) (g:=c.s.gens) (d:=c.s.drawn) (t:=c.s.toks) (os:=c.s.os) (top _ _ PS) PT hi.at_ hi.cls (λc e=>nomatch e) (looks_mroIn I.g.K m1.1) λh' e kp=>⟨_,rfl,⟨kp,rfl,rfl⟩,ao _,e⟩
 ·obtain⟨q,y⟩:=hq
  refine gR y.1 (zf (wpAny_standAt ?_));unfold methodCall;refine gR (As p4 hs hl ..) ?_;have I1:=I.dD y.2;obtain⟨h1,gg,d1,t1,os1⟩:=az;refine zf (zT (ks_wpAny_getMethod_super y.4 (looks_opaque I1.g.K io.Oh) (λA Q E s k q=>zf ((looks_clsIn I1.g.K m2.1) A _ E s k (zl q))) rfl I1.g.K m2.2 ((I1.g.top _ _ f1.1).2) f1.2 (PX I.g z.2 m2.1) (by decide) ?_));refine zf (wpAny_of_eq (FC bk) ?_);have G2:ae c.s ⟨h1.push {cls:=.type "method",data:=.fields #[.ref (T.fa f2),.ref (c.γ.aI n).1]},gg,d1,t1+1,os1⟩:=y.2.trans ((ae.push ⟨h1,gg,d1,t1,os1⟩ _).trans (ae.toks _ _));have mq:(h1.push {cls:=.type "method",data:=.fields #[.ref (T.fa f2),.ref (c.γ.aI n).1]}).get? h1.objs.size=some (methodObj (.ref (T.fa f2)) (.ref (c.γ.aI n).1)):=zq _ rfl;refine callWith_of (P:=λh=>MethP T.K h1.objs.size (T.fa f2) (.ref (c.γ.aI n).1) h) (gR (f7 p4 hs ..) rfl) (λh=>keeps_M f1.3 h) (de p4 hs (d8 p4 es h hs (I.dD G2) (Ext.dD G2) z.4 λas c2 vs er2 I3 K3 V3 fT _=>?_));have mq2:=(fT.x.j7 _ _ (I.g.bU (get_none y.2 (ao _))) mq).2;have e2:=Rn.bO er2;refine⟨⟨mq2,I3.g.K⟩,wpAny_call (ks_codeAny_call_bound mq2 ?_)⟩;exact gL (K3.x.aI n hn ..) (eQ (vs:=.o n::as) hc vh I3 K3 (.bX _ _) (lA.au (γ:=c2.γ) (γ':=bX c2.γ) (l5 _ _) (zm _) (λ_ _=>rfl) ⟨_,vs,rfl,⟨rfl,zF hn K3.x.len⟩,V3.lT e2.1⟩) (Rn.bu e2.2) (λ_ _ _ h=>h.elim λ_ h=>h.elim) (λa c3 v e4 ec I4 K4 V4 _=>k a c3 (ec▸e4) I4 K4) λx s' h=>h)
end
variable{cd:Yl}
section
set_option backward.match.sparseCases true
inductive acp(f:Nat)(F:Fn)(f2:Nat):Prop where
 |mk {o:Obj} {fd:YW} {y0:Nat} {cc IE D:zJ} {oc dK oD:Obj} {ar:Arg} {vs:Array zo} {fl:Str} {tf:Tok} {AP:Yl}
  (h1:T.top.get? (T.fa f)=some o) (h2:o.data=.func fd) (h3:T.top.CodeRec fd.code fd.qualname) (h4:fd.body=.stmts (eC T.tb.nm F.body)) (h5:fd.scope.isCoroutine=false) (h6:fd.scope.isGenerator=false) (h7:fd.scope.kind=.function)
  (h8:fd.globals=mainGlobals) (h9:fd.builtins=builtinsNs) (h10:∀x k,(x,k)∈F.sc->fd.scope.names.lookup (T.tb.nm x)=some k) (h11:∀x∈fd.scope.names,x.2≠zL)
  (h12:∀vals:List zo,vals.length=F.np->bindArgs fd ⟨vals,[]⟩=pure (((F.vs.take F.np).map T.tb.nm).zip vals))
  (b1:F.vs[0]? =some y0) (b2:ar.arg=T.tb.nm y0) (b3:(fd.params.posonlyargs++fd.params.args).head? =some ar) (b4:fd.code=.ref IE) (b5:T.top.get? IE=some oc) (b6:oc.data=.fields vs) (b7:vs[2]? =some (.str fl tf)) (b8:((prog.main.file:Str)==fl)=true)
  (b9:fd.closure.lookup ("__class__":Str)=some cc) (b10:T.top.get? cc=some dK) (b11:dK.data=.cell (some (.ref D))) (b12:T.top.get? D=some oD) (b13:oD.data=.cls AP) (b14:fd.scope.names.lookup ("super":Str)=some .globalImplicit) (b15:fd.scope.names.lookup ("__class__":Str)=some .free)
  (b16:∀c,T.tb.jt f2 c=true->aF (mroIn T.K (T.cls c) (.ref D)=some true) (∃RO,aF (clsIn T.K (T.cls c)=some RO) (alongIn T.K "__init__" ((RO.mro.dropWhile (· != .ref D)).drop 1)=some (some (.ref (T.fa f2))))))
structure qC(f:Nat)(F:Fn)(f2:Nat):Prop where
 obj:acp f F f2
 Kk:Kj F
 RP:∀y,(y,zL)∉F.sc
 main:(prog.main.scope.names.lookup ("super":Str)).isSome=false
 Oh:nsIn T.K cStatics "thirdparty.any"=some none
 fn:∃of,aG (T.top.get? (T.fa f2)=some of) (of.cls=.type "function") (fnIn T.K (T.fa f2)=true)
theorem C1{n:Str}{l:List (Str×zo)}(hn:(l.map (·.1)).Nodup)(h:(n,v)∈l):l.lookup n=some v:=by
 induction l with
 |nil=>exact absurd h ZT
 |cons p r ih=>
  have hn:=ZR.mp hn;refine ip.trans ?_;cases e:n==p.1 with
  |true=>
   exact(zK.mp h).elim (λq=>congrArg (λp:Str×zo=>some p.2) q.symm) λm=>absurd ((λm=>ZI (f:=λp:Str×zo=>p.1) m) m) (eq_of_beq e▸hn.1)
  |false=>exact ih hn.2 (nA h λq=>ne_of_beq_false e (congrArg (·.1) q))
section
variable{call:Call}
theorem C2{f f2:Nat}{F:Fn}(fo:qC f F f2){γ:Gh}{g:G}{s:zt}(I:aS γ g s){vs:List AV}{vals:List zo}(V:lA γ g.length s.heap vs vals)(hn:vs.length=F.np){R:yX->zt->Prop}(dH:A.depth<yb)
  (h:∀(env:Zj) (S:zJ->Prop) (az:zt) m mc,Laid F env vals S s az m mc->MS env (nB F env.cells) f2->
   _root_.PySem.wpAt (zv prog w) (A.deeper env) (.func (eC T.tb.nm F.body) env) (execs (eC T.tb.nm F.body) env) (λf s'=>R (.ok (.ret (match f with |.ret v=>v |_=>.none))) s')
    (λe s'=>zx (zv prog w) (A.deeper env) (leaving env e) (λ_ hJ=>R (.error e) hJ) (λe' hJ=>R (.error e') hJ) s') az):
  ZH (zv prog w) A (.call (.ref (T.fa f)) ⟨vals,[]⟩) R s:=by
 obtain @⟨o,fd,y0,cc,IE,D,oc,dK,oD,ar,avs,fl,tf,AP,h1,h2,h3,h4,h5,h6,h7,h8,h9,h10,h11,h12,b1,b2,b3,b4,b5,b6,b7,b8,b9,b10,b11,b12,b13,b14,b15,b16⟩:=fo.obj;have top:∀b ob,T.top.get? b=some ob->s.heap.get? b=some ob:=λb ob e=>(I.top b ob e).2;have hlv:vals.length=F.np:=V.length.trans hn;refine ks_codeAny_call_defAt (fd:=fd) (body:=eC T.tb.nm F.body) (binds:=nD F vals) dH (top _ _ h1) h2 (tok.lim.keeps top) (h3.keeps top) h4 (BindsTo.of_eq (h12 vals hlv)) h11 (λx hx=>?_) (λcF ij qD=>?_) h5 h6 h7
 ·obtain⟨y,v,ia,hy⟩:=qv hx;refine gR ia ?_
  exact h10 _ _ ((fo.Kk.kinds y hy).1.resolve_right (fo.RP y))
 ·refine h (callEnv fd s.heap.objs.size (T.fa f)) (λb=>b=s.heap.objs.size) _ _ (λ_=>none) ⟨h7,h8,h9,rfl,h10,λy hy=>absurd hy (fo.RP y),⟨qD,rfl,rfl,λb e=>e▸⟨ao _,ij.elim λ_ z=>?_⟩⟩,rfl,ij,λy _ hy=>absurd hy (fo.RP y),λy _ _ hy=>absurd hy (fo.RP y),
   λy v hv=>⟨λ_=>C1 (by refine gR (List.map_reverse ..) ?_;exact List.pairwise_reverse.mpr ((lC fo.Kk hlv).imp Z8)) (List.mem_reverse.mpr hv),λk=>absurd k (fo.RP y)⟩⟩
   ⟨⟨rfl,h1,h2,b3,zH.mpr ⟨(y0,0),YH.mpr b1,?_⟩,b4,b5,b6,b7,b8,b9,b10,b11,b12,b13,b16⟩,b14,b15,fo.main,fo.Oh,fo.fn⟩
  ·refine ze z λ_ xX=>?_;refine ze xX λ_ oZ=>?_;refine zg (λz _=>?_) oZ
   exact congrArg Zv z
  ·exact gR (b2 ..) (gR (if_neg λq=>fo.RP y0 (zz.mp q) ..) rfl)
theorem pH{f f2:Nat}(hf:T.tb.fn f=some F)(fo:qC f F f2){p2 p3 p4:Pos}{rest:aK}(AQ:F.body=.cons (.expr (.s9 f2 es p1 p2 p3 p4) p) rest){n:Nat}(dH:A.depth<yb)
  (bk:(p3.endLine==p4.line)=true) (hl:es.len<29)
  (hx:∀fx,lE F fx->iE (A.deeper fx.env) fx->jM (A.deeper fx.env) fx) (hc:∀fx:Fx,bS (A.deeper fx.env) (aC T.tb n)) (hes:∀fx,lE F fx->iE (A.deeper fx.env) fx->gm (ai (A.deeper fx.env) (aC T.tb n) fx) es) (hs:fY es)
  (hb:∀fx,lE F fx->iE (A.deeper fx.env) fx->eu (A.deeper fx.env) (aC T.tb n) fx rest)
  {vs:List AV}     {R:yX->zt->Prop} (I:aS γ g s) (sk:J6 A γ s.heap) (V:lA γ g.length s.heap vs vals) (hr:aC T.tb (n+1) f vs g≠.no)
  (k:Pk γ g.length s.heap (aC T.tb (n+1) f vs g) R):ZH (zv prog w) A (.call (.ref (T.fa f)) ⟨vals,[]⟩) R s:=by
 have z:=uv hf hr;rw[z.2] at hr k;refine C2 fo I V z.1 dH λenv S az m mc L io=>?_;have ff:=L.MJ (A:=A) fo.Kk;have vh:=nC sk (lay:=nB F env.cells) (mine:=λ_=>true) L.kind L.frame;have K:=L.nw.ext (γ:=γ) g.length;have I1:=L.inv fo.Kk I sk V z.1;have PY:=λx s' q=>ux (R':=R) (x:=x) (s':=s') K (hx _ ff vh) I1 k.ex q;rw[AQ] at hr k PY⊢;refine ks_wpAt_execs_cons (ks_wpAt_mono (G3 ff.ok vh (hc (frm F env A)) io bk hl (hes _ ff vh) hs I1 ((Rn.bu (⟨rfl,λe=>hr (congrArg aR e)⟩:Rn (aC T.tb n) (aY T.tb (.cons (.expr (.s9 f2 es p1 p2 p3 p4) p) rest) (lB F vs) g) _))) λa c2 e2 I2 K2=>?_) (λ_ _ x=>x) λx s' q=>PY x s' (q.tI I1));exact _root_.PySem.wpAt_of_wpAny (zI ((hb _ ff vh) c2 _ I2 e2) (λfl s' q=>uw (K.trans K2.x) k.ok q) λx s' q=>PY x s' (XS.jD K2.x q))
end
end
def Traced(h:yi)(e:zJ):Prop:=mi λo vs T=>aG (h.get? e=some o) (o.data=.fields vs) (vs[1]? =some (.ref T))
def Frs(l:List Zj)(γ:Gh)(h:yi):Prop:=∀env∈l,env.scope.kind≠.module/\∃a,aG (env.frame=some a) (γ.R a=.fr\/γ.R a=.sys) (∃m,h.Ns a m)
theorem Frs.fnf{l:List Zj}(k:Frs l γ h):h.FunFrames {objs:=#[]} l:=by
 induction l with
 |nil=>trivial
 |cons env r ih=>
  refine zg (λq ia=>?_) (k env (.head _));refine ze ia λa kL=>?_;obtain⟨e,_,m,o,es,ep,ho,hd,_⟩:=kL;exact⟨q,⟨a,o,e,rfl,ho,λvs z=>by replace z:=hd▸z;cases z⟩,ih λx hx=>k x (.tail _ hx)⟩
theorem Frs.mem{l:List Zj}(k:Frs l γ h)(ha:a∈l.filterMap (·.frame)):(γ.R a=.fr\/γ.R a=.sys)/\∃m,h.Ns a m:=by refine ze (YY.mp ha) λenv lN=>(zg (λhe e=>?_) lN);refine zg (λ_ JK=>?_) (k env he);refine ze JK λb j4=>?_;obtain⟨e',r⟩:=j4;rw[e] at e';obtain rfl:=zh e';exact⟨r,‹_›⟩
structure bf(γ:Gh)(h:yi)(γ':Gh)(h':yi):Prop where
 R:∀b,γ'.R b=γ.R b\/(h.get? b=none/\γ'.R b=.exc/\(h'.get? b).isSome)
 own:γ'.own=γ.own
 aI:γ'.aI=γ.aI
 keep:∀b o,γ.R b≠.exc->γ.R b≠.fr->γ.R b≠.sys->h.get? b=some o->h'.get? b=some o
 same:∀b o,(γ.R b=.fr\/γ.R b=.sys)->h.get? b=some o->∃o',h'.get? b=some o'/\bJ o o'
 live:∀b o,h.get? b=some o->(h'.get? b).isSome
theorem bf.trans{KX γ2:Gh}{h1 h2:yi}(x:bf γ h KX h1)(y:bf KX h1 γ2 h2):bf γ h γ2 h2 where
 R:=λb=>by
  rcases y.R b with r |⟨n,r,l⟩
  ·rcases x.R b with r' |⟨n',r',l'⟩
   ·exact .inl (r.trans r')
   ·exact ze (zp.mp l') λo ho=>(.inr ⟨n',r.trans r',y.live b o ho⟩)
  ·refine .inr ⟨?_,r,l⟩
   cases q:h.get? b with
   |none=>rfl
   |some o=>have:=x.live b o q;replace this:=n▸this;cases this
 own:=y.own.trans x.own
 aI:=y.aI.trans x.aI
 keep:=λb o h1 h2 h3 e=>by
  have r:=(x.R b).resolve_right λ⟨n,_⟩=>by replace e:=n▸e;cases e
  exact y.keep b o (gR r h1) (gR r h2) (gR r h3) (x.keep b o h1 h2 h3 e)
 same:=λb o hr e=>by
  have r:=(x.R b).resolve_right λ⟨n,_⟩=>by replace e:=n▸e;cases e
  refine ze (x.same b o hr e) λo1 oZ=>(zg (λe1 q1=>?_) oZ);exact ze (y.same b o1 (gR r hr) e1) λo2 xX=>⟨o2,xX.1,q1.trans xX.2⟩
 live:=λb o e=>by
  exact ze (zp.mp (x.live b o e)) λo1 e1=>(y.live b o1 e1)
section
variable{call:Call}
theorem bf.rK(I:aS γ g s)(k:bf γ s.heap γ' h'):aS γ' g {s with heap:=h'}:=by
 have rr:∀b o,s.heap.get? b=some o->γ'.R b=γ.R b:=λb o e=>(k.R b).resolve_right λ⟨n,_⟩=>by replace e:=n▸e;cases e
 have hf:∀b o,γ.R b=.free->s.heap.get? b=some o->γ'.R b=.free/\h'.get? b=some o:=λb o r e=>⟨(rr b o e).trans r,k.keep b o (bA r rfl) (bA r rfl) (bA r rfl) e⟩;refine⟨λn q e=>?_,λb r=>?_,λb q e=>hf b q (I.top b q e).1 (I.top b q e).2,I.os,I.gens⟩
 ·exact dW.au (γ:=γ) (γ':=γ') hf (zm _) (zr.mp e).1 (λ_ _=>by exact gR k.aI rfl) (λb o j r e=>⟨(rr b o e).trans r,k.keep b o (bA r rfl) (bA r rfl) (bA r rfl) e⟩) (I.objs n q e)
 ·rcases k.R b with r' |⟨_,_,l⟩
  ·exact ze (zp.mp (I.live b (gL r' r))) λo ho=>(k.live b o ho)
  ·exact l
theorem bf.ext{nV:Gh}{n₀ n:Nat}{G4:yi}(K:ak nV n₀ G4 γ n h)(k:bf γ h γ' h'):ak nV n₀ G4 γ' n h':=by
 have rr:∀b o,h.get? b=some o->γ'.R b=γ.R b:=λb o e=>(k.R b).resolve_right λ⟨n,_⟩=>by replace e:=n▸e;cases e
 refine K.trans ⟨λb o r e=>⟨(rr b o e).trans r,k.keep b o (bA r rfl) (bA r rfl) (bA r rfl) e⟩,λb o r e=>⟨(rr b o e).trans r,k.keep b o (bA r rfl) (bA r rfl) (bA r rfl) e⟩,zm _,λ_ _=>by exact gR k.aI rfl,λb o r e=>⟨(rr b o e).trans r,k.same b o (.inl r) e⟩⟩
end
variable{cY:List Zj}
theorem bf.upd(r:γ.R a=.exc)(k:ZN a h h')(l:(h'.get? a).isSome):bf γ h γ h' where
 R:=λ_=>.inl rfl
 own:=rfl
 aI:=rfl
 keep:=λb o h1 _ _ e=>(k.2 b (by rintro rfl;exact h1 r)).trans e
 same:=λb o hr e=>⟨o,(k.2 b (by rintro rfl;replace hr:=r▸hr;rcases hr with z |z <;> cases z)).trans e,.refl o⟩
 live:=λb o e=>by
  by_cases q:b=a
  ·exact gR q l
  ·refine gR (k.2 b q ..) (gR e ?_);rfl
theorem bf.push(ho:(h.push o).get? h.objs.size=some o):bf γ h {γ with R:=cx γ.R h.objs.size .exc} (h.push o) where
 R:=λb=>by
  by_cases q:b=h.objs.size
  ·exact gR q (.inr ⟨ao h,bw,by refine gR ho ?_;rfl⟩)
  ·exact .inl (aN q)
 own:=rfl
 aI:=rfl
 keep:=λb o' _ _ _ e=>zj _ e
 same:=λb o' _ e=>⟨o',zj _ e,.refl o'⟩
 live:=λb o' e=>by refine gR (zj _ e ..) ?_;rfl
theorem bf.slots{l:List Zj}(F:Frs l γ h)(k:Heap.SlotsOnly (l.filterMap (·.frame)) h h'):bf γ h γ h' where
 R:=λ_=>.inl rfl
 own:=rfl
 aI:=rfl
 keep:=λb o _ h2 h3 e=>(k.2.1 b λhm=>by refine YA ((F.mem hm).1) (λr=>?_) λr=>?_;exact h2 r;exact h3 r).trans e
 same:=λb o _ e=>by
  by_cases hm:b∈l.filterMap (·.frame)
  ·refine zg (λ_ rD=>?_) (F.mem hm);obtain⟨m,o',es,ep,fK,hd,_⟩:=rD
   rw[e] at fK;obtain rfl:=zh fK;obtain⟨sl,e'⟩:=k.2.2 b o e;exact⟨_,e',sl,rfl,λ⟨xs,n,q⟩=>by replace q:=hd▸q;cases q⟩
  ·exact⟨o,(k.2.1 b hm).trans e,.refl o⟩
 live:=λb o e=>by obtain⟨sl,e'⟩:=k.2.2 b o e;exact gR e' rfl
theorem bf.refl γ h:bf γ h γ h:=⟨λ_=>.inl rfl,rfl,rfl,λ_ _ _ _ _ e=>e,λ_ o _ e=>⟨o,e,.refl o⟩,λ_ _ e=>gR e rfl⟩
theorem Frs.AR{l:List Zj}(F:Frs l γ h)(k:bf γ h γ' h'):Frs l γ' h':=λenv he=>by
 obtain⟨q,a,e,r,m,n⟩:=F env he;obtain⟨o,_,_,ho,_⟩:=id n;exact⟨q,a,e,by refine gR (((k.R a).resolve_right λ⟨z,_⟩=>by replace ho:=z▸ho;cases ho) ..) ?_;exact r,m,bJ.ns (λo e=>k.same a o r e) n⟩
section
variable{call:Call}
theorem qE{L:zJ}(hA:A.frames=some (env::cY))(hf:env.frame=some L)(F:Frs (env::cY) γ s.heap){KF e:zJ}{vs:Array zo}{head:zo}{had:Bool}
  (he:s.heap.get? e=some o) (hc:o.cls=.ref KF) (x6:o.dict=some dd) (hd:o.data=.fields vs) (re:γ.R e=.exc) (rd:γ.R dd=.exc) (ne:e≠dd) (ds:(s.heap.get? dd).isSome) (hz:1<vs.size) {Q:Unit->zt->Prop}
  (h:∀γ' h',bf γ s.heap γ' h'->mF KF γ' h' e dd->Traced h' e->(∀od,s.heap.get? dd=some od->h'.get? dd=some od)->Q () {s with heap:=h'}):
  zx (zv prog w) A (do let a ←frameOf env;let pl ←entryPlaceOf L had;let b ←EntryCells.newEntry head a .none (rawInt L) .none pl;setField (.ref e) 1 b) Q E s:=by
 have nf:∀a,γ.R a=.exc->a∉(env::cY).filterMap (·.frame):=λa r hm=>by
  rcases(F.mem hm).1 with z |z <;> rw[r] at z <;> cases z
 refine zf (wpAny_frameOf_fun hA F.fnf hf λcF G5=>?_);refine zf (wpAny_entryPlaceOf λpl J9=>?_);refine zf (wpAny_newObj_type ?_ (J9.sizeOk5 _ _ _ _ _));have qF:=(G5.2.1 e (nf e re)).trans he;have MT:=G5.2.1 dd (nf dd rd);generalize hts:([head,Zm L,.none,rawInt L,.none]++(if pl.isEmpty then yz 6 yp else pl))=ts;have h3:3<ts.length:=by refine gL hts ?_;simp only[Zr,yh,YO];omega
 have hT:(cF.push {cls:=.type "traceback",dict:=none,data:=.fields ts.toArray}).get? cF.objs.size=some {cls:=.type "traceback",dict:=none,data:=.fields ts.toArray}:=zq _ rfl;have MU:=zj {cls:=.type "traceback",dict:=none,data:=.fields ts.toArray} qF;have KY:=yD (zZ qF);have re2:cx γ.R cF.objs.size .exc e=.exc:=gR (aN (Z8 KY) ..) re;refine wpAny_setField MU hd hz ?_;have IA:=ZO hd (·.setIfInBounds 1 (Zm cF.objs.size));have G6:=Ze (ya (·.setIfInBounds 1 (Zm cF.objs.size))) MU (Z1 IA);have hds:cF.objs.size≠dd:=λq=>by
  refine ze (zp.mp ds) λod ho=>?_;rw[←MT] at ho;exact absurd (zZ ho) (gR q (yv _))
 have MV:∀od,s.heap.get? dd=some od->((cF.push {cls:=.type "traceback",dict:=none,data:=.fields ts.toArray}).update e (ya (·.setIfInBounds 1 (Zm cF.objs.size)))).get? dd=some od:=λod ho=>
  (ZD _ _ ne).trans (zj _ (MT.trans ho))
 have g1:(vs.setIfInBounds 1 (Zm cF.objs.size))[1]? =some (.ref cF.objs.size):=by simp[hz]
 refine h _ _ ((bf.slots F G5).trans ((bf.push (γ:=γ) hT).trans (bf.upd (γ:={γ with R:=cx γ.R cF.objs.size .exc}) re2 (ZU (cF.push {cls:=.type "traceback",dict:=none,data:=.fields ts.toArray}) e (ya (·.setIfInBounds 1 (Zm cF.objs.size)))) (gR G6 rfl)))) ⟨_,_,G6,(abO ..).trans hc,?_,IA,re2,by rewrite [show({γ with R:=cx γ.R cF.objs.size .exc}:Gh).R=cx γ.R cF.objs.size .exc from rfl];refine gR (aN (Z8 hds) ..) ?_;exact rd,ne,?_,.inr ⟨_,_,_,g1,bw,KY,hds,((ZD (cF.push {cls:=.type "traceback",dict:=none,data:=.fields ts.toArray}) (ya (·.setIfInBounds 1 (Zm cF.objs.size))) (Z8 KY)).trans hT),rfl,by simpa using h3⟩⟩ ⟨_,_,_,G6,IA,g1⟩ MV
 ·obtain⟨oc,od,dt,sl⟩:=o
  cases dt <;> exact x6
 ·exact ze (zp.mp ds) λod ho=>(gR (MV od ho ..) rfl)
theorem nW{L:zJ}(hA:A.frames=some (env::cY))(hf:env.frame=some L)(F:Frs (env::cY) γ s.heap){KF e:zJ}(X:mF KF γ s.heap e dd){Q:Unit->zt->Prop}
  (h:∀γ' h',bf γ s.heap γ' h'->mF KF γ' h' e dd->Traced h' e->(∀od,s.heap.get? dd=some od->h'.get? dd=some od)->Q () {s with heap:=h'}):zx (zv prog w) A (noteFrame (.ref e) env) Q E s:=by
 obtain⟨o,vs,he,hc,x6,hd,re,rd,ne,ds,tb⟩:=id X;unfold noteFrame;refine gR hf ?_;rcases tb with h1 |⟨T,oT,ts,h1,rT,KY,RQ,hT,RS,h3⟩
 ·refine zf (wpAny_field he hd h1 ?_)
  exact iT (by decide) (qE hA hf F he hc x6 hd re rd ne ds (yo.mp h1).1 h)
 ·refine zf (wpAny_field he hd h1 ?_)
  refine NP (by simp:(Zm T != yp)=true) (zf (wpAny_field hT RS (y6 h3) ?_));refine wpAny_ite_split (λ_=>?_) λ_=>?_
  ·exact zl (h γ s.heap (.refl _ _) X ⟨_,_,_,he,hd,h1⟩ λ_ e=>e)
  ·refine zf (wpAny_setField hT RS h3 ?_)
   have k1:=bf.upd (γ:=γ) rT (ZU s.heap T (ya (·.setIfInBounds 3 yp))) (by refine gR ((Ze (ya (·.setIfInBounds 3 yp)) hT (Z1 (ZO RS (·.setIfInBounds 3 yp)))) ..) ?_;rfl);have aM:∀b,b≠T->(s.heap.update T (ya (·.setIfInBounds 3 yp))).get? b=s.heap.get? b:=λb hb=>ZD _ _ (Z8 hb);refine qE hA hf (F.AR k1) ((aM e (Z8 KY)).trans he) hc x6 hd re rd ne (by show(ad0 _ _).isSome=true;exact gR (aM dd (Z8 RQ) ..) ds) (yo.mp h1).1 λγ' h' k2 X' tr kd=>?_;exact h γ' h' (k1.trans k2) X' tr λod ho=>kd od ((aM dd (Z8 RQ)).trans ho)
theorem gO{KF e:zJ}(X:mF KF γ s.heap e dd){fl:Option zJ}{Q:Unit->zt->Prop}
  (h:∀h',bf γ s.heap γ h'->mF KF γ h' e dd->(Traced s.heap e->Traced h' e)->(∀od,s.heap.get? dd=some od->h'.get? dd=some od)->Q () {s with heap:=h'}):zx (zv prog w) A (setFlight (.ref e) fl) Q E s:=by
 obtain⟨o,vs,he,hc,x6,hd,re,rd,ne,ds,tb⟩:=id X;rcases tb with h1 |⟨T,oT,ts,h1,rT,KY,RQ,hT,RS,h3⟩
 ·refine zf (wpAny_field he hd h1 ?_)
  exact iT (by decide) (zl (h s.heap (.refl _ _) X id λ_ e=>e))
 ·refine zf (wpAny_field he hd h1 ?_)
  refine NP (by simp:(Zm T != yp)=true) ?_;have fr:=ZO RS (·.setIfInBounds 3 (fl.elim yp λf=>rawInt f));have hT':=Ze (ya (·.setIfInBounds 3 (fl.elim yp λf=>rawInt f))) hT (Z1 fr);have aM:∀b,b≠T->(s.heap.update T (ya (·.setIfInBounds 3 (fl.elim yp λf=>rawInt f)))).get? b=s.heap.get? b:=λb hb=>ZD _ _ (Z8 hb);refine wpAny_setField hT RS h3 (h _ (bf.upd rT (ZU ..) (by refine gR hT' ?_;rfl)) ⟨o,vs,(aM e (Z8 KY)).trans he,hc,x6,hd,re,rd,ne,by refine gR (aM dd (Z8 RQ) ..) ?_;exact ds,.inr ⟨T,_,_,h1,rT,KY,RQ,hT',fr,by simpa using h3⟩⟩
   (λ_=>⟨o,vs,T,(aM e (Z8 KY)).trans he,hd,h1⟩) λod ho=>(aM dd (Z8 RQ)).trans ho)
theorem C3{L:zJ}(hA:A.frames=some (env::cY))(hf:env.frame=some L)(F:Frs (env::cY) γ s.heap){KF e:zJ}(X:mF KF γ s.heap e dd){Q:Unit->zt->Prop}
  (h:∀γ' h',bf γ s.heap γ' h'->mF KF γ' h' e dd->(∀od,s.heap.get? dd=some od->h'.get? dd=some od)->Q () {s with heap:=h'}):zx (zv prog w) A (leaving env (.ref e)) Q E s:=by
 refine zf (nW hA hf F X λγ' h' k1 X' _ kd=>gO X' λqZ k2 X'' _ kd'=>?_);exact h γ' qZ (k1.trans k2) X'' λod ho=>kd' od (kd od ho)
theorem G7{L:zJ}(hA:A.frames=some (env::cY))(hf:env.frame=some L)(F:Frs (env::cY) γ s.heap){KF e:zJ}(X:mF KF γ s.heap e dd){E':zo->zt->Prop}
  (h:∀γ' h',bf γ s.heap γ' h'->mF KF γ' h' e dd->(∀od,s.heap.get? dd=some od->h'.get? dd=some od)->E' (.ref e) {s with heap:=h'}):notedBy (zv prog w) A env (λe s'=>adB (zv prog w) A env E' e s') (.ref e) s:=by
 refine zI (nW (E:=λ_ _=>False) hA hf F X (Q:=λ_ s'=>adB (zv prog w) A env E' (.ref e) s') λγ' h' k1 X' tr kd=>?_) (λ_ _ q=>q) λ_ _ q=>q.elim;obtain⟨o,vs,T,he,hd,h1⟩:=tr;refine zf (wpAny_field he hd h1 ?_);exact iT (zi) (gO X' λqZ k2 X'' _ kd'=>(h γ' qZ (k1.trans k2) X'' λod ho=>kd' od (kd od ho)))
end
section
variable{call:Call}
theorem bf.lk(k:bf γ h γ' h'):Sub (lk γ.R h) (lk γ'.R h'):=λb o e=>by
 obtain⟨r,e'⟩:=aw e;have rr:γ'.R b=γ.R b:=(k.R b).resolve_right λ⟨n,_⟩=>by rw[n] at e';cases e'
 exact aB (rr.trans r) (k.keep b o (bA r rfl) (bA r rfl) (bA r rfl) e')
theorem w3(vh:iE A fx)(hA:A.frames=some (fx.env::cY))(I:Inv fx c)(K:ak c.γ c.g.length c.s.heap γ' n' h')(hl:(γ'.R fx.env.locals=.fr\/γ'.R fx.env.locals=.sys)/\∃m,h'.Ns fx.env.locals m):
  Frs (fx.env::cY) γ' h':=λenv he=>by
 refine zg (λq kB=>?_) (vh _ hA env he);refine ze kB λa qW=>?_;obtain⟨e,k⟩:=qW;rcases k with k |rfl
 ·refine zg (λr rD=>?_) (I.f.out a k);refine ze rD λm n=>?_
  refine ze (id n) λo nq=>(ze nq λ_ o9=>(ze o9 λ_ ry=>?_));obtain⟨ho,_⟩:=ry;exact⟨q,a,e,.inl (K.fr a o r ho).1,m,bJ.ns (λo e=>(K.fr a o r e).2) n⟩
 ·exact⟨q,_,e,hl.1,hl.2⟩
theorem WZ(vh:iE A fx)(hA:A.frames=some (fx.env::cY))(hf:fx.env.frame=some fx.env.locals):jM A fx:=by
 have fin:∀{α:Type} c (r:R α) s' p g' γ' (e dd:zJ) ps v,Inv fx c->r=.ex p g'->aS γ' g' s'->ak c.γ c.g.length c.s.heap γ' g'.length s'.heap->Frs (fx.env::cY) γ' s'.heap->
   s'.heap.Ns1 dd ps->ps sp=some v->DR (lk γ'.R s'.heap) p v->∀mC qZ,bf γ' s'.heap mC qZ->mF KF mC qZ e dd->(∀od,s'.heap.get? dd=some od->qZ.get? dd=some od)->XS fx c r (.ref e) {s' with heap:=qZ}:=by
  intro α c r s' p g' γ' e dd ps v I er GI K F hd hv dr mC qZ k X' kd;refine zg (λ_ kL=>?_) ((F.AR k) fx.env (.head _));refine ze kL λa lL=>?_;obtain⟨e2,r2,r3⟩:=lL;rw[hf] at e2;obtain rfl:=zh e2;exact⟨p,g',mC,er,⟨e,dd,ps,v,rfl,X',hd.at kd,hv,dr.sub k.lk⟩,k.rK GI,k.ext K,r2,r3⟩
 refine⟨λc r x s' I h=>?_,λc r x s' I h=>?_⟩
 ·obtain⟨p,g',γ',er,⟨e,dd,ps,v,rfl,X,hd,hv,dr⟩,GI,K,hl,IC⟩:=h
  have F:=w3 vh hA I K ⟨hl,IC⟩;exact G7 hA hf F X λmC qZ k X' kd=>fin c r s' p g' γ' e dd ps v I er GI K F hd hv dr mC qZ k X' kd
 ·obtain⟨p,g',γ',er,⟨e,dd,ps,v,rfl,X,hd,hv,dr⟩,GI,K,hl,IC⟩:=h
  have F:=w3 vh hA I K ⟨hl,IC⟩;exact C3 hA hf F X λmC qZ k X' kd=>fin c r s' p g' γ' e dd ps v I er GI K F hd hv dr mC qZ k X' kd
end
end Lw
namespace Lw
open PySem PySem.Calls PyProof.Rows PySem.W aZ
variable{v v1:zo}{α:Type}{vals:List zo}
theorem C4{h:yi}{a:zJ}{x:Obj×YW}(e:BL h a=some x):h.get? a=some x.1/\x.1.data=.func x.2:=by
 refine ze (bind_some e) λo FL=>(zg (λe1 e2=>?_) FL);refine ze (map_some e2) λfd jN=>(zg (λe3 FK=>?_) jN);refine gL FK ?_;refine⟨e1,?_⟩;cases hd:o.data with
 |func f=>rw[hd] at e3;exact congrArg _ (zh e3)
 |_=>rw[hd] at e3;exact ns e3
theorem qG{x:Str}(h:NZ v=some x):∃t,v=.str x t:=by
 cases v with
 |str y t=>exact⟨t,congrArg (Value.str · t) (zh h)⟩
 |_=>exact ns h
theorem nX{h:yi}{a:zJ}{i:Nat}(e:DX h a i=some v):∃o vs,h.get? a=some o/\o.data=.fields vs/\vs[i]? =some v:=by
 refine ze (bind_some e) λo t7=>(zg (λe1 e2=>?_) t7);cases hd:o.data with
 |fields vs=>replace e2:=hd▸e2;exact⟨o,vs,e1,hd,e2⟩
 |_=>replace e2:=hd▸e2;exact ns e2
theorem C5{h:yi}{x:YW}(e:Mj h x=true):h.CodeRec x.code x.qualname:=by refine zg (λe1 e2=>?_) (aa e);refine ze (bind_some (of_decide_eq_true e2)) λv pZ=>?_;obtain⟨t,rfl⟩:=qG pZ.2;obtain⟨o,vs,q⟩:=nX pZ.1;exact⟨_,o,vs,t,of_decide_eq_true e1,q.1,q.2.1,q.2.2⟩
theorem G8{n:Nat}(h:vals.length=n):(ZW n).map (λi=>vals.getD i .none)=vals:=by
 refine Y9 λi=>(gR Zd ?_);by_cases q:i<n
 ·refine gR (Yb q ..) ?_;refine gR (zB (h▸q) ..) (gR (yQ ..) ?_);refine gR ZM (gR (zB (h▸q) ..) ?_);rfl
 ·refine gR (Zs (ZS (yl▸q)) ..) (gR (Zs (h▸ZS q) ..) ?_);rfl
theorem G9{h:yi}{a:zJ}{b:List Stmt}{ns:List Str}{sc:List (Str×Zc)}{cl:List (Str×zJ)}(e:N0 h a ns sc=N1 b ns sc cl):c8 λo fd=>L9 (BL h a=some (o,fd)) (h.get? a=some o) (o.data=.func fd) (h.CodeRec fd.code fd.qualname) (fd.body=.stmts b) (fd.scope.isCoroutine=false) (fd.scope.isGenerator=false) (fd.scope.kind=.function)
  (fd.globals=mainGlobals) (fd.builtins=builtinsNs) (∀x k,(x,k)∈sc->fd.scope.names.lookup x=some k) (∀vals:List zo,vals.length=ns.length->bindArgs fd ⟨vals,[]⟩=pure (ns.zip vals)) (fd.closure=cl):=by
 refine ze (map_some e) λx ud=>(zg (λe1 e=>?_) ud);refine zg (λh1 h2=>?_) (C4 e1);refine⟨x.1,x.2,e1,h1,h2,C5 (congrArg (·.2.1) e),congrArg (·.1.1) e,congrArg (·.1.2.1) e,congrArg (·.1.2.2.1) e,congrArg (·.1.2.2.2.1) e,congrArg (·.1.2.2.2.2.1) e,congrArg (·.1.2.2.2.2.2) e,λy k hy=>e9 (congrArg (·.2.2.1) e) hy,
  λvals hv=>?_,congrArg (·.2.2.2.2) e⟩
 exact gL (G8 hv ..) (congrFun (congrArg (·.2.2.2.1) e) λi=>vals.getD i .none)
theorem pI:vD T.top=lp:=by rw[tT];exact dU
theorem kT:K L T.top=T.K:=by rw[tT];rfl
theorem W0:T.fa=L.i8:=by rw[tT];rfl
theorem W4:T.tb=L.tb:=by rw[tT];rfl
theorem acq{p:Nat×Fn}(h:p∈L.Dy):N0 T.top (L.i8 p.1) (tq L p.2) (vC L p.2)=N1 (eC L.nm p.2.body) (tq L p.2) (vC L p.2) (SM L p.1):=
 e9 (f:=λp:Nat×Fn=>N0 T.top (L.i8 p.1) (tq L p.2) (vC L p.2)) (g:=λp=>N1 (eC L.nm p.2.body) (tq L p.2) (vC L p.2) (SM L p.1)) (congrArg (·.2.2.2.1.1) pI) h
theorem W5{x:Nat×Nat×zJ×zJ×zJ}(h:x∈L.sx):(N2 L T.top (L.i8 x.1) x.2.2 (L.i8 x.2.1),L.jt.map λp=>if p.1=x.2.1 then some (Mk L T.top (L.gY p.2) x.2.2.1) else none)=(N3 L.e7 pw.main.file x.2.2 (some (ZF "function")) true,L.jt.map λp=>if p.1=x.2.1 then some (Ml (.ref (L.i8 p.1))) else none):=
 e9 (f:=λx:Nat×Nat×zJ×zJ×zJ=>(N2 L T.top (L.i8 x.1) x.2.2 (L.i8 x.2.1),L.jt.map λp=>if p.1=x.2.1 then some (Mk L T.top (L.gY p.2) x.2.2.1) else none)) (g:=λx=>(N3 L.e7 pw.main.file x.2.2 (some (ZF "function")) true,L.jt.map λp=>if p.1=x.2.1 then some (Ml (.ref (L.i8 p.1))) else none)) (congrArg (·.2.2.2.1.2) pI) h
theorem PZ{h:yi}{a:zJ}(e:SI h a=true):∃o cd,h.get? a=some o/\o.data=.cls cd:=by
 refine ze (vt e) λo FG=>(zg (λe1 e2=>?_) FG);cases hd:o.data with
 |cls cd=>exact⟨o,cd,e1,hd⟩
 |_=>rw[hd] at e2;exact absurd e2 zi
theorem w4{d:Data}{v:Option zo}(h:Mi d=some v):d=.cell v:=by
 cases d with
 |cell u=>exact congrArg _ (zh h)
 |_=>exact ns h
theorem Ha{h:yi}{a f2:zJ}{o:Obj}{fd:YW}(hf:BL h a=some (o,fd)){x:zJ×zJ×zJ}{s0 file:Str}(e:N2 L h a x f2=N3 s0 file x (some (ZF "function")) true):
  (∃(oc dK oD:Obj) (ar:Arg) (vs:Array zo) (tf:Tok) (AP:Yl),(∀y∈fd.scope.names,y.2≠zL)/\ar.arg=s0/\(fd.params.posonlyargs++fd.params.args).head? =some ar/\fd.code=.ref x.2.1/\h.get? x.2.1=some oc/\oc.data=.fields vs/\vs[2]? =some (.str file tf)/\
   h.get? x.2.2=some dK/\dK.data=.cell (some (.ref x.1))/\h.get? x.1=some oD/\oD.data=.cls AP/\fd.scope.names.lookup ("super":Str)=some .globalImplicit/\fd.scope.names.lookup ("__class__":Str)=some .free)/\
  ∃of,aG (h.get? f2=some of) (of.cls=.type "function") (fnIn (K L h) f2=true):=by
 have e1:=congrArg (·.1) e;have e1:((BL h a).map λy=>(y.2.scope.names.all (λp=>decide (p.2≠zL)),(y.2.params.posonlyargs++y.2.params.args).head?.map (·.arg),y.2.code,y.2.scope.names.lookup ("super":Str),y.2.scope.names.lookup ("__class__":Str)))=some (true,some s0,Zm x.2.1,some adi,some ZE):=e1;rw[hf] at e1;have e1:=zh e1;obtain⟨ar,z1,z2⟩:=map_some (congrArg (·.2.1) e1);refine ze (bind_some (congrArg (·.2.1) e)) λv t5=>?_;obtain⟨tf,rfl⟩:=qG t5.2;obtain⟨oc,vs,z5,z6,z7⟩:=nX t5.1;refine ze (map_some (congrArg (·.2.2.1) e)) λdK o9=>(ze (PZ (congrArg (·.2.2.2.1) e)) λoD lM=>?_);obtain⟨AP,za,zb⟩:=lM;obtain⟨of,zc,zd⟩:=map_some (congrArg (·.2.2.2.2.1) e);exact⟨⟨oc,dK,oD,ar,vs,tf,AP,λy hy=>of_decide_eq_true (zC.mp (congrArg (·.1) e1) y hy),z2,z1,congrArg (·.2.2.1) e1,z5,z6,z7,o9.1,w4 o9.2,za,zb,congrArg (·.2.2.2.1) e1,congrArg (·.2.2.2.2) e1⟩,of,zc,zd,congrArg (·.2.2.2.2.2) e⟩
theorem MW{h:yi}{C D:zJ}(e:Mk L h C D=Ml v):aF (mroIn (K L h) C (.ref D)=some true) (∃cd,aF (clsIn (K L h) C=some cd) (alongIn (K L h) "__init__" ((cd.mro.dropWhile (· != .ref D)).drop 1)=some (some v))):=
 ⟨congrArg (·.1) e,(map_some (congrArg (·.2) e)).imp λ_ z=>⟨z.1,z.2⟩⟩
def W6(p:Nat×Fn):Bool:=decide (p.2.vs.Nodup)&&Nat.ble p.2.np p.2.vs.length&&Nat.ble p.2.vs.length p.2.ns&&p.2.vs.all (λx=>(p.2.sc.contains (x,.local)||p.2.sc.contains (x,.cell))&&!(L.nm x==("__debug__":Str)))&&
 ((L.sx.lookup p.1).isNone||(p.2.sc.all (λq=>q.2 != .cell)&&decide ((p.2.vs[0]?).map L.nm=some L.e7)))
theorem acr:L.Dy.all W6=true:=by kernel_rfl
variable{a f2 e:zJ}
theorem iw{a:Bool}(h:(!a)=true):a=false:=by cases a <;> first |rfl |cases h
theorem N7(x:Nat):T.tb.nm x=L.nm x:=by refine gR (W4 ..) ?_;rfl
theorem MX:prog.main.file=pw.main.file:=by unfold prog;rfl
theorem Hb:(prog.main.scope.names.lookup ("super":Str)).isSome=false:=by unfold prog;kernel_rfl
abbrev IF:Obj:=excClassObj "KindFault" "KindFault" KF 87 [.ref 76] [.ref 76,.ref 47,.type "Exception",.type "BaseException",.type "object"] true [] [] false none none (some (.ref 79)) none (some (.str "KindFault" 269)) (some (.str "KindFault" 277)) (some (.bool true)) "Exception.__new__"
theorem kK{f:Frag->α}{x:α}(e:f (K L T.top)=x):f T.K=x:=kT▸e
theorem jV:(vD T.top).2.2.2.2.1=lp.2.2.2.2.1:=congrArg (·.2.2.2.2.1) pI
theorem kf_at:T.top.get? KF=some IF:=congrArg (·.1) jV
theorem AS:jv T.K KF=true:=kK (f:=λK=>jv K KF) (congrArg (·.2.1.1) jV)
theorem W7:mroIn T.K KF (.type "Exception")=some true:=kK (f:=λK=>mroIn K KF (.type "Exception")) (congrArg (·.2.1.2.1) jV)
theorem KZ:keepIn T.K (.ref KF)=true:=kK (f:=λK=>keepIn K (.ref KF)) (congrArg (·.2.1.2.2.1) jV)
theorem AU:∃mg,T.top.Ns mainGlobals mg/\mg (T.tb.nm L.xn)=some (.ref KF):=⟨_,.of_isNs (congrArg (·.1.2.1) pI),N7 L.xn▸congrArg (·.2.1.2.2.2) jV⟩
theorem iJ n {v:Option (Option zo)} (e:Z7 (K L T.top) (.ref KF) n=v):Z7 T.K (.ref KF) n=v:=kK (f:=λK=>Z7 K (.ref KF) n) e
theorem P0:Z7 T.K (.ref KF) "__setattr__"=some (some (.builtin "object.__setattr__")):=iJ _ (congrArg (·.2.2.1.1) jV)
theorem K6:Z7 T.K (.ref KF) "__init__"=some (some (.ref L.f2)):=iJ _ (congrArg (·.2.2.1.2.1) jV)
theorem W8:Z7 T.K (.ref KF) L.bo=some none:=iJ _ (congrArg (·.2.2.1.2.2.1) jV)
theorem MY:Z7 T.K (.ref KF) sp=some none:=iJ _ (congrArg (·.2.2.1.2.2.2.1) jV)
theorem W9:Z7 T.K (.ref KF) "__getattribute__"=some (some (.builtin "BaseException.__getattribute__")):=iJ _ (congrArg (·.2.2.1.2.2.2.2.1) jV)
theorem Xa:Z7 T.K (.ref KF) "__getattr__"=some none:=iJ _ (congrArg (·.2.2.1.2.2.2.2.2) jV)
theorem Xb:typeIn T.K (.ref L.f2)=some (.type "function"):=kK (f:=λK=>typeIn K (.ref L.f2)) (congrArg (·.2.2.2.1) jV)
abbrev AbK(D:zJ)(v:zo):Prop:=aF (mroIn T.K KF (.ref D)=some true) (∃cd,aF (clsIn T.K KF=some cd) (alongIn T.K "__init__" ((cd.mro.dropWhile (· != .ref D)).drop 1)=some (some v)))
theorem Xc{D:zJ}(e:Mk L T.top KF D=Ml v):AbK D v:=by have z:=MW e;replace z:=kT▸z;exact z
theorem MZ:AbK x1.1 (.builtin "Exception.__init__"):=Xc (congrArg (·.2.2.2.2.1) jV)
theorem M0:AbK x2.1 (.ref L.f1):=Xc (congrArg (·.2.2.2.2.2) jV)
theorem Xd:∃cd,clsIn T.K KF=some cd/\cd.hasDict=true:=(vt AS).imp λ_ z=>⟨z.1,(aa z.2).2⟩
theorem Hc(te:T.top.get? e=none):e≠KF:=λq=>ns (te.symm.trans (q▸kf_at))
theorem AW:L.e7≠L.bo/\L.e7≠sp/\L.bo≠sp:=by decide+kernel
end Lw
namespace Lw
open PySem PySem.Calls PyProof.Rows PySem.W
variable{h h':yi}{s s' az:zt}{env:Zj}{c c' c1 c₀ c2:ah}{pos p pf pa p1:Pos}{a b i1 i2 z ax a1 a2 S ti to I dd:zJ}{m x n' i j cl ep:Nat}{y q r:D}{P ng:Prop}{o:Obj}{L L':cT}{ps binds:List (Str×zo)}{v u v1:zo}{vs ws vals rest:List zo}{γ γ':Gh}{ks:List aA}{xs:List (List aA×zJ)}{ov:Option zo}{g:G}{fx:Fx}{e e1 e':Env}{t t1 t2:Bool}{Q E:zo->zt->Prop}{sl:Slot}{α β:Type}{ce:CE}{op:ad4}{es ifs:cz}{φ:Nat->zJ×zJ}{fs:List (Nat×AV)}{l':List D}{M:Model}{name:Str}{tk:Tok}{A:ZV}{ts:List (Nat×Nat×Pos)}{tp:Option Pos}{ci:CI}{acc:List (Str×zJ)}{names:List (Str×Zc)}{F:Fn}{scope:Scope}{gs:fQ}{sc:List (Nat×Zc)}{kl:List (List aA)}{src:AV}{ord:List (Int×zo)}{xl:List Str}{cd:Yl}{cY:List Zj}{qu:ah->Prop}{Md:Nat->zo->ah->Prop}
section
variable{g:Array GenState}{d:Drawn}{t:Nat}{os:yO}
abbrev P4:List Value:=[.ref KF,.ref 76,.ref 47,.type "Exception",.type "BaseException",.type "object"]
abbrev FX:=PySem.F.excBase_Exception
theorem K7{Q:Bool->zt->Prop}(hC:h.get? KF=some IF)(hq:Q true ⟨h,g,d,t,os⟩):zx M A (isType (.ref KF)) Q E ⟨h,g,d,t,os⟩:=by
 repeat (first |refine wpAny_loadPart_at hC ?_ |wp_step)
 exact hq
theorem pJ{Q:Unit->zt->Prop}(hC:h.get? KF=some IF)
  (hq:Q () ⟨h,g,d,t,os⟩):zx M A (checkBuiltinCall "Exception.__new__" ⟨.ref KF::rest,[]⟩) Q E ⟨h,g,d,t,os⟩:=by
 have Xe:P4.contains (.type "Exception")=true:=by decide
 delta checkBuiltinCall
 refine gR FX.newKind (gR FX.newSplit ?_);refine NP rfl (zf (K7 hC ?_));refine iT zi (zf (wpAny_isSubtype_exc hC (gR Xe ?_)));refine iT zi (zf (wpAny_staticBase_exc hC ?_));refine zf (wpAny_madeBy_exc hC ?_);refine iT (λe=>zi ((bne_self_eq_false _).symm.trans e)) ?_;refine gR FX.newRow ?_;exact zl hq
theorem uO{R:yX->zt->Prop}(hC:h.get? KF=some IF)
  (hq:R (.ok (.ret (.ref (h.objs.size+1)))) ⟨(h.push {cls:=.type "tuple",data:=.seq rest.toArray}).push
   {cls:=.ref KF,data:=.fields #[.ref h.objs.size,.none,.none,.none,.bool false,.none]},g,d,t,os⟩) (AX:rest.length<=yG):
  ZH (zv prog w) A (.builtin "Exception.__new__" ⟨.ref KF::rest,[]⟩) R ⟨h,g,d,t,os⟩:=by
 have ac7:=FX.ends;have Xf:P4.contains (.type "Exception")=true:=by decide
 have hcA:P4.contains (.type "AttributeError")=false:=by decide
 have hcN:P4.contains (.type "NameError")=false:=by decide
 refine codeAny_builtinAt FX.entry (_root_.PySem.wpAt_bind (_root_.PySem.wpAt_bind (_root_.PySem.wpAt_stack λp below=>_root_.PySem.wpAt_of_wpAny ?_)))
 wp_walk
 refine _root_.PySem.wpAt_of_wpAny (gR FX.owner ?_)
 repeat (first |with_reducible refine wpAny_madeHere_exc FX.canon hC ?_ |with_reducible refine wpAny_loadPart_at hC ?_ |(with_reducible refine wpAny_isSubtype_exc hC ?_;first |refine gR Xf ?_ |refine gR hcA ?_ |refine gR hcN ?_) |wp_step)
 refine(?_:R _ _);exact gR (Zp ..) hq
theorem pK{K:Frag}{fI:zJ}{Q:Fin->zt->Prop}
  (hC:h.get? KF=some IF) (X:K.In h) (hi:Z7 K (.ref KF) "__init__"=some (some (.ref fI))) (hf:typeIn K (.ref fI)=some (.type "function"))
  (hq:∀h' e,Heap.MadeExcOf h h' e (.ref KF) rest->zx (zv prog w) A (call (.ref fI) (.ref e::rest)) (λr s'=>r=.none/\Q (.done (.ret (.ref e))) s') E ⟨h',g,d,t,os⟩) (AX:rest.length<=yG):
  zx (zv prog w) A (Yc.«type.__call__» ⟨.ref KF::rest,[]⟩) Q E ⟨h,g,d,t,os⟩:=by
 refine zf (zf (zf (wpAny_loadPart_at hC (zl (zl ?_)))));refine zf (wpAny_madeBy_exc hC (zf (zl (zf (zT ?_)))));refine wpAny_runValue (codeAny_call_builtin_code (Yk _ FX.quiet) (pJ hC ?_));refine uO hC ?_ AX;have up:∀b o,h.get? b=some o->((h.push {cls:=.type "tuple",data:=.seq rest.toArray}).push {cls:=.ref KF,data:=.fields #[.ref h.objs.size,.none,.none,.none,.bool false,.none]}).get? b=some o:=λb o e=>zj _ (zj _ e);have Xg:=up _ _ hC;have Xh:=λa o e=>up a o (X a o e);have GD:((h.push {cls:=.type "tuple",data:=.seq rest.toArray}).push {cls:=.ref KF,data:=.fields #[.ref h.objs.size,.none,.none,.none,.bool false,.none]}).get? (h.objs.size+1)=some {cls:=.ref KF,data:=.fields #[.ref h.objs.size,.none,.none,.none,.bool false,.none]}:=by heap_get
 have hcC:P4.contains (.ref KF)=true:=by decide
 refine zf (zf (zf (wpAny_loadPart_at GD (zl (wpAny_isSubtype_exc Xg (gR hcC ?_))))));refine zf (zT (zf (zf (zf (wpAny_loadPart_at GD (zl ((looks_findIn Xh hi).here ?_)))))));refine(zT (zf ((bind_fn Xh (.ref (h.objs.size+1)) hf).here ?_)));refine zf (zI (hq _ (h.objs.size+1) ⟨up,adF (zN _),h.objs.size,GD,adF (zm _),?_⟩) (λr s' hr=>?_) λ_ _ x=>x)
 ·exact zj _ (Heap.get?_push_at rfl rfl)
 ·refine gR hr.1 ?_
  wp_walk
  exact hr.2
theorem call_exc{K:Frag}{fI:zJ}
  (hC:h.get? KF=some IF) (X:K.In h) (hi:Z7 K (.ref KF) "__init__"=some (some (.ref fI))) (hf:typeIn K (.ref fI)=some (.type "function"))
  (hq:∀h' e,Heap.MadeExcOf h h' e (.ref KF) rest->zx (zv prog w) (A.under (.builtin "type.__call__" ⟨.ref KF::rest,[]⟩)) (call (.ref fI) (.ref e::rest)) (λr s'=>r=.none/\Q (.ref e) s') E ⟨h',g,d,t,os⟩) (AX:rest.length<=yG):
  zx (zv prog w) A (call (.ref KF) rest) Q E ⟨h,g,d,t,os⟩:=by
 have f1:=tc_lookup;have f2:=tc_bind (.ref KF);have hT:(⟨h,g,d,t,os⟩:zt).TypeIs (.ref KF) "type":=⟨_,hC,rfl⟩;refine wpAny_call (codeAny_of_tree ?_);refine(?_:zx _ _ (callAny (.ref KF) _) _ _ _)
 repeat (any_goals (first |assumption |with_reducible refine wpAny_loadPart_at hC ?_ |wp_step))
 refine⟨rfl,?_⟩;refine codeAny_call_builtin_at (Yk _ (by decide+kernel)) entry_typeCall (wpAny_check_type_call_sub hC (pK hC X hi hf (λh' e hm=>?_) AX));exact hq h' e hm
end
theorem K9:typeOf (.builtin "Exception.__init__")=pure (.type "wrapper_descriptor"):=by kernel_rfl
theorem AY:_root_.PySem.Slot "wrapper_descriptor" "__get__" "wrapper_descriptor.__get__":=.of (owner:="wrapper_descriptor") (n:="__get__") (by refine gR (typeLookup_type ..) (gR builtinLookup_eq_fast ?_);kernel_rfl) (by decide+kernel) (by decide+kernel) (by decide+kernel)
 (by first |exact .inl (by decide+kernel) |exact .inr (by decide+kernel)) (by refine gR (isSubtype_type ..) ?_;kernel_rfl)
theorem Hd:entryFor table "wrapper_descriptor.__get__"=some Yc.«wrapper_descriptor.__get__»:=entryFor_of_tree (by kernel_rfl)
theorem La(a b c:zo):argsOk "wrapper_descriptor.__get__" ⟨[a,b,c],[]⟩:=by unfold argsOk;kernel_rfl
theorem Xi(x C:zJ):Yc.«wrapper_descriptor.__get__» ⟨[.builtin "Exception.__init__",.ref x,.ref C],[]⟩=((do
  if !(←isInstance (.ref x) (.type "Exception")) then
   rule "descr.get.wrong-instance"
   raiseError "TypeError" s!"descriptor '{("__init__" : Str).toString}' for '{← typeName (.type "Exception")}' objects doesn't apply to a '{← typeNameOf (.ref x)}' object") >>=λ_=>(do
  ret (←newFields "method-wrapper" [.builtin "Exception.__init__",.ref x]))):=by kernel_rfl
section
variable{g:Array GenState}{d:Drawn}{t:Nat}{os:yO}
theorem He{so D x C:zJ}{Hf l:List zo}{K:Frag}{Q:YQ->zt->Prop}
  (DF:h.get? so=some {cls:=.type "super",dict:=none,data:=.fields #[.ref D,.ref x,.ref C],slots:=#[]}) (M1:ad8 (zv prog w) h (opaqueClassAbove (.ref C)) none)
  (hC:ad8 (zv prog w) h (mroOf (.ref C)) Hf) (hl:(Hf.dropWhile (· != .ref D)).drop 1=l) (X:K.In h)
  (hf:alongIn K "__init__" l=some (some (.builtin "Exception.__init__"))) (hi:ad8 (zv prog w) h (isInstance (.ref x) (.type "Exception")) true) (hxC:x≠C)
  (hq:Q (.done (.ret (.ref h.objs.size))) ⟨h.push {cls:=.type "method-wrapper",data:=.fields #[.builtin "Exception.__init__",.ref x]},g,d,t,os⟩):
  zx (zv prog w) A (Yc.«super.__getattribute__» ⟨[.ref so,.str "__init__" tk],[]⟩) Q E ⟨h,g,d,t,os⟩:=by
 have RF:=AY.lookup;have ve:(Zm x==Zm C)=false:=by simp[hxC]
 have hTf:(⟨h,g,d,t,os⟩:zt).TypeIs (.builtin "Exception.__init__") "wrapper_descriptor":=K9;have hn:(("__init__")==("__class__"))=false:=by decide
 have hdt:({cls:=.type "super",dict:=none,data:=.fields #[.ref D,.ref x,.ref C],slots:=#[]}:Obj).data=.fields #[.ref D,.ref x,.ref C]:=rfl;have f0:(#[.ref D,.ref x,.ref C]:Array zo)[0]? =some (.ref D):=rfl;have f1:(#[.ref D,.ref x,.ref C]:Array zo)[1]? =some (.ref x):=rfl;have f2:(#[.ref D,.ref x,.ref C]:Array zo)[2]? =some (.ref C):=rfl;refine zf (zl (iT zi (zf (zl ?_))));refine zf (wpAny_field DF hdt f0 (zf (wpAny_field DF hdt f1 (zf (wpAny_field DF hdt f2 ?_)))));refine iT zi (zf (ks_wpAny_notOpaque M1 (iT zi ?_)));refine zf (hC.here (gR hl ?_));refine zf (ks_forIn_along X (λ_ _=>rfl) rfl ?_ hf);refine zf (wpAny_typeOf hTf (zf (wpAny_of_eq RF ?_)));dsimp only;refine gR (if_neg λe=>zi (ve.symm.trans e)) ?_;refine zf (zT (wpAny_call_entry AY hTf Hd ?_ (La _ _ _)));refine gR (Xi ..) (zf (zf (hi.here ?_)));refine iT zi (zl (zf (wpAny_newObj_type (zl ⟨_,rfl,?_⟩))));exact zf (zl (zl (zl hq)))
theorem iQ{so D x C:zJ}{Hf l:List zo}{K:Frag}{pl:Sem Bool}{Q:zo×List zo->zt->Prop}
  (DF:h.get? so=some {cls:=.type "super",dict:=none,data:=.fields #[.ref D,.ref x,.ref C],slots:=#[]}) (M1:ad8 (zv prog w) h (opaqueClassAbove (.ref C)) none)
  (hC:ad8 (zv prog w) h (mroOf (.ref C)) Hf) (hl:(Hf.dropWhile (· != .ref D)).drop 1=l) (X:K.In h)
  (hf:alongIn K "__init__" l=some (some (.builtin "Exception.__init__"))) (hi:ad8 (zv prog w) h (isInstance (.ref x) (.type "Exception")) true) (hxC:x≠C)
  (hq:Q (.ref h.objs.size,[]) ⟨h.push {cls:=.type "method-wrapper",data:=.fields #[.builtin "Exception.__init__",.ref x]},g,d,t+1,os⟩):
  zx (zv prog w) A (getMethod (.ref so) "__init__" pl) Q E ⟨h,g,d,t,os⟩:=by
 have RF:=F.ks_slot_super_ga.lookup;have hT:∀t',(⟨h,g,d,t',os⟩:zt).TypeIs (.ref so) "super":=λ_=>⟨_,DF,rfl⟩;refine zf (wpAny_specialOf (hT _) RF ?_);refine NP F.ks_canon_super_ga (zf (zf (wpAny_mkText (zT (zf (wpAny_typeOf (hT _) (zf (wpAny_of_eq RF ?_))))))));refine(?_:zx _ _ (getAttrByItsOwn (.ref so) (.str "__init__" t) (.type "super") (.builtin "super.__getattribute__") true false) _ _ _);refine zf (wpAny_of_eq rfl ?_);refine zf (wpAny_attempt (zT ?_));refine zf (wpAny_of_eq (F.ks_slot_super_ga.bind _) ?_);refine zI (Q:=λv s'=>v=.ref h.objs.size/\s'=⟨h.push {cls:=.type "method-wrapper",data:=.fields #[.builtin "Exception.__init__",.ref x]},g,d,t+1,os⟩) (E:=λ_ _=>False)
  (wpAny_call_entry F.ks_slot_super_ga (hT _) F.ks_entry_super_ga (He DF M1 hC hl X hf hi hxC ⟨_,rfl,rfl,rfl⟩) (F.ks_gaArgs_super _ _)) (λv s' hv=>?_) λ_ _ z=>z.elim
 obtain⟨rfl,rfl⟩:=hv;exact zl (zl hq)
end
section
variable{g:Array GenState}{d:Drawn}{t:Nat}{os:yO}
theorem Lb{x:zJ}{args:List zo}{R:yX->zt->Prop}(hb:h.get? b=some {cls:=.type "method-wrapper",dict:=none,data:=.fields #[.builtin "Exception.__init__",.ref x],slots:=#[]})
  (hq:zx (zv prog w) (A.under (.call (.ref b) ⟨args,[]⟩)) (checkBoundCall "Exception.__init__" ⟨.ref x::args,[]⟩) (λ_ s'=>ZH (zv prog w) A (.builtin "Exception.__init__" ⟨.ref x::args,[]⟩) R s') (λe s'=>R (.error e) s') ⟨h,g,d,t,os⟩):
  ZH (zv prog w) A (.call (.ref b) ⟨args,[]⟩) R ⟨h,g,d,t,os⟩:=by
 refine codeAny_of_tree (zf (wpAny_load hb ?_));refine(?_:zx _ _ (checkBoundCall "Exception.__init__" ⟨.ref x::args,[]⟩ >>=_) _ _ _);refine zf (zI hq (λ_ s' z=>?_) λ_ _ z=>z);exact zl ⟨Yk _ (by decide+kernel),z⟩
theorem Hg{e a0:zJ}{args:List zo}{R:yX->zt->Prop}(hC:h.get? KF=some IF)(hb:h.get? b=some {cls:=.type "method-wrapper",dict:=none,data:=.fields #[.builtin "Exception.__init__",.ref e],slots:=#[]})
  (ho:h.get? e=some o) (hc:o.cls=.ref KF) (hd:o.data=.fields ⟨.ref a0::vs⟩) (hlen:args.length<=yG)
  (hq:∀h':yi,(∀b o,b≠e->h.get? b=some o->h'.get? b=some o)->(∃a1,aG (h.get? a1=none) (h'.get? e=some {o with data:=.fields ⟨.ref a1::vs⟩}) ((h'.get? a1).isSome))->R (.ok (.ret .none)) ⟨h',g,d,t,os⟩):
  ZH (zv prog w) A (.call (.ref b) ⟨args,[]⟩) R ⟨h,g,d,t,os⟩:=by
 have F:=PySem.F.excBase_Exception;refine Lb hb (gR F.initRow (gR F.initKind ?_));refine(?_:zx _ _ (Bind.checkArgs "Exception.__init__" ⟨.positional,"*","Exception",.self,[⟨"args",.varPos,false⟩]⟩ ⟨.ref e::args,[]⟩) _ _ _)
 repeat (first |(with_reducible refine wpAny_loadPart_at ho (gR hc ?_)) |with_reducible refine wpAny_loadPart_at hC ?_ |wp_step)
 refine wpAny_onRaise ?_;rw[show ∀(a b:String) n,Bind.check ⟨.positional,"*","Exception",.self,[⟨"args",.varPos,false⟩]⟩ a b n (List.map (λx=>x.fst) ({pos:=Zm e::args}:Args).kw)=pure () from
  λa b n=>check_star_args _ _ _ _ _ _]
 refine zl (codeAny_builtin F.initEntry ?_);unfold Yc.«BaseException.__init__»;dsimp only;refine iT (by decide) ?_;have qF:=zj {cls:=.type "tuple",data:=.seq args.toArray} ho;have e1:((h.push {cls:=.type "tuple",data:=.seq args.toArray}).update e (ya (·.setIfInBounds 0 (.ref h.objs.size)))).get? e=some {o with data:=.fields ⟨.ref h.objs.size::vs⟩}:=by refine gR (Ze _ qF (Z1 (ZO hd _)) ..) ?_;obtain⟨oc,od,dt,sl⟩:=o;subst hd;rfl
 refine zf (wpAny_newObj_type (zf (zf (wpAny_field qF hd rfl (zf (wpAny_setField qF hd (Zu _) ?_))))) (by show args.toArray.size<=yG;simpa using hlen));refine wpAny_letGo (zl ?_);refine hq _ (λb o' hb fK=>(ZD _ _ (Z8 hb)).trans (zj _ fK)) ⟨_,ao h,e1,?_⟩;refine gR (ZD _ _ (yD (zZ ho)).symm ..) (gR (zq _ rfl ..) ?_);rfl
end
end Lw
namespace Lw
open PySem PySem.Calls PyProof.Rows PySem.W Builtin.ObjectAttr
section
set_option backward.match.sparseCases true
theorem jW:∀{l:List zo},ju l=true->(∀c r,l=.ref c::r->ju r=true)/\((∀c r,l≠.ref c::r)->l=[.type "Exception",.type "BaseException",.type "object"])
 |[],h=>absurd h (by decide)
 |v::r,h=>by
  cases v with
  |ref c=>exact⟨λc r' e=>(yy e).2▸h,λn=>absurd rfl (n _ _)⟩
  |_=>exact⟨λc r' e=>(nomatch e),λ_=>beq_iff_eq.mp h⟩
theorem nY(self:zo):∀{l:List zo},ju l=true->refuseLoop self "__setattr__" l=pure ()/\l.contains (.type "object")=true
 |[],h=>absurd h (by decide)
 |v::r,h=>by
  by_cases q:∃c,v=.ref c
  ·obtain⟨c,rfl⟩:=q
   refine zg (λa b=>?_) (nY self ((jW h).1 c r rfl));refine⟨by refine gR (refuseLoop_ref ..) ?_;exact a,by exact gR (List.contains_cons ..) (gR (b ..) (gR (Bool.or_true ..) rfl))⟩
  ·have:=(jW h).2 λc r' e=>q ⟨c,by cases e;rfl⟩
   exact gR (this ..) ⟨PySem.F.store_Exception.passes self,by decide⟩
section
variable{A:ZV}{E:zo->zt->Prop}{s:zt}{K:Frag}{C x:zJ}
theorem Lc{ox:Obj}{od:Option Obj}{name:Str}{tk:Tok}{v:zo}{R:yX->zt->Prop}(X:K.In s.heap)(I:InstAt s.heap x ox C od)(hp:jv K C=true)(ht:Z7 K (.ref C) name=some none)
  (h:zx (zv prog w) A.in1 (storeInOwnDict (.ref x) (.ref C) (.str name tk) name v false)
   (λfin s'=>match fin with |.done f=>R (.ok f) s' |.again c'=>c'.quiet=true/\ZH (zv prog w) A c' R s') (λe s'=>R (.error e) s') s):
  ZH (zv prog w) A (.call (.builtin "object.__setattr__") ⟨[.ref x,.str name tk,v],[]⟩) R s:=by
 have SF:=PySem.F.store_object;refine ze (any_some hp) λcd Gn=>?_;refine zg (λhc fK=>?_) Gn;refine zg (λXj Lf=>?_) (nY (.ref x) ((adG.mp fK).1));have ne:cd.mro.isEmpty=false:=by cases q:cd.mro with |nil=>replace Lf:=q▸Lf;cases Lf |cons _ _=>rfl
 refine codeAny_call_builtin SF.slot.plain SF.entry (@check_slot (zv prog w) _ _ s "object.__setattr__" "object" "__setattr__" (.ref x) [.str name tk,v] [] _ SF.kind SF.split (I.type.andThen (looks_mroIn X (by unfold mroIn;exact gR (hc ..) (gR (Option.bind_some ..) (gR (if_neg (by refine gR (ne ..) ?_;decide) ..) (gR (Lf ..) rfl)))))) (SF.args (.ref x) (.str name tk) v) ?_);have hm:ad8 (zv prog w) s.heap (mroOf (.ref C)) cd.mro:=(looks_clsIn X hc).andThen .now;refine gR (osa_eq ..) ?_;refine gR (refuse_eq ..) ?_;refine zf (zf (I.type.here (zf (hm.here ?_))));refine gR (Xj ..) ?_;refine zl (zf (I.type.here (zf ((looks_findIn X ht).here (zf (zl ?_))))));exact h
structure XI(h:yi)(e C:zJ)(mA:Str->Option zo)(k:Nat)(vs:Array zo)(dd:Option zJ):Prop where
 obj:∃o,dQ (h.get? e=some o) (o.cls=.ref C) (o.data=.fields vs) (o.dict=dd)
 dict:(dd=none/\∀n,mA n=none)\/∃d,aG (dd=some d) (d≠e) (h.Ns1 d mA)
 few:∃ns:List Str,ns.length<=k/\Within mA ns
structure th(e:zJ)(h:yi)(dd:Option zJ)(h':yi)(su:Option zJ):Prop where
 keep:∀b o,b≠e->some b≠dd->h.get? b=some o->h'.get? b=some o
 dict:su=dd\/(dd=none/\∃d,su=some d/\h.get? d=none)
 live:(h'.get? e).isSome
theorem th.trans{e:zJ}{h h1 h2:yi}{d d1 d2:Option zJ}(x:th e h d h1 d1)(y:th e h1 d1 h2 d2):th e h d h2 d2 where
 keep:=λb o n1 n2 z=>by
  have z1:=x.keep b o n1 n2 z;refine y.keep b o n1 ?_ z1;rcases x.dict with q |⟨q,a,q1,q2⟩
  ·exact gR q n2
  ·refine gR q1 ?_;rintro ⟨⟩;replace q2:=z▸q2;cases q2
 dict:=by
  rcases x.dict with q |⟨q,a,q1,q2⟩
  ·rcases y.dict with p |⟨p,b,p1,p2⟩
   ·exact .inl (p.trans q)
   ·refine .inr ⟨q▸p,b,p1,?_⟩
    cases z:h.get? b with
    |none=>rfl
    |some o=>
     have ne:b≠e:=by rintro rfl;have:=x.live;replace this:=p2▸this;cases this
     have:=x.keep b o ne (by refine gL q (gR p ?_);simp) z;replace this:=p2▸this;cases this
  ·rcases y.dict with p |⟨p,b,p1,p2⟩
   ·exact .inr ⟨q,a,p.trans q1,q2⟩
   ·replace p:=q1▸p;cases p
 live:=y.live
theorem th.ext{e:zJ}{h h':yi}{d:Option zJ}(k:∀b o,h.get? b=some o->h'.get? b=some o)(l:(h.get? e).isSome):th e h d h' d:=⟨λb o _ _ z=>k b o z,.inl rfl,by
 exact ze (zp.mp l) λo ho=>(gR (k e o ho ..) rfl)⟩
theorem XI.ext{h h':yi}{e C:zJ}{mA k vs dd}(x:XI h e C mA k vs dd)(kp:∀b o,h.get? b=some o->h'.get? b=some o):XI h' e C mA k vs dd:=by obtain⟨⟨o,a,b1,b2,b3⟩,c,f⟩:=x;exact⟨⟨o,kp _ _ a,b1,b2,b3⟩,c.imp id λ⟨d,p,q,r⟩=>⟨d,p,q,r.keeps kp⟩,f⟩
theorem XI.live{h:yi}{e C:zJ}{mA k vs dd}(x:XI h e C mA k vs dd):(h.get? e).isSome:=by obtain⟨⟨o,a,b⟩,c,f⟩:=x;exact gR a rfl
theorem C7{mA:Str->Option zo}{k:Nat}{vs:Array zo}{dd:Option zJ}{name:Str}{v:zo}{Q:Unit->zt->Prop}(X:K.In s.heap)(xC:x≠C)(I:XI s.heap x C mA k vs dd)(hk:k<1000)(hp:jv K C=true)
  (hs:Z7 K (.ref C) "__setattr__"=some (some (.builtin "object.__setattr__"))) (ht:Z7 K (.ref C) name=some none)
  (hq:∀h' t su,XI h' x C (λy=>if y=name then some v else mA y) (k+1) vs su->th x s.heap dd h' su->Q () {s with heap:=h',toks:=t}):zx (zv prog w) A (setAttr (.ref x) name v) Q E s:=by
 obtain⟨⟨⟨oc,odi,odt,Ka⟩,ho,hc,hd,x6⟩,hdi,ns,hl,hw⟩:=id I;dsimp only at hc hd x6;subst hc hd x6;have lv:=I.live;refine ze (any_some hp) λcd E7=>(zg (λk1 k2=>?_) E7);have hw':=hw.cons name v;have IC:(name::ns).length<=k+1:=zw hl;have fin:∀dx s1 m1,s1.os=s.os->s1.gens=s.gens->s1.drawn=s.drawn->(∀n,m1 n=mA n)->s1.heap.get? x=some ⟨.ref C,some dx,.fields vs,Ka⟩->dx≠x->s1.heap.Ns1 dx m1->th x s.heap odi s1.heap (some dx)->
   zx (zv prog w) A.in1 (Builtin.ObjectAttr.storeInDict dx (.str name s.toks) name v) (λfin s'=>match fin with |.done f=>(match(.ok f:yX) with |.ok (.ret _)=>Q () s' |.ok _=>False |.error e=>E e s') |.again c'=>c'.quiet=true/\ZH (zv prog w) A c' (λr s'=>match r with |.ok (.ret _)=>Q () s' |.ok _=>False |.error e=>E e s') s') (λe s'=>E e s') s1:=by
  intro dx s1 m1 e1 e2 e3 hm hx ve ij st;refine zf (zl (zf (wpAny_nsSet1 ij λh' JP Pe=>?_)));have J7:h'.Ns1 dx (λy=>if y=name then some v else mA y):=by
   have:(λy=>if y=name then some v else m1 y)=λy=>if y=name then some v else mA y:=funext λy=>by exact gR (hm ..) rfl
   exact gL this JP
  obtain⟨oD,esD,epD,hoD,hdD,hcD⟩:=J7.count hw';refine zf (wpAny_lookBehind hoD (gR hdD (pastItsLine_dict (zk hcD (zk IC (zw (bc (Zz (ZA hk (by decide))))))))) ?_);have rG:=(Pe.2 x ve.symm).trans hx;obtain⟨sh,sg,sd,tW,so⟩:=s1;refine gR e1 (gR e2 (gR e3 ?_));exact zl (hq h' _ (some dx) ⟨⟨_,rG,rfl,rfl,rfl⟩,.inr ⟨dx,rfl,ve,J7⟩,_,IC,hw'⟩ (st.trans ⟨λb ob hb hbd z=>(Pe.2 b λq=>hbd (gR q rfl)).trans z,.inl rfl,gR rG rfl⟩))
 have vi:InstAt s.heap x ⟨.ref C,odi,.fields vs,Ka⟩ C (odi.bind λd=>s.heap.get? d):=by
  refine⟨ho,rfl,rfl,?_⟩;rcases hdi with⟨rfl,_⟩ |⟨d,rfl,_,ij⟩
  ·trivial
  ·refine ag λ_ k=>(ze ij λod kB=>(ze kB λ_ lQ=>(ze lQ λ_ mK=>(zg (λMx _=>?_) mK))))
   refine k (?_:(match some d,s.heap.get? d with |some dx,some o=>s.heap.get? dx=some o |none,none=>True |_,_=>False));exact gR Mx Mx
 refine set_plain X vi hs (Lc X vi hp ht (zf (zl (zf (zf (wpAny_loadPart ho (zf ((looks_clsIn X k1).here (s:={s with toks:=s.toks+1}) ?_))))))));refine gR (((adG.mp k2).2) ..) ?_;rcases hdi with⟨rfl,hmA⟩ |⟨d,rfl,ve,ij⟩
 ·have hxs:x≠s.heap.objs.size:=zU (zZ ho)
  have hx1:(s.heap.push {cls:=.type "dict",data:=.dict #[]}).get? x=_:=zj _ ho;have hx2:=Ze (λo:Obj=>{cls:=o.cls,dict:=some s.heap.objs.size,data:=o.data,slots:=o.slots}) hx1 rfl;have hgd:((s.heap.push {cls:=.type "dict",data:=.dict #[]}).update x λo=>{cls:=o.cls,dict:=some s.heap.objs.size,data:=o.data,slots:=o.slots}).get? s.heap.objs.size
    =some {cls:=.type "dict",data:=.dict #[]}:=
   (ZG _ _ _ _ hxs.symm).trans (Heap.get?_push_at rfl rfl)
  have hnd:((s.heap.push {cls:=.type "dict",data:=.dict #[]}).update x λo=>{cls:=o.cls,dict:=some s.heap.objs.size,data:=o.data,slots:=o.slots}).Ns s.heap.objs.size (λ_=>none):=
   ⟨_,#[],_,hgd,rfl,λe he=>absurd he (by simp),λ_=>rfl⟩
  dsimp only;refine gR (if_neg (by decide) ..) (gR (if_neg (by rw[show typeHasDict (.ref C)=true from rfl];decide) ..) ?_);refine zf (wpAny_alloc' ?_);refine zf (wpAny_update' hx1 ?_);exact zl (fin s.heap.objs.size {s with heap:=(s.heap.push {cls:=.type "dict",data:=.dict #[]}).update x λo=>{cls:=o.cls,dict:=some s.heap.objs.size,data:=o.data,slots:=o.slots},toks:=s.toks+1} _ rfl rfl rfl (λn=>(hmA n).symm) hx2 hxs.symm (Heap.Ns1.of_empty hnd) ⟨λb ob hb _ z=>(ZG _ _ _ _ hb).trans (zj _ z),.inr ⟨rfl,_,rfl,ao _⟩,gR hx2 rfl⟩)
 ·exact iT (by decide) (zl (fin d {s with toks:=s.toks+1} mA rfl rfl rfl (λ_=>rfl) ho ve ij ⟨λ_ _ _ _ z=>z,.inl rfl,lv⟩))
end
end
end Lw
namespace Lw
open PySem PySem.Calls PyProof.Rows PySem.W aZ
variable{v v1:zo}{α:Type}{a f2 e:zJ}{vals:List zo}
section
set_option backward.match.sparseCases true
inductive XIn(fI D:zJ)(ps:List Str)(y:Str):Prop where
 |mk (o:Obj) (fd:YW) (p:Nat->Pos) (cc IE:zJ) (oc dK oD:Obj) (ar:Arg) (vs:Array zo) (tf:Tok) (AP:Yl)
  (ho:T.top.get? fI=some o) (hd:o.data=.func fd) (JN:T.top.CodeRec fd.code fd.qualname) (AQ:fd.body=.stmts (mw L.e7 L.bo y y p)) (bk:((p 2).endLine==(p 4).line)=true) (hco:fd.scope.isCoroutine=false) (Xk:fd.scope.isGenerator=false) (Hh:fd.scope.kind=.function)
   (hgl:fd.globals=mainGlobals) (hbl:fd.builtins=builtinsNs) (Xl:∀x∈fd.scope.names,x.2≠zL) (Hi:∀x∈ps,fd.scope.names.lookup x=some .local/\(x==("__debug__":Str))=false)
   (M3:∀vals:List zo,vals.length=ps.length->bindArgs fd ⟨vals,[]⟩=pure (ps.zip vals))
   (a2:ar.arg=L.e7) (a3:(fd.params.posonlyargs++fd.params.args).head? =some ar) (a4:fd.code=.ref IE) (a5:T.top.get? IE=some oc) (a6:oc.data=.fields vs) (a7:vs[2]? =some (.str pw.main.file tf)) (a9:fd.closure.lookup ("__class__":Str)=some cc)
   (WW:T.top.get? cc=some dK) (WX:dK.data=.cell (some (.ref D))) (RM:T.top.get? D=some oD) (RN:oD.data=.cls AP) (PS:fd.scope.names.lookup ("super":Str)=some .globalImplicit) (PT:fd.scope.names.lookup ("__class__":Str)=some .free)
   (m0:L.e7∈ps) (m1:L.bo∈ps) (m2:y∈ps)
theorem Hj{fI:zJ}{ps:List Str}{sc:List (Str×Zc)}{y:Str}{x:zJ×zJ×zJ}{p:Nat->Pos}(e1:N0 T.top fI ps sc=N1 (mw L.e7 L.bo y y p) ps sc [("__class__",x.2.2)])(e2:N2 L T.top fI x f2=N3 L.e7 pw.main.file x (some (ZF "function")) true)
  (bk:((p 2).endLine==(p 4).line)=true) (hsc:ps.all (λz=>decide ((z,NameKind.local)∈sc)&&!(z==("__debug__")))=true) (hm:decide (L.e7∈ps/\L.bo∈ps/\y∈ps)=true):XIn fI x.1 ps y:=by
 obtain⟨o,fd,z⟩:=G9 e1;refine zg (λuh _=>?_) (Ha z.1 e2);obtain⟨oc,dK,oD,ar,vs,tf,AP,n1,n2,n3,n4,n5,n6,n7,n8,n9,n10,n11,n12,n13⟩:=uh;have hm:=of_decide_eq_true hm;exact⟨o,fd,p,x.2.2,x.2.1,oc,dK,oD,ar,vs,tf,AP,z.2,z.3,z.4,z.5,bk,z.6,z.7,z.8,z.9,z.10,n1,λv hv=>(aa (zC.mp hsc v hv)).imp (λa=>z.11 v _ (of_decide_eq_true a)) iw,z.12,n2,n3,n4,n5,n6,n7,gR z.13 rfl,n8,n9,n10,n11,n12,n13,hm.1,hm.2.1,hm.2.2⟩
theorem acs:XIn L.f1 x1.1 [L.e7,L.bo] L.bo:=Hj (congrArg (·.2.2.2.2.2.1.1) pI) (congrArg (·.2.2.2.2.2.1.2) pI) (by decide+kernel) (by decide+kernel) (by decide+kernel)
theorem acu:XIn L.f2 x2.1 [L.e7,L.bo,sp] sp:=Hj (congrArg (·.2.2.2.2.2.2.1) pI) (congrArg (·.2.2.2.2.2.2.2) pI) (by decide+kernel) (by decide+kernel) (by decide+kernel)
theorem Xm:∃of,aG (T.top.get? L.f1=some of) (of.cls=.type "function") (fnIn T.K L.f1=true):=by obtain⟨o,fd,z⟩:=G9 (congrArg (·.2.2.2.2.2.1.1) pI);exact ze ((Ha z.1 (congrArg (·.2.2.2.2.2.1.2) pI)).2) λof y=>⟨of,y.1,y.2,kT▸y.3⟩
section
variable{A:ZV}{E:zo->zt->Prop}
theorem Xn{s:zt}{env:Zj}{f:zo}{x:Str}{p p5:Pos}{Q:zo->zt->Prop}(hk:∃k,(k=aed\/k=adN\/k=adh)/\ad8 (zv prog w) s.heap (keeperOf f) k)
  (hv:∀Q:zo->zt->Prop,Q v s->zx (zv prog w) A (YJ (.Name x p5) env) Q E s) (h:zx (zv prog w) A (call f [v]) Q E s):
  zx (zv prog w) A (callWith p f [] (backTo p (starEach [.Name x p5] env)) []) Q E s:=
 callWith_of (P:=λh'=>h'=s.heap) rfl (λh' e=>e▸hk) (evalArgs_plain (spliced_cons (hv _ (spliced_nil ⟨rfl,h⟩))))
theorem Hk{fI D:zJ}{ps:List Str}{y:Str}(F:XIn fI D ps y){s:zt}(top:Sub T.top.get? s.heap.get?)(hm:mroIn T.K KF (.ref D)=some true)(te:T.top.get? e=none)
   {v2:zo} (hn:vals.length=ps.length) (b0:(ps.zip vals).reverse.lookup L.e7=some (.ref e)) (b1:(ps.zip vals).reverse.lookup L.bo=some v1) (b2:(ps.zip vals).reverse.lookup y=some v2)
  {mA mA1:Str->Option zo} {k k1:Nat} {vs:Array zo} {dd:Option zJ} {P:Array zo->Prop} (I:XI s.heap e KF mA k vs dd) (td:∀d,dd=some d->T.top.get? d=none) (dH:A.depth<yb) (Xp:k1<1000) (ht:Z7 T.K (.ref KF) y=some none)
  (Xq:∀A' s1 so pl E Q,A'.depth<=A.depth+1->Sub T.top.get? s1.heap.get?->XI s1.heap e KF mA k vs dd->s1.heap.get? so=some {cls:=.type "super",dict:=none,data:=.fields #[.ref D,.ref e,.ref KF],slots:=#[]}->
   (∀s3 sv RT,XI s3.heap e KF mA1 k1 sv RT->P sv->th e s1.heap dd s3.heap RT->s3.os=s1.os->s3.gens=s1.gens->Q .none s3)->
   zx (zv prog w) A' (getMethod (.ref so) "__init__" pl) (λr s2=>r.2=[]/\Sub s1.heap.get? s2.heap.get?/\(∃k,(k=aed\/k=adN\/k=adh)/\ad8 (zv prog w) s2.heap (keeperOf r.1) k)/\zx (zv prog w) A' (call r.1 [v1]) Q E s2) E s1)
  {R:yX->zt->Prop}
  (hq:∀s' sv su,XI s'.heap e KF (λn=>if n=y then some v2 else mA1 n) (k1+1) sv su->P sv->th e s.heap dd s'.heap su->s'.os=s.os->s'.gens=s.gens->R (.ok (.ret .none)) s'):
  ZH (zv prog w) A (.call (.ref fI) ⟨vals,[]⟩) R s:=by
 obtain @⟨o,fd,p,cc,IE,oc,dK,oD,ar,avs,tf,AP,ho,hd,JN,AQ,bk,hco,Xk,Hh,hgl,hbl,Xl,Hi,M3,a2,a3,a4,a5,a6,a7,a9,WW,WX,RM,RN,PS,PT,m0,m1,m2⟩:=F;refine ks_codeAny_call_defAt dH (top _ _ ho) hd (tok.lim.keeps top) (JN.keeps top) AQ (BindsTo.of_eq (M3 vals hn)) Xl (λ⟨n,v⟩ hx=>(Hi n (YR hx).1).1) (λcF ij qD=>?_) hco Xk Hh;generalize he:callEnv fd s.heap.objs.size fI=env;have eL:env.locals=s.heap.objs.size:=by refine gL he ?_;rfl
 have eS:env.scope=fd.scope:=gL he rfl;have eK:∀n,env.kindOf n=fd.scope.names.lookup n:=λn=>gL he rfl;have eC':env.cells=fd.closure:=gL he rfl;have eG:env.globals=fd.globals:=by refine gL he ?_;rfl
 have eB:env.builtins=fd.builtins:=by refine gL he ?_;rfl
 have eF:env.func=some fI:=by refine gL he ?_;rfl
 have eD:env.code=fd.code:=gL he rfl;have Xr:env.scope.kind=.function:=gR eS Hh;have Le:s.heap.objs.size≠e:=λq=>by
  have:=I.live;rw[←q,ao s.heap] at this;exact nomatch this
 have Ld:some s.heap.objs.size≠dd:=λq=>by
  rcases I.dict with⟨z,_⟩ |⟨d,z,_,n⟩
  ·replace q:=z▸q;cases q
  ·rw[z] at q;obtain rfl:=zh q;exact absurd n.lt (yv _)
 have ix:Sub T.top.get? cF.get?:=λb o z=>qD b o (top b o z);have I1:=I.ext qD;have Hl:∀{x:Str} {v:zo} {sx:zt} {A':ZV} {E':zo->zt->Prop} q,x∈ps->(ps.zip vals).reverse.lookup x=some v->sx.heap.Ns s.heap.objs.size (λx=>(ps.zip vals).reverse.lookup x)->∀Q:zo->zt->Prop,Q v sx->zx (zv prog w) A' (YJ (.Name x q) env) Q E' sx:=
  λq hx hl hn Q h=>wpAny_Name (wpAny_loadName_local Xr (gR (eK ..) ((Hi _ hx).1)) (gR eL hn) hl h) (Hi _ hx).2
 have nsk:∀h2 d2,th e cF dd h2 d2->h2.Ns s.heap.objs.size (λx=>(ps.zip vals).reverse.lookup x):=λh2 d2 st=>by
  refine ze ij λob Xs=>(ze Xs λes EA=>(ze EA λep Xu=>(zg (λe1 e2=>?_) Xu)));exact⟨ob,es,ep,st.keep _ _ Le Ld e1,e2⟩
 obtain⟨mg,mb,Xv,hb1,hgb,_⟩:=tok.glob;refine zg (λk1' k2'=>?_) (hgb ("super",.type "super") (by decide));have vi:adQ env=false:=by unfold adQ;exact gR Xr rfl
 refine ks_wpAt_execs_cons (ks_wpAt_Expr_any ?_ vi (ew rfl _ _ _));have acv:adj true (.Call (.Name "super" (p 0)) [] [] (p 1)) env (p 2) (p 4)=pure (p 4):=by unfold adj;simp[bk]
 refine gR (arm_eval_Call ..) ?_;obtain⟨⟨ob,h1,h2,h3,h4⟩,_⟩:=id I1;refine _root_.PySem.wpAt_bind (_root_.PySem.wpAt_mono (ks_wpAt_super_base (by rw[eK];exact PS) (by rw[eK];exact PT) rfl eF (ix _ _ ho) hd a3 (eD.trans a4) (ix _ _ a5) a6 a7 (MX▸beq_self_eq_true _) Hb
  (Q:=λov az=>∃q,eX (ov=.ref q) (Sub cF.get? az.heap.get?) (az.os=s.os) (az.gens=s.gens) (az.heap.get? q=some {cls:=.type "super",dict:=none,data:=.fields #[.ref D,.ref e,.ref KF],slots:=#[]})) ?_) (λov az hq=>_root_.PySem.wpAt_of_wpAny ?_) λ_ _ x=>x)
 ·refine PySem.W.ks_loadName_global Xr (by rw[eK];exact PS) (loadGlobal_builtin (by refine gR eG (gR hgl ?_);exact Xv.keeps ix) k1' (by refine gR eB (gR hbl ?_);exact hb1.keeps ix) k2' ⟨rfl,?_⟩)
  refine wpAny_loadName_free Xr (by rw[eK];exact PT) (gR eC' a9) ⟨_,ix _ _ WW,WX⟩ (gR a2 (wpAny_loadName_local Xr (gR (eK ..) ((Hi _ m0).1)) (gR eL ij) b0 (ks_wpAny_isType_cls (ix _ _ RM) RN ⟨rfl,?_⟩)));exact ks_wpAny_call_super (ix _ _ RM) RN h1 h2 (λc e=>by replace e:=h3▸e;cases e) (looks_mroIn (OB ix) hm) λh' e kp=>⟨_,rfl,kp,rfl,rfl,e⟩
 ·obtain⟨q,EN,kp,os1,gs1,qo⟩:=hq;refine gR EN ?_
  refine zf (wpAny_standAt ?_);unfold methodCall;rw[show methodCallForm ([Expr.Name L.bo (p 3)].length+([]).length) (backTo (p 4) (starEach [Expr.Name L.bo (p 3)] env)) (backToKw (p 4) (keywordEach [] env))=true from rfl];refine zf (zT (zI (Xq _ az q _ _ (λr s3=>_root_.PySem.wpAt (zv prog w) (A.deeper env) (.func (mw L.e7 L.bo y y p) env) (execs [.Assign [.Attribute (.Name L.e7 (p 6)) y (p 7)] (.Name y (p 8)) (p 9)] env) (λf s'=>R (.ok (.ret (match f with |.ret v=>v |_=>.none))) s') (λe s'=>zx (zv prog w) (A.deeper env) (leaving env e) (λ_ hJ=>R (.error e) hJ) (λe' hJ=>R (.error e') hJ) s') s3) (zO rfl) (λb o z=>kp b o (ix b o z)) (I1.ext kp) qo λs3 sv RT I3 hP st os3 gs3=>?_) (λr s2 hr=>?_) λ_ _ x=>x))
  ·have st3:=(th.ext kp I1.live).trans st
   have acw:Sub T.top.get? s3.heap.get?:=λb o z=>by
    have:=ix b o z;refine st3.keep b o ?_ ?_ this
    ·rintro rfl
     rw[te] at z;exact nomatch z
    ·intro q
     rw[td b q.symm] at z;exact nomatch z
   refine ks_wpAt_execs_cons (ks_wpAt_Assign_Attr (_root_.PySem.wpAt_of_wpAny (Hl _ m2 b2 (nsk _ _ st3) _ (Hl _ m0 b0 (nsk _ _ st3) _ ?_))) (ew rfl _ _ _));refine C7 (OB acw) (Hc te) I3 Xp AS P0 ht λh' t su I4 st4=>?_;have st5:=st3.trans st4;refine _root_.PySem.wpAt_of_wpAny (zl (hq _ sv su I4 hP ⟨λb o n1 n2 z=>st5.keep b o n1 n2 (qD b o z),?_,st5.live⟩ (os3.trans os1) (gs3.trans gs1)));rcases st5.dict with z |⟨z,d,z1,z2⟩
   ·exact .inl z
   ·refine .inr ⟨z,d,z1,?_⟩
    cases q:s.heap.get? d with
    |none=>rfl
    |some o=>replace z2:=(qD d o q)▸z2;cases z2
  ·refine ag λ_ k=>(zg (λr2 j9=>?_) hr);refine zg (λRI mM=>?_) j9;refine zg (λhkk hc=>?_) mM
   refine k (zf (wpAny_of_eq acv ?_));exact gR r2 (Xn hkk (Hl _ m1 b1 (nsk _ _ (th.ext (λb o z=>RI b o (kp b o z)) I1.live))) hc)
end
end
variable{vs:Array zo}{env:Zj}{mA:Str->Option zo}{dd:Option zJ}
def w5(v:Array zo):Prop:=∃a,v=⟨[.ref a,.none,.none,.none,.bool false,.none]⟩
section
variable{A:ZV}{E:zo->zt->Prop}
theorem XI.type{C:zJ}{h:yi}{mA k vs dd}(I:XI h e C mA k vs dd){M:Model}:ad8 M h (typeOf (.ref e)) (.ref C):=by obtain⟨⟨o,a,b,_⟩,_⟩:=I;exact b▸(Looks.ld a).andThen .now
theorem Hm(te:T.top.get? e=none){k:Nat}(hv:w5 vs){s1:zt}{so:zJ}{pl:Sem Bool}{Q:zo->zt->Prop}
  (top:Sub T.top.get? s1.heap.get?) (I:XI s1.heap e KF mA k vs dd) (DF:s1.heap.get? so=some {cls:=.type "super",dict:=none,data:=.fields #[.ref x1.1,.ref e,.ref KF],slots:=#[]})
  (hq:∀s3 sv RT,XI s3.heap e KF mA k sv RT->w5 sv->th e s1.heap dd s3.heap RT->s3.os=s1.os->s3.gens=s1.gens->Q .none s3):
  zx (zv prog w) A (getMethod (.ref so) "__init__" pl) (λr s2=>r.2=[]/\Sub s1.heap.get? s2.heap.get?/\(∃k,(k=aed\/k=adN\/k=adh)/\ad8 (zv prog w) s2.heap (keeperOf r.1) k)/\zx (zv prog w) A (call r.1 [v1]) Q E s2) E s1:=by
 refine ze (MZ.2) λcd Fo=>?_;have X:=OB top;obtain⟨h,g,d,t,os⟩:=s1;refine iQ DF (looks_opaque X tok.Oh) (λA Q E s k q=>zf ((looks_clsIn X Fo.1) A _ E s k (zl q))) rfl X Fo.2 (I.type.andThen (looks_mroIn X W7)) (Hc te) ⟨rfl,λb o z=>zj _ z,⟨.machine,.inr (.inl rfl),(Looks.ld (zq _ rfl)).andThen .now⟩,?_⟩;obtain⟨a0,rfl⟩:=hv;obtain⟨⟨o,ho,hc,hd,x6⟩,hdi,hfw⟩:=id (I.ext (h':=h.push {cls:=.type "method-wrapper",data:=.fields #[.builtin "Exception.__init__",.ref e]}) λb o z=>zj _ z);have ne:h.objs.size≠e:=λq=>by
  have:=I.live;rw[←q,ao h] at this;exact nomatch this
 refine wpAny_call (Hg (zj _ (top _ _ kf_at)) (zq _ rfl) ho hc hd (by show 1<=yG;refine gR sizeLine_eq ?_;omega) λh' kp hx=>?_);obtain⟨a1,n1,e1,_⟩:=hx;refine hq _ _ dd ⟨⟨_,e1,hc,rfl,x6⟩,hdi.imp id λ⟨d,p,q,r⟩=>⟨d,p,q,r.at λo z=>kp d o q z⟩,hfw⟩ ⟨a1,rfl⟩ ⟨λb o n _ z=>kp b o n (zj _ z),.inl rfl,gR e1 rfl⟩ rfl rfl
theorem Hn{s:zt}(top:Sub T.top.get? s.heap.get?)(te:T.top.get? e=none)
   {v2:zo} (hn:vals.length=[L.e7,L.bo].length) (b0:([L.e7,L.bo].zip vals).reverse.lookup L.e7=some (.ref e)) (b1:([L.e7,L.bo].zip vals).reverse.lookup L.bo=some v1) (b2:([L.e7,L.bo].zip vals).reverse.lookup L.bo=some v2)
   {k:Nat}   (I:XI s.heap e KF mA k vs dd) (hv:w5 vs) (td:∀d,dd=some d->T.top.get? d=none) (dH:A.depth<yb) (Xp:k<1000)
  {R:yX->zt->Prop}
  (hq:∀s' sv su,XI s'.heap e KF (λn=>if n=L.bo then some v2 else mA n) (k+1) sv su->w5 sv->th e s.heap dd s'.heap su->s'.os=s.os->s'.gens=s.gens->R (.ok (.ret .none)) s'):
  ZH (zv prog w) A (.call (.ref L.f1) ⟨vals,[]⟩) R s:=by
 exact Hk acs top MZ.1 te hn b0 b1 b2 I td dH Xp W8 (λA' s1 so pl E Q _ ix I1 DF h=>Hm te hv ix I1 DF h) hq
theorem C8{s:zt}(top:Sub T.top.get? s.heap.get?)(te:T.top.get? e=none)
   {v2 v3:zo} (hn:vals.length=[L.e7,L.bo,sp].length) (b0:([L.e7,L.bo,sp].zip vals).reverse.lookup L.e7=some (.ref e)) (b1:([L.e7,L.bo,sp].zip vals).reverse.lookup L.bo=some v1) (b2:([L.e7,L.bo,sp].zip vals).reverse.lookup sp=some v3)
  (hn1:[Zm e,v1].length=[L.e7,L.bo].length) (c0:([L.e7,L.bo].zip [.ref e,v1]).reverse.lookup L.e7=some (.ref e)) (c1:([L.e7,L.bo].zip [.ref e,v1]).reverse.lookup L.bo=some v1) (c2:([L.e7,L.bo].zip [.ref e,v1]).reverse.lookup L.bo=some v2)
   {k:Nat}   (I:XI s.heap e KF mA k vs dd) (hv:w5 vs) (td:∀d,dd=some d->T.top.get? d=none) (dH:A.depth+1<yb) (Xp:k+1<1000)
  {R:yX->zt->Prop}
  (hq:∀s' sv su,XI s'.heap e KF (λn=>if n=sp then some v3 else if n=L.bo then some v2 else mA n) (k+1+1) sv su->w5 sv->th e s.heap dd s'.heap su->s'.os=s.os->s'.gens=s.gens->R (.ok (.ret .none)) s'):
  ZH (zv prog w) A (.call (.ref L.f2) ⟨vals,[]⟩) R s:=by
 refine Hk acu top M0.1 te hn b0 b1 b2 I td (Yq dH) Xp MY (λA' s1 so pl E Q hA ix I1 DF h=>?_) hq;refine ze (M0.2) λcd lN=>(ze Xm λof v7=>?_);obtain⟨g1,g2,g3⟩:=v7;have X:=OB ix;obtain⟨hp,g,d,t,os⟩:=s1;have up:Sub hp.get? (hp.push {cls:=.type "method",data:=.fields #[.ref L.f1,.ref e]}).get?:=λb o z=>zj _ z;have mq:(hp.push {cls:=.type "method",data:=.fields #[.ref L.f1,.ref e]}).get? hp.objs.size=some (methodObj (.ref L.f1) (.ref e)):=zq _ rfl;refine ks_wpAny_getMethod_super DF (looks_opaque X tok.Oh) (λA Q E s k q=>zf ((looks_clsIn X lN.1) A _ E s k (zl q))) rfl X lN.2 (ix _ _ g1) g2 (Hc te) rfl ⟨rfl,up,keeps_M g3 _ ⟨mq,(OB λb o z=>up b o (ix b o z))⟩,?_⟩;refine wpAny_call (ks_codeAny_call_bound mq ?_);exact Hn (λb o z=>up b o (ix b o z)) te hn1 c0 c1 c2 (I1.ext up) hv td (by have:=hA;omega) (by omega) λs' sv su I4 hv4 st o4 g4=>(h s' sv su I4 hv4 ((th.ext up I1.live).trans st) o4 g4)
end
section
variable{A:ZV}{E:zo->zt->Prop}
theorem w6{s:zt}{M:Model}{x:Sem zo}{Q:Flow->zt->Prop}(hh:A.handled=none)
  (h:zx M A x (λv az=>NN λe t dx sl=>dQ (v=.ref e) (az.heap.get? KF=some IF) (az.heap.get? e=some {cls:=.ref KF,dict:=dx,data:=.fields #[.ref t,.none,.none,.none,.bool false,.none],slots:=sl}) (E (.ref e) az)) E s):
  zx M A (raiseStmt env (some x) none) Q E s:=by
 have Xf:P4.contains (.type "BaseException")=true:=by decide
 refine zf (zI h (λv az cF=>?_) λ_ _ x=>x);obtain⟨e,t,dx,sl,Xw,hC,he,hE⟩:=cF;refine gR Xw ?_;obtain⟨hp,g,d,tk,os⟩:=az
 repeat (first |with_reducible refine wpAny_loadPart_at he ?_ |with_reducible refine wpAny_loadPart_at hC ?_ |(with_reducible refine wpAny_isSubtype_exc hC (gR Xf ?_)) |wp_step)
 exact wpAny_raiseNew_none hh hE
end
section
variable{A:ZV}{call:Call}{fx:Fx}{E:zo->zt->Prop}{D1 D2 f1:zJ}
theorem aS.at'{γ:Gh}{g:G}{s s':zt}(I:aS γ g s)(h:s'.heap=s.heap)(o:s'.os=s.os)(gg:s'.gens=s.gens):aS γ g s':=by obtain⟨a,b,c,d,e⟩:=I;exact⟨by refine gR h ?_;exact a,by refine gR h ?_;exact b,by refine gR h ?_;exact c,o.trans d,gg.trans e⟩
theorem Lg{sp:Str}{γ:Gh}{g:G}{s s':zt}(I:aS γ g s){h1:yi}{k:Nat}{d2:Option zJ}(kp:Sub s.heap.get? h1.get?)(en:s.heap.get? e=none)
  (x:XI s'.heap e KF mA k vs d2) (hv:w5 vs) (st:th e h1 none s'.heap d2) (o:s'.os=s.os) (gg:s'.gens=s.gens) {p:D}  (hm:mA sp=some v) (dv:DR (lk γ.R s.heap) p v):
  c8 λγ' d=>dQ (d2=some d) (XK KF sp γ' s'.heap (.ref e) p) (bf γ s.heap γ' s'.heap) (aS γ' g s'):=by
 obtain⟨⟨ob,x1,x2,x3,x4⟩,x5,_⟩:=id x;obtain⟨d,rfl,ve,ij⟩:∃d,aG (d2=some d) (d≠e) (s'.heap.Ns1 d mA):=by
  rcases x5 with⟨_,z⟩ |z
  ·rw[z] at hm;exact nomatch hm
  ·exact z
 have dn:s.heap.get? d=none:=by
  rcases st.dict with z |⟨_,d',z,z'⟩
  ·cases z
  ·obtain rfl:=zh z
   cases q:s.heap.get? d with
   |none=>rfl
   |some o=>replace z':=(kp _ _ q)▸z';cases z'
 have keep:=λb ob z=>st.keep b ob (by rintro rfl;replace z:=en▸z;cases z) (by simp) (kp _ _ z);refine ze (id ij) λod Xx=>?_;obtain⟨_,_,Mx,_⟩:=Xx;let γ':Gh:={γ with R:=cx (cx γ.R e .exc) d .exc};have re:γ'.R e=.exc:=by show cx _ _ _ _=_;exact gR (aN ve.symm ..) bw
 have rd:γ'.R d=.exc:=bw;have nk:bf γ s.heap γ' s'.heap:=by
  refine⟨λb=>?_,rfl,rfl,λb o _ _ _ z=>keep b o z,λb o _ z=>⟨o,keep b o z,.refl o⟩,λb o z=>by refine gR (keep b o z ..) ?_;rfl⟩;by_cases q:b=d
  ·exact gR q (.inr ⟨dn,rd,by refine gR Mx ?_;rfl⟩)
  ·by_cases q':b=e
   ·exact gR q' (.inr ⟨en,re,by refine gR x1 ?_;rfl⟩)
   ·exact .inl (by show cx _ _ _ _=_;exact gR (aN q ..) (gR (aN q' ..) rfl))
 obtain⟨a,rfl⟩:=hv;exact⟨γ',d,rfl,⟨e,d,mA,v,rfl,⟨ob,_,x1,x2,x4,x3,re,rd,ve.symm,by refine gR Mx ?_;rfl,.inl rfl⟩,ij,hm,dv.sub nk.lk⟩,nk,(nk.rK I).at' rfl o gg⟩
abbrev Lh(xn:Nat):Prop:=xn=L.xn
theorem w7(ok:bF fx)(hk:fx.env.kindOf (T.tb.nm L.xn)=some .globalImplicit)(hd:(T.tb.nm L.xn==("__debug__"))=false)(hh:A.handled=none)(dH:∀vals,(A.under (.builtin "type.__call__" ⟨.ref KF::vals,[]⟩)).depth+1<yb)
  {m se:CE} {pf pc p:Pos} (h:gm (ai A call fx) (.cons m (.cons se .nil))) (hs:fY (.cons m (.cons se .nil))):g9 A call fx (.mj L.xn m se pf pc p):=λc r I hr=>by
 refine ze AU λmg Xy=>(zg (λXv hg2=>?_) Xy);refine gR (arm_exec_Raise ..) (zf (wpAny_standAt (w6 hh ?_)));refine zf (zI ?_ (λ_ _ z=>z) λ_ _ z=>XE.tI z I);refine bC (λQ q=>f6 ok I.g Xv hg2 hk hd q) (callWith_of ((congrArg (·||false) (f7 pc hs)).trans rfl) (keeps_K KZ) (de pc hs ?_));refine(?_:zx _ _ (spliced (backTo pc (starEach [aH T.tb.nm m,aH T.tb.nm se] fx.env))) _ _ _);refine gR (aj hs.1 ..) (gR (ay ..) ?_);refine gR (aj hs.2.1 ..) (gR (ay ..) ?_);refine spliced_cons (h.1.d7 I (.refl _) hr λa0 c0 v1 hr I0 K0 V0 _=>spliced_cons (h.2.1.d7 I0 K0 hr λa1 c1 v2 hr I1 K1 V1 K01=>spliced_nil ⟨I1.g.K,hr.opt λsx ex h3=>h3.opt λp' ep h4=>?_⟩));refine ze (bind_some ex) λq0 Xz=>?_;obtain⟨e0,e1⟩:=Xz;cases bL e0;cases fU e1;cases bL ep
 ·have top:=λb o z=>(I1.g.top b o z).2
  refine call_exc (h:=c1.s.heap) (g:=c1.s.gens) (d:=c1.s.drawn) (t:=c1.s.toks) (os:=c1.s.os) (top _ _ kf_at) (OB top) K6 Xb (λh' e mk=>?_) (by show 2<=yG;refine gR sizeLine_eq ?_;omega);refine ze (mk.there) λtt tR=>(zg (λt1 Ho=>?_) tR);refine zg (λt2 t3=>?_) Ho;have te:T.top.get? e=none:=by
   cases q:T.top.get? e with
   |none=>rfl
   |some o=>exact absurd ((top e o q).symm.trans mk.new) (by simp)
  refine wpAny_call (C8 (v1:=v1) (v2:=v1) (v3:=v2) (λb o z=>mk.keeps _ _ (top b o z)) te rfl ?_ ?_ ?_ rfl ?_ ?_ ?_ (dd:=none) ⟨⟨_,t1,rfl,rfl,rfl⟩,.inl ⟨rfl,λ_=>rfl⟩,[],zm _,Within.nil⟩ ⟨tt,rfl⟩ (λ_ z=>by cases z) (dH _) (by decide) λs' sv su x4 hv4 st o4 g4=>?_)
  ·simp[adS,beq_eq_false_iff_ne.mpr AW.1,beq_eq_false_iff_ne.mpr AW.2.1]
  ·simp[adS,beq_eq_false_iff_ne.mpr AW.2.2]
  ·simp
  ·simp[adS,beq_eq_false_iff_ne.mpr AW.1]
  ·simp
  ·simp
  ·obtain⟨γ',dx,rfl,xk,nk,GI⟩:=Lg I1.g mk.keeps mk.new x4 hv4 st o4 g4 (if_pos rfl) V1
   refine⟨rfl,zf (wpAny_standAt (zl ?_))⟩;obtain⟨⟨ob,x1,x2,x3,x5⟩,_⟩:=x4;obtain⟨a,rfl⟩:=hv4;obtain⟨oc,od,dt,sl⟩:=ob;dsimp only at x2 x3 x5;subst x2 x3 x5;refine ze (I1.f.ns) λm mJ=>?_;obtain⟨ij,hrl,_⟩:=mJ;refine ze (id ij) λol wz=>(ze wz λ_ P5=>(ze P5 λ_ tu=>(zg (λhol _=>?_) tu)));exact⟨e,a,some dx,sl,rfl,(GI.top _ _ kf_at).2,x1,p',c1.g,γ',(h4.1.symm),xk,GI,nk.ext K1.x,.inr (((nk.R _).resolve_right λ⟨z,_⟩=>by replace z:=hol▸z;cases z).trans hrl),m,bJ.ns (λo z=>nk.same _ o (.inr hrl) z) ij⟩
end
end Lw
namespace Lw
open PySem PySem.Calls PyProof.Rows PySem.W
variable{h h':yi}{s s' az:zt}{env:Zj}{c c' c1 c₀ c2:ah}{pos p pf pa p1:Pos}{a b i1 i2 z ax a1 a2 S ti to I dd:zJ}{m x n' i j cl ep:Nat}{y q r:D}{P ng:Prop}{o:Obj}{L L':cT}{ps binds:List (Str×zo)}{v u v1:zo}{vs ws vals rest:List zo}{γ γ':Gh}{ks:List aA}{xs:List (List aA×zJ)}{ov:Option zo}{g:G}{fx:Fx}{e e1 e':Env}{t t1 t2:Bool}{Q E:zo->zt->Prop}{sl:Slot}{α β:Type}{ce:CE}{op:ad4}{es ifs:cz}{φ:Nat->zJ×zJ}{fs:List (Nat×AV)}{l':List D}{M:Model}{name:Str}{tk:Tok}{A:ZV}{ts:List (Nat×Nat×Pos)}{tp:Option Pos}{ci:CI}{acc:List (Str×zJ)}{names:List (Str×Zc)}{F:Fn}{scope:Scope}{gs:fQ}{sc:List (Nat×Zc)}{kl:List (List aA)}{src:AV}{ord:List (Int×zo)}{xl:List Str}{cd:Yl}{cY:List Zj}{qu:ah->Prop}{Md:Nat->zo->ah->Prop}
section
variable{g:Array GenState}{d:Drawn}{t:Nat}{os:yO}{K:Frag}
variable{dx:zJ}{m:Str->Option zo}
theorem sD{XA:zo}{Q:Unit->zt->Prop}(hC:h.get? KF=some IF)
  (hx:h.get? a=some o) (hc:o.cls=.ref KF) (hq:Q () ⟨h,g,d,t,os⟩):zx M A (checkBuiltinCall "BaseException.__getattribute__" ⟨[.ref a,XA],[]⟩) Q E ⟨h,g,d,t,os⟩:=by
 have hk:builtinKind "BaseException.__getattribute__"=some .slot:=by decide+kernel
 have P6:splitId "BaseException.__getattribute__"=some ("BaseException","__getattribute__"):=by decide+kernel
 have Xf:P4.contains (.type "BaseException")=true:=by decide
 delta checkBuiltinCall
 refine gR hk (gR P6 ?_);refine zf (zf (zf (wpAny_loadPart_at hx ?_)));refine gR hc (zl (wpAny_isSubtype_exc hC (gR Xf (iT zi ?_))))
 repeat wp_step
 exact hq
theorem pL{Q:YQ->zt->Prop}(X:K.In h)(hx:h.get? a=some o)(hc:o.cls=.ref KF)(hf:∃vs,o.data=.fields vs)(RU:o.dict=some dx)(hn:h.Ns1 dx m)(hv:m name=some v)
  (JN:clsIn K KF=some cd) (hd:cd.hasDict=true) (hna:Z7 K (.ref KF) name=some none) (hq:Q (.done (.ret v)) ⟨h,g,d,t,os⟩):
  zx (zv prog w) A (Yc.«object.__getattribute__» ⟨[.ref a,.str name tk],[]⟩) Q E ⟨h,g,d,t,os⟩:=by
 obtain⟨vs,hf⟩:=hf;obtain⟨oc,od,dt,sl⟩:=o;dsimp only at hc hf RU;subst hc hf RU
 repeat (any_goals (first |assumption |(with_reducible refine wpAny_loadPart_at hx ?_) |(with_reducible refine Looks.at (looks_findIn X hna) ?_) |(with_reducible refine Looks.at (looks_clsIn X JN) ?_) |(with_reducible refine wpAny_nsGet hn.ns (gR hv ?_)) |wp_step))
theorem Li{expr:Bool}(X:K.In h)(hC:h.get? KF=some IF)(hx:h.get? a=some o)(hc:o.cls=.ref KF)(hf:∃vs,o.data=.fields vs)(RU:o.dict=some dx)(hn:h.Ns1 dx m)(hv:m name=some v)
  (JN:clsIn K KF=some cd) (hd:cd.hasDict=true) (hna:Z7 K (.ref KF) name=some none) (hga:Z7 K (.ref KF) "__getattribute__"=some (some (.builtin "BaseException.__getattribute__"))) (hgt:Z7 K (.ref KF) "__getattr__"=some none) (hh:handedOut v=pure v) (hq:Q v ⟨h,g,d,t+1,os⟩):
  zx (zv prog w) A (getAttr (.ref a) name expr) Q E ⟨h,g,d,t,os⟩:=by
 have FB:=PySem.F.attr_Exception;have f3:=FB.ga.bind (.ref a);have hx0:(expr&&onTheHeap (Z3 "BaseException.__getattribute__"))=false:=by cases expr <;> rfl
 have hx2:(Z3 "BaseException.__getattribute__"==Z3 "object.__getattribute__")=false:=by decide+kernel
 have hx1:(onTheHeap (Zm KF)&&Z3 "BaseException.__getattribute__"==Z3 "object.__getattribute__")=false:=hx2;refine zf (wpAny_mkText ?_)
 repeat (any_goals (first |assumption |(with_reducible refine wpAny_loadPart_at hx (gR hc ?_)) |(with_reducible refine Looks.at (looks_findIn X hga) ?_) |(with_reducible refine Looks.at (looks_findIn X hgt) ?_) |wp_step))
 refine codeAny_call_builtin FB.ga.plain PySem.F.entry_bexc_ga (sD hC hx hc (pL X hx hc hf RU hn hv JN hd hna ?_))
 repeat (any_goals (first |assumption |wp_step))
end
end Lw
namespace Lw
open PySem PySem.Calls PyProof.Rows PySem.W aZ
variable{v v1:zo}{vs:Array zo}{α:Type}{a f2 e:zJ}{vals:List zo}{env:Zj}{mA:Str->Option zo}{dd:Option zJ}{γ:Gh}{fx:Fx}
section
variable{A:ZV}{E:zo->zt->Prop}{s:zt}{R:yX->zt->Prop}
theorem w8{e:zo}{n:Str}{P8:Stmt}{body:List Stmt}{pos:Pos}
  (h:zx (zv prog w) A (setFlight e none) (λ_ az=>zx (zv prog w) A (storeName env n e) (λ_ gw=>zx (zv prog w) A (execs (P8::body) env) (λf fj=>R (.ok f) fj) (λ_ _=>False) gw) (λ_ _=>False) az) (λ_ _=>False) s):
  ZH (zv prog w) A (.handlers e [.ExceptHandler none (some n) (P8::body) pos] env) R s:=by
 refine codeAny_of_tree ?_;show zx _ A (do return Fin.done (←(handleWith e env [.ExceptHandler none (some n) (P8::body) pos]).onRaise (λx=>do noteFrame x env;theTreesLotGoes x))) _ _ s;refine zf (wpAny_noted ?_);refine zf (wpAny_standAt (zf (zI h (λ_ az cF=>?_) λ_ _ x=>x.elim)));refine zf (zI (wpAny_bindName cF) (λ_ gw EJ=>?_) λ_ _ x=>x.elim);exact zf (wpAny_attempt (zI EJ (λf fj BY=>zl (zl BY)) λ_ _ x=>x.elim))
end
section
variable{A:ZV}{call:Call}{E:zo->zt->Prop}
theorem ak.sb{L:zJ}{nV:Gh}{n₀ n:Nat}{G4 h h':yi}(K:ak nV n₀ G4 γ n h)(r:nV.R L=.sys)(sb:ZN L h h'):ak nV n₀ G4 γ n h':=by
 have ne:∀b,nV.R b≠.sys->b≠L:=λb q=>by rintro rfl;exact q r
 refine⟨λb o q e=>?_,λb o q e=>?_,K.len,K.aI,λb o q e=>?_⟩
 ·obtain⟨x,y⟩:=K.j7 b o q e
  exact⟨x,(sb.2 b (ne b (bA q rfl))).trans y⟩
 ·obtain⟨x,y⟩:=K.aM b o q e
  exact⟨x,(sb.2 b (ne b (bA q rfl))).trans y⟩
 ·refine zg (λx XB=>?_) (K.fr b o q e);refine ze XB λo' XC=>(zg (λy z=>?_) XC)
  exact⟨x,o',(sb.2 b (ne b (bA q rfl))).trans y,z⟩
theorem aS.sb{γ:Gh}{g:G}{s s':zt}{L:zJ}(I:aS γ g s)(r:γ.R L=.fr\/γ.R L=.sys)(sb:ZN L s.heap s'.heap)(l:(s'.heap.get? L).isSome)(o:s'.os=s.os)(gg:s'.gens=s.gens):aS γ g s':=by
 have ne:∀b,γ.R b≠.fr->γ.R b≠.sys->b≠L:=λb q q'=>by rintro rfl;refine YA r (λz=>?_) λz=>?_;exact q z;exact q' z
 have hf:∀b ob,γ.R b=.free->s.heap.get? b=some ob->γ.R b=.free/\s'.heap.get? b=some ob:=λb ob q e=>⟨q,(sb.2 b (ne b (bA q rfl) (bA q rfl))).trans e⟩;refine⟨λn q e=>?_,λb q=>?_,λb q e=>hf b q (I.top b q e).1 (I.top b q e).2,o.trans I.os,gg.trans I.gens⟩
 ·exact dW.au (γ:=γ) (γ':=γ) hf (zm _) (zr.mp e).1 (λ_ _=>rfl) (λb o j q e=>⟨q,(sb.2 b (ne b (bA q rfl) (bA q rfl))).trans e⟩) (I.objs n q e)
 ·by_cases z:b=L
  ·exact gR z l
  ·exact gR (sb.2 b z ..) (I.live b q)
theorem Hp{h h':yi}{L:zJ}(r:γ.R L=.fr\/γ.R L=.sys)(sb:ZN L h h'):Sub (lk γ.R h) (lk γ.R h'):=λb o e=>by
 refine zg (λq e'=>?_) (aw e);exact aB q ((sb.2 b (by rintro rfl;replace r:=q▸r;rcases r with z |z <;> cases z)).trans e')
theorem Ns.some{h:yi}{m:Str->Option zo}(x:h.Ns a m):(h.get? a).isSome:=by refine ze x λ_ XD=>?_;obtain⟨_,_,e,_⟩:=XD;exact gR e rfl
abbrev M4(xn:Nat):Prop:=xn=L.xn
theorem Rn.try{call:Call}{x:W (Fl×Env×G)}{e:Env}{r:R (Fl×Env×G)}(h:Rn call (x.eY (vy e)) r):aF (Rn call x (x.run call)) ((vy e (x.run call)).run call=r):=
 have er:=(W.xv rfl).symm.trans h.1
 ⟨⟨rfl,λq=>h.2 (er.symm.trans (congrArg (λz=>(vy e z).run call) q))⟩,er⟩
theorem Hq(ok:bF fx)(vh:iE A fx){cY:List Zj}(hA:A.frames=some (fx.env::cY))(hf:fx.env.frame=some fx.env.locals){y s:Nat}(hsp:T.tb.nm s=sp)(hkx:fx.env.kindOf (T.tb.nm L.xn)=some .globalImplicit)(RU:(T.tb.nm L.xn==("__debug__"))=false)
  (RV:fx.env.kindOf (T.tb.nm y)=some .local) (hdy:(T.tb.nm y==("__debug__"))=false) {a:aK} {px py pa pr ph p:Pos} (ha:eu A call fx a):
  g9 A call fx (.vp a L.xn y s px py pa pr ph p):=by
 intro c r I hr;obtain⟨hr,er⟩:=Rn.try hr
 refine wpAny_Try_except (zI (ha c _ I hr) (λf s' q=>?_) λv s' q=>?_)
 ·rcases q with⟨c',q⟩ |⟨a',v,e',g',γ',q⟩
  ·refine gR q.2 (gL q.3 ?_)
   exact wpAny_execs_nil (.n (er.symm.trans (congrArg (λz=>(vy c.e z).run call) q.1)) q.4 q.5)
  ·exact gR q.2 (.inr ⟨a',v,e',g',γ',er.symm.trans (congrArg (λz=>(vy c.e z).run call) q.1),rfl,q.3,q.4,q.5⟩)
 ·obtain⟨pd,g',γ',e,xk,GI,K,hl,hl2⟩:=q
  obtain⟨ex,dd,mx,vx,XF,XO,ij,hm,dv⟩:=xk;refine gR XF ?_;obtain⟨cd,JN,acx⟩:=Xd;obtain⟨mg,Xv,hg2⟩:=AU;have F:=w3 vh hA I K ⟨hl,hl2⟩;refine nW hA hf F XO λKX h1 nk1 XO1 _ kd1=>(gO XO1 λh2 nk2 XO2 _ kd2=>?_);have nk:=nk1.trans nk2;have GI2:=nk.rK GI;have F2:=F.AR nk;refine zg (λ_ XG=>?_) (F2 fx.env (.head _));obtain⟨aL,eL,rL,mL,nL⟩:=XG;rw[hf] at eL;obtain rfl:=zh eL;have hLs:c.γ.R fx.env.locals=.sys:=by obtain⟨_,_,r,_⟩:=I.f.ns;exact r
  obtain⟨oe,vse,he,PB,ada,hde,rre,rrd,_⟩:=id XO2;refine wpAny_handleBy_cons (codeAny_handlers_test (f6 ok GI2 Xv hg2 hkx RU (wpAny_excMatches_sub_self (GI2.top _ _ kf_at).2 he PB rfl ?_))) (by intro q;cases q);refine w8 (gO XO2 λh3 nk3 XO3 _ kd3=>?_);have GI3:aS KX g' {s' with heap:=h3}:=bf.rK (s:={s' with heap:=h2}) GI2 nk3;obtain⟨_,aL,eL,M5,mL3,nL3⟩:=(F2.AR nk3) fx.env (.head _);rw[hf] at eL;obtain rfl:=zh eL;have acy:=(ij.at λo z=>kd2 o (kd1 o z)).at kd3;refine wpAny_storeName_local RV nL3 (λh4 nL4 XH=>?_) (gR ok.kind rfl);have GI4:aS KX g' ⟨h4,s'.gens,s'.drawn,s'.toks+1,s'.os⟩:=GI3.sb M5 XH (Ns.some nL4) rfl rfl;obtain⟨oe3,adb,he3,acz,XJ,acA,acB,acC,_⟩:=id XO3;have ne:∀b,KX.R b=.exc->b≠fx.env.locals:=λb q=>by rintro rfl;rw[q] at M5;rcases M5 with z |z <;> cases z
  have dv4:=((dv.sub nk.lk).sub nk3.lk).sub (Hp M5 XH);refine wpAny_execs_cons (wpAny_Return_some ?_);show zx _ _ (do
   let o ←attributeBase (.Name (T.tb.nm y) py) (T.tb.nm s) fx.env (YJ (.Name (T.tb.nm y) py) fx.env)
   standAt pa.atName
   let r ←holding [o] (getAttr o (T.tb.nm s) true);letTemporaryGo (.Name (T.tb.nm y) py) o r
   pure r) _ _ _
  refine gR (ft rfl ..) (gR hsp ?_);refine zf (wpAny_Name (wpAny_loadName_local ok.kind RV nL4 (if_pos rfl) ?_) hdy);refine zf (wpAny_standAt (zf (zT ?_)));refine Li GI4.K (GI4.top _ _ kf_at).2 ((XH.2 ex (ne _ acB)).trans he3) acz ⟨_,acA⟩ XJ (acy.sameBut XH (ne _ acC)) hm JN acx MY W9 Xa (handedOut_of (mP (γ:=KX) (len:=0) (a:=.d pd) dv4)) (zf (wpAny_letTemporaryGo (zl ?_)));refine zf (wpAny_bindName (wpAny_storeName_local RV nL4 (λh5 nL5 sb5=>?_) (gR ok.kind rfl)));unfold unbindBehindTheSuite unbindName deleteName;refine wpAny_onRaise (zf (wpAny_point (zf ?_)));refine gR RV (gR ok.kind ?_);refine zf (wpAny_nsDel nL5 λh6 m6 nL6 sb6=>?_);refine gR (if_pos rfl ..) (zl (wpAny_point ?_));have GI5:aS KX g' ⟨h5,s'.gens,s'.drawn,s'.toks+1+1+1,s'.os⟩:=GI4.sb M5 sb5 (Ns.some nL5) rfl rfl;exact .inr ⟨.d pd,vx,c.e,g',KX,er.symm.trans (congrArg (λz=>(vy c.e z).run call) e),rfl,(GI5.sb M5 sb6 (Ns.some nL6) rfl rfl),(((nk3.ext (nk.ext K)).sb hLs XH).sb hLs sb5).sb hLs sb6,(dv4.sub (Hp M5 sb5)).sub (Hp M5 sb6)⟩
end
end Lw
namespace Lw
open PySem PySem.Calls PyProof.Rows PySem.W
variable{h h':yi}{s s' az:zt}{env:Zj}{c c' c1 c₀ c2:ah}{pos p pf pa p1:Pos}{a b i1 i2 z ax a1 a2 S ti to I dd:zJ}{m x n' i j cl ep:Nat}{y q r:D}{P ng:Prop}{o:Obj}{L L':cT}{ps binds:List (Str×zo)}{v u v1:zo}{vs ws vals rest:List zo}{γ γ':Gh}{ks:List aA}{xs:List (List aA×zJ)}{ov:Option zo}{g:G}{fx:Fx}{e e1 e':Env}{t t1 t2:Bool}{Q E:zo->zt->Prop}{sl:Slot}{α β:Type}{ce:CE}{op:ad4}{es ifs:cz}{φ:Nat->zJ×zJ}{fs:List (Nat×AV)}{l':List D}{M:Model}{name:Str}{tk:Tok}{A:ZV}{ts:List (Nat×Nat×Pos)}{tp:Option Pos}{ci:CI}{acc:List (Str×zJ)}{names:List (Str×Zc)}{F:Fn}{scope:Scope}{gs:fQ}{sc:List (Nat×Zc)}{kl:List (List aA)}{src:AV}{ord:List (Int×zo)}{xl:List Str}{cd:Yl}{cY:List Zj}{qu:ah->Prop}{Md:Nat->zo->ah->Prop}
structure RW where
 tb:Tb
 xA:List (Nat×Nat)
 BK:List (Nat×Nat)
 vA:List (Nat×Nat×Nat)
 rz:Nat->Bool
 tz:Nat->Nat->Bool
section
variable(S:RW)
noncomputable def Hr(C:Ctx)(i x:Nat):Bool:=C.lay.any λq=>q.1==i&&q.2.1==x
noncomputable def RX(C:Ctx)(x:Nat):Bool:=C.kinds.contains (x,.globalImplicit)&&!(S.tb.nm x==("__debug__":Str))
noncomputable def pM(C:Ctx)(n:Str):Bool:=C.kinds.any λq=>q.2== .globalImplicit&&S.tb.nm q.1==n
noncomputable def tgB(C:Ctx)(i x:Nat):Bool:=C.lay.any λq=>q.1==i&&q.2.1==x&&(!q.2.2||(C.kinds.contains (x,.cell)&&C.mine.contains x))
def star(a:CE):Bool:=notStar (aH S.tb.nm a)
noncomputable def acD(e:Ye):Bool:=match e with |.Slice ..=>false |_=>true
set_option backward.match.sparseCases true in
noncomputable def acE(e:Ye):Bool:=match e with |.Tuple ..=>false |_=>true
noncomputable def fB:cz->Bool
 |.nil=>true
 |.cons a r=>star S a&&fB r
noncomputable def uP(p q:Pos):Bool:=p.endLine==q.line
def Lj(C:Ctx)(ts:List (Nat×Nat×Pos))(tp:Option Pos):Bool:=ts.all (λt=>tgB C t.1 t.2.1)&&(tp.isSome||ts.length==1)
def M6(C:Ctx)(gs:fQ)(sc:List (Nat×Zc)):Bool:=
 decide ((sc.map (·.1)).Nodup)&&sc.all (λp=>p.2 != .free||C.lay.any λq=>q.2.1==p.1&&q.2.2)&&
 (CH gs).all (λt=>(sc.contains (t.2.1,.local)||sc.contains (t.2.1,.cell))&&!(S.tb.nm t.2.1==("__debug__":Str)))&&
 decide (((CH gs).map (·.1)).Nodup)&&decide (((CH gs).map λt=>t.2.1).Nodup)&&C.lay.all (λq=>!(MK gs).contains q.1)
noncomputable def P9:fQ->Bool
 |.el _=>true
 |.cons ts _ _ _ r=>ts.all (λt=>!(MK r).contains t.1)&&P9 r
def isF:CE->Bool
 |.sZ ..=>true
 |.vc .nil _=>true
 |.cb b _ _ _=>JQ b
 |.j6 .Add _ (.sZ ..) _=>true
 |.j6 .Add _ (.comp ..) _=>true
 |.j6 .Add _ (.cb .list ..) _=>true
 |.comp ..=>true
 |_=>false
mutual
noncomputable def fm(C:Ctx):CE->Bool
 |.k c _=>match c with
  |.str k=>Zh (S.tb.nm k)
  |_=>true
 |.neg ..=>true
 |.not a _=>fm C a
 |.v i x _=>Hr C i x
 |.gk x _=>RX S C x
 |.j6 _ a b _=>fm C a&&fm C b
 |.Iu op a b _=>!behindInMarks op (aH S.tb.nm b)&&fm C a&&fm C b
 |.NO _ es _=>lR C es
 |.ite t a b _=>fm C t&&fm C a&&fm C b
 |.Rr es _=>decide (es.len<=lim)&&fB S es&&lR C es
 |.sZ es _=>decide (es.len<=lim)&&fB S es&&lR C es
 |.vc ps _=>match ps with |.nil=>true |_=>false
 |.nl es _=>decide (es.len<=lim)&&fB S es&&lR C es
 |.nd ps _=>decide (ps.len<=15)&&okP C ps
 |.sub a i _=>fm C a&&fm C i
 |.Ma a lo hi st _ _=>fm C a&&okO C lo&&okO C hi&&(match st with |.n=>true |_=>false)
 |.eY a _ _=>d9 (aH S.tb.nm a)&&fm C a
 |.cf f x es _ _=>S.xA.contains (f,x)&&RX S C x&&fB S es&&lR C es
 |.cb b a _ _=>pM S C (mu b)&&star S a&&fm C a
 |.bm a m es pa p=>d9 (aH S.tb.nm a)&&uP pa p&&fB S es&&fm C a&&lR C es&&(match m with
  |.append |.hK |.hM=>es.len==1
  |.pop=>decide (es.len<=1))
 |.cm a f m es pa p=>d9 (aH S.tb.nm a)&&uP pa p&&decide (es.len<29)&&fB S es&&(match(S.tb.fn f).bind (·.own) with |some c=>S.vA.contains (c,m,f) |none=>true)&&fm C a&&lR C es
 |.new cl x es _ _=>S.BK.contains (cl,x)&&RX S C x&&fB S es&&lR C es
 |.s9 ..=>false
 |.Ru a t _ _ _=>pM S C "isinstance"&&pM S C (if t then "tuple" else "list")&&star S a&&fm C a
 |.comp gs sc _=>M6 S C gs sc&&P9 gs&&okC C (r6 C gs sc) gs
 |.fs ps _=>decide (2<=Ca ps)&&okF C ps
 |.j7 i x _=>Hr C i x
 |.Bv len a _ _ _ _=>pM S C (if len then "len" else "sorted")&&pM S C "set"&&star S a&&fm C a
 |.Bw a pa p1 _ _=>pM S C "min"&&d9 (aH S.tb.nm a)&&uP pa p1&&fm C a
 |.iK _=>true
noncomputable def lR(C:Ctx):cz->Bool
 |.nil=>true
 |.cons a r=>fm C a&&lR C r
noncomputable def okP(C:Ctx):pT->Bool
 |.nil=>true
 |.cons k v r=>fm C k&&fm C v&&okP C r
noncomputable def okO(C:Ctx):CO->Bool
 |.n=>true
 |.s a=>fm C a
noncomputable def okF(C:Ctx):qN->Bool
 |.nil=>true
 |.lit s _ r=>Zh (S.tb.nm s)&&okF C r
 |.val a _ r=>fm C a&&okF C r
noncomputable def okI(C:Ctx)(one:Bool):CI->Bool
 |.e a=>fm C a
 |.zip a b _ _=>!one&&pM S C "zip"&&star S a&&star S b&&fm C a&&fm C b
 |.Bx a _ _=>!one&&pM S C "enumerate"&&star S a&&fm C a
 |.Rv a _ _=>pM S C "range"&&star S a&&fm C a
noncomputable def okC(C C':Ctx):fQ->Bool
 |.el _=>false
 |.cons ts tp ci ifs r=>okI C tp.isNone ci&&!il (Dx S.tb.nm ci)&&Lj C' ts tp&&okT C' ifs&&okG C' r
noncomputable def okG(C:Ctx):fQ->Bool
 |.el a=>fm C a
 |.cons ts tp ci ifs r=>okI C tp.isNone ci&&!il (Dx S.tb.nm ci)&&Lj C ts tp&&okT C ifs&&okG C r
noncomputable def okT(C:Ctx):cz->Bool
 |.nil=>true
 |.cons a .nil=>fm C a
 |_=>false
end
noncomputable def jX(C:Ctx)(ts:List CT)(line:Nat):List Str:=ts.filterMap λ
  |.n _ x p |.own _ x p=>if C.kinds.contains (x,.local)&&p.line==line then some (S.tb.nm x) else none
  |_=>none
def jj(ts:List CT):Nat:=((ts.map (toT S.tb.nm)).head?.map (·.pos.line)).getD 0
def swN(C:Ctx)(ts:List CT)(es:cz):Option (Option (List Str)):=
 if !(ts.length==2||ts.length==3)||es.len != ts.length then some none
 else if(jX S C ts (jj S ts)).length != ts.length||(jX S C ts (jj S ts)).eraseDups.length != (jX S C ts (jj S ts)).length then some none
 else if(cn S.tb.nm es).all (foldedForSure 8) then some none
 else if(cn S.tb.nm es).all (constantsAlone 8) then none
 else some (some (jX S C ts (jj S ts)))
def ctB(C:Ctx):CT->Bool
 |.n i x _=>tgB C i x
 |.own i x _=>tgB C i x
 |.eY b _ _=>fm S C b
 |.sub b k _=>fm S C b&&fm S C k&&acD (aH S.tb.nm k)
noncomputable def Ll:CT->Bool
 |.n .. |.own ..=>true
 |_=>false
def okB(C:Ctx)(t:CT)(a:CE):Bool:=star S a&&Ll t&&ctB S C t&&fm S C a&&(!d0 t||isF a)
noncomputable def nmO:CT->Str
 |.n _ x _ |.own _ x _=>S.tb.nm x
 |_=>⟨#[]⟩
noncomputable def Lm(C:Ctx):CT->Bool
 |.n _ x _ |.own _ x _=>C.kinds.contains (x,.local)||C.kinds.contains (x,.cell)
 |_=>false
mutual
noncomputable def Ln(C:Ctx):CS->Bool
 |.expr a _=>!gH (aH S.tb.nm a)&&fm S C a
 |.ret a _=>fm S C a
 |.Iv t a _=>ctB S C t&&fm S C a&&(match t with
  |.n ..=>true
  |.own ..=>!gH (aH S.tb.nm a)&&isF a
  |_=>true)
 |.Bz ts _ a _=>!gH (aH S.tb.nm a)&&acE (aH S.tb.nm a)&&fm S C a&&ts.all λt=>ctB S C t&&(match t with |.n .. |.sub ..=>true |_=>false)
 |.lK ts _ es _ _=>match ts,es with
  |[t,u],.cons a (.cons b .nil)=>okB S C t a&&okB S C u b&&Lm C t&&Lm C u&&(match swN S C [t,u] (.cons a (.cons b .nil)) with
   |none=>false
   |some none=>true
   |some (some l)=>decide (l=[nmO S t,nmO S u])&&decide (eI t≠eI u))
  |_,_=>false
 |.ite t a b _=>fm S C t&&pN C a&&pN C b
 |.while t a _=>fm S C t&&pN C a
 |.for ts tp ci a _=>Lj C ts tp&&!il (Dx S.tb.nm ci)&&okI S C tp.isNone ci&&pN C a
 |.mj x m s _ _ _=>S.rz x&&RX S C x&&star S m&&star S s&&fm S C m&&fm S C s
 |.vp a x y s _ _ _ _ _ _=>S.tz x s&&RX S C x&&C.kinds.contains (y,.local)&&!(S.tb.nm y==("__debug__":Str))&&pN C a
 |.iK _=>true
noncomputable def pN(C:Ctx):aK->Bool
 |.nil=>true
 |.cons a r=>Ln C a&&pN C r
end
end
abbrev rz(x:Nat):Bool:=x==aZ.L.xn
abbrev tz(x s:Nat):Bool:=x==aZ.L.xn&&s==aZ.L.sn
abbrev sup(f:Nat):Option Nat:=(aZ.L.sx.lookup f).map (·.1)
abbrev sg:RW:=⟨T.tb,T.xA,T.BK,T.vA,rz,tz⟩
structure AK(A:ZV)(call:Call):Prop where
 hu:A.units+64<yA
 hh:A.handled=none
 hc:bS A call
 lku:∀fx,iE A fx->∀C vals,iE (A.under (.builtin "type.__call__" ⟨.ref C::vals,[]⟩)) fx
 hcu:∀C vals,bS (A.under (.builtin "type.__call__" ⟨.ref C::vals,[]⟩)) call
section
variable{call:Call}{C:Ctx}
theorem lG(f:c9 C fx)(h:Hr C i x=true):∃o,(i,T.tb.nm x,o)∈fx.lay:=by refine ze (yM.mp h) λlQ BN=>?_;obtain⟨j,y,b⟩:=lQ;refine zg (λe1 e2=>?_) (aa BN.2);obtain rfl:j=i:=beq_iff_eq.mp e1;obtain rfl:y=x:=beq_iff_eq.mp e2;refine ze (f.lay _ _ _ BN.1) λo kB=>(zg (λh _=>?_) kB);exact⟨o,h⟩
theorem gf(f:c9 C fx)(h:RX sg C x=true):fx.env.kindOf (T.tb.nm x)=some .globalImplicit/\(T.tb.nm x==("__debug__"))=false:=by refine zg (λa b=>?_) (aa h);exact⟨f.kind _ _ (zz.mp a),iw b⟩
theorem bH(f:c9 C fx){n:Str}(h:pM sg C n=true):fx.env.kindOf n=some .globalImplicit:=by refine ag λ_ k=>(ze (yM.mp h) λry oV=>?_);obtain⟨x,k⟩:=ry;refine zg (λe1 e2=>?_) (aa oV.2);obtain rfl:k=.globalImplicit:=beq_iff_eq.mp e1;exact k (gL ((beq_iff_eq.mp e2) ..) (f.kind _ _ oV.1))
theorem eW(f:c9 C fx)(h:tgB C i x=true):∃o,qp fx i x o:=by refine ze (yM.mp h) λv7 lL=>?_;obtain⟨j,y,b⟩:=v7;refine zg (λe1 e2=>?_) (aa lL.2);refine zg (λe0 e3=>?_) (aa e1);obtain rfl:j=i:=beq_iff_eq.mp e0;obtain rfl:y=x:=beq_iff_eq.mp e3;refine ze (f.lay _ _ _ lL.1) λo kn=>?_;obtain⟨h,hb⟩:=kn;refine⟨o,h,λhs=>?_⟩;obtain rfl:b=true:=hb.symm.trans hs;obtain⟨c1,c2⟩:=aa e2;exact⟨f.kind _ _ (zz.mp c1),f.mine _ (zz.mp c2)⟩
theorem jk(f:c9 C fx)(h:Lj C ts tp=true):(∀t∈ts,∃o,qp fx t.1 t.2.1 o)/\(tp=none->∃t,ts=[t]):=by refine zg (λa b=>?_) (aa h);refine⟨λt ht=>eW f (zC.mp a t ht),λe=>?_⟩;subst e;exact List.length_eq_one_iff.mp (beq_iff_eq.mp b)
theorem bl:∀{es:cz},fB sg es=true->fY es
 |.nil,_=>trivial
 |.cons _ _,h=>⟨(aa h).1,bl (aa h).2⟩
theorem kY:∀{gs:fQ},P9 gs=true->GNd gs
 |.el _,_=>trivial
 |.cons _ _ _ _ _,h=>⟨λt ht hm=>(by
   have:=iw (zC.mp (aa h).1 t ht);rw[zz.mpr hm] at this;exact nomatch this),kY (aa h).2⟩
theorem nZ(h:M6 sg C gs sc=true):eJ C gs sc:=by
 refine zg (λh h6=>?_) (aa h);refine zg (λh h5=>?_) (aa h);refine zg (λh h4=>?_) (aa h);refine zg (λh h3=>?_) (aa h);refine zg (λh1 h2=>?_) (aa h);refine⟨of_decide_eq_true h1,λx hx=>?_,λt ht=>?_,of_decide_eq_true h4,of_decide_eq_true h5,λq hq hm=>?_⟩
 ·have:=zC.mp h2 _ hx
  obtain⟨⟨i,y,b⟩,hq,e⟩:=yM.mp (show(C.lay.any λq=>q.2.1==x&&q.2.2)=true from this);refine zg (λe1 e2=>?_) (aa e);obtain rfl:y=x:=beq_iff_eq.mp e1;obtain rfl:b=true:=e2;exact⟨i,hq⟩
 ·refine zg (λa b=>?_) (aa (zC.mp h3 t ht))
  exact⟨(zW.mp a).imp zz.mp zz.mp,iw b⟩
 ·have:=iw (zC.mp h6 q hq)
  rw[zz.mpr hm] at this;exact nomatch this
variable(K:AK A call)
theorem aP(h:ai A call fx ce)(hd:isTrue (aH T.tb.nm ce) fx.env (YJ (aH T.tb.nm ce) fx.env)=(do let v ←YJ (aH T.tb.nm ce) fx.env;standAt (aH T.tb.nm ce).pos;holding [v] (truthy v)):=by rfl):
  ai A call fx ce/\ct A call fx ce:=⟨h,Es h hd⟩
include K
mutual
theorem eS:∀(e:CE) (C:Ctx) (fx:Fx),c9 C fx->iE A fx->fm sg C e=true->ai A call fx e/\ct A call fx e
 |.k c p,C,fx,f,l,h=>aP (TJ c p λk e=>by subst e;exact h)
 |.neg i p' p,C,fx,f,l,h=>aP (Jh i p' p)
 |.not a p,C,fx,f,l,h=>let x:=eS a C fx f l h;⟨Ji x.1,Et x.2⟩
 |.v i x p,C,fx,f,l,h=>let⟨_,q⟩:=lG f h;aP (TK f.ok q)
 |.gk x p,C,fx,f,l,h=>let q:=gf f h;aP (OT f.ok q.1 q.2)
 |.j6 op a b p,C,fx,f,l,h=>aP (Jm (eS a C fx f l (aa h).1).1 (eS b C fx f l (aa h).2).1)
 |.Iu op a b p,C,fx,f,l,h=>
  let hm:=iw (aa (aa h).1).1;let x:=(eS a C fx f l (aa (aa h).1).2).1;let y:=(eS b C fx f l (aa h).2).1
  ⟨Js K.hu hm x y,EI K.hu hm x y⟩
 |.NO op es p,C,fx,f,l,h=>let x:=Hs es C fx f l h;⟨Jk x.1,Ew x.2⟩
 |.ite t a b p,C,fx,f,l,h=>
  let z:=eS t C fx f l (aa (aa h).1).1;let x:=eS a C fx f l (aa (aa h).1).2;let y:=eS b C fx f l (aa h).2
  ⟨Jj z.2 x.1 y.1,Eu z.2 x.2 y.2⟩
 |.Rr es p,C,fx,f,l,h=>aP (Jt (of_decide_eq_true (aa (aa h).1).1) (Hs es C fx f l (aa h).2).1 (bl (aa (aa h).1).2))
 |.sZ es p,C,fx,f,l,h=>aP (Ju (of_decide_eq_true (aa (aa h).1).1) (Hs es C fx f l (aa h).2).1 (bl (aa (aa h).1).2))
 |.nl es p,C,fx,f,l,h=>aP (OA (of_decide_eq_true (aa (aa h).1).1) (Hs es C fx f l (aa h).2).1 (bl (aa (aa h).1).2))
 |.vc .nil p,C,fx,f,l,h=>aP FI
 |.vc (.cons k v r) p,C,fx,f,l,h=>absurd h zi
 |.nd .nil p,C,fx,f,l,h=>aP J5
 |.nd (.cons k v r) p,C,fx,f,l,h=>aP (O0 (Nat.succ_ne_zero _) (of_decide_eq_true (aa h).1) (pS (.cons k v r) C fx f l (aa h).2))
 |.sub a i p,C,fx,f,l,h=>aP (Jz K.hu (eS a C fx f l (aa h).1).1 (eS i C fx f l (aa h).2).1)
 |.Ma a lo hi .n p' p,C,fx,f,l,h=>aP (JB (eS a C fx f l (aa (aa (aa h).1).1).1).1 (oS lo C fx f l (aa (aa (aa h).1).1).2) (oS hi C fx f l (aa (aa h).1).2))
 |.Ma a lo hi (.s q) p' p,C,fx,f,l,h=>absurd (aa h).2 zi
 |.eY a x p,C,fx,f,l,h=>aP (JD (aa h).1 (eS a C fx f l (aa h).2).1)
 |.cf g x es pf p,C,fx,f,l,h=>
  let q:=gf f (aa (aa (aa h).1).1).2
  aP (O1 f.ok l K.hc (zz.mp (aa (aa (aa h).1).1).1) q.1 q.2 (Hs es C fx f l (aa h).2).1 (bl (aa (aa h).1).2))
 |.cb b a pf p,C,fx,f,l,h=>aP (OU f.ok K.hu K.hh (bH f (aa (aa h).1).1) (aa (aa h).1).2 (eS a C fx f l (aa h).2).1)
 |.bm a m es pa p,C,fx,f,l,h=>by
  obtain⟨h,h6⟩:=aa h;obtain⟨h,h5⟩:=aa h;obtain⟨h,h4⟩:=aa h;obtain⟨h,h3⟩:=aa h;obtain⟨h1,h2⟩:=aa h;have x:=(eS a C fx f l h4).1;have y:=(Hs es C fx f l h5).1;have st:=bl h3;refine aP ?_;clear h5 h3;cases m with
  |append=>match es,y,st,h6 with
   |.cons b .nil,y,st,_=>exact v9 h1 st.1 h2 x y.1
  |hK=>match es,y,st,h6 with
   |.cons b .nil,y,st,_=>exact wb h1 st.1 h2 x y.1
  |hM=>match es,y,st,h6 with
   |.cons b .nil,y,st,_=>exact wc h1 st.1 h2 x y.1
  |pop=>match es,y,st,h6 with
   |.nil,_,_,_=>exact Fp h1 h2 x
   |.cons b .nil,y,st,_=>exact Fs h1 st.1 h2 x y.1
 |.cm a g m es pa p,C,fx,f,l,h=>by
  refine ag λ_ k=>?_;obtain⟨h,h7⟩:=aa h;obtain⟨h,h6⟩:=aa h;obtain⟨h,h5⟩:=aa h;obtain⟨h,h4⟩:=aa h;obtain⟨h,h3⟩:=aa h;obtain⟨h1,h2⟩:=aa h;refine k ?_;exact aP (O2 l K.hc h1 (λc e=>by rw[show(sg.tb.fn g).bind (·.own)=some c from e] at h5;exact zz.mp h5) h2 (of_decide_eq_true h3) (eS a C fx f l h6).1 (Hs es C fx f l h7).1 (bl h4))
 |.new cl x es pf p,C,fx,f,l,h=>
  let q:=gf f (aa (aa (aa h).1).1).2
  aP (J8 f.ok (K.lku fx l) K.hcu (zz.mp (aa (aa (aa h).1).1).1) q.1 q.2 (Hs es C fx f l (aa h).2).1 (bl (aa (aa h).1).2))
 |.s9 ..,C,fx,f,l,h=>by cases h
 |.Ru a t pt pf p,C,fx,f,l,h=>aP (J0 f.ok (bH f (aa (aa (aa h).1).1).1) (bH f (aa (aa (aa h).1).1).2) (aa (aa h).1).2 (eS a C fx f l (aa h).2).1)
 |.comp gs sc p,C,fx,f,l,h=>by
  obtain⟨h,h3⟩:=aa h;obtain⟨h1,h2⟩:=aa h;have co:=nZ h1;have nd:=kY h2
  match gs,co,nd,cS gs C _ fx f l h3 with
  |.cons ts tp ci ifs r,co,nd,⟨hi,wy,vi⟩=>exact aP (uE K.hh ⟨f,co,nd,hi,wy,λfN f' hl=>vi fN f' (hl A l)⟩)
 |.fs ps p,C,fx,f,l,h=>let x:=fS ps C fx f l (aa h).2;aP (OY (of_decide_eq_true (aa h).1) x.1 x.2)
 |.j7 i x p,C,fx,f,l,h=>let⟨_,q⟩:=lG f h;aP (J3 f.ok q)
 |.Bv len a pf pg p' p,C,fx,f,l,h=>aP (GZ f.ok K.hu K.hh (bH f (aa (aa (aa h).1).1).1) (bH f (aa (aa (aa h).1).1).2) (aa (aa h).1).2 (eS a C fx f l (aa h).2).1)
 |.Bw a pa p1 pf p,C,fx,f,l,h=>aP (G1 f.ok K.hh (bH f (aa (aa (aa h).1).1).1) (aa (aa (aa h).1).1).2 (aa (aa h).1).2 (eS a C fx f l (aa h).2).1)
 |.iK e,C,fx,f,l,h=>⟨λc r I h=>Rn.no (α:=AV×Env×G) h,λc r I h=>Rn.no (α:=Bool×Env×G) h⟩
theorem Hs:∀(es:cz) (C:Ctx) (fx:Fx),c9 C fx->iE A fx->lR sg C es=true->gm (ai A call fx) es/\gm (ct A call fx) es
 |.nil,C,fx,f,l,h=>⟨trivial,trivial⟩
 |.cons a r,C,fx,f,l,h=>let x:=eS a C fx f l (aa h).1;let y:=Hs r C fx f l (aa h).2;⟨⟨x.1,y.1⟩,⟨x.2,y.2⟩⟩
theorem pS:∀(ps:pT) (C:Ctx) (fx:Fx),c9 C fx->iE A fx->okP sg C ps=true->AllP (ai A call fx) ps
 |.nil,C,fx,f,l,h=>trivial
 |.cons k v r,C,fx,f,l,h=>⟨(eS k C fx f l (aa (aa h).1).1).1,(eS v C fx f l (aa (aa h).1).2).1,pS r C fx f l (aa h).2⟩
theorem oS:∀(o:CO) (C:Ctx) (fx:Fx),c9 C fx->iE A fx->okO sg C o=true->JA (ai A call fx) o
 |.n,C,fx,f,l,h=>trivial
 |.s a,C,fx,f,l,h=>(eS a C fx f l h).1
theorem fS:∀(ps:qN) (C:Ctx) (fx:Fx),c9 C fx->iE A fx->okF sg C ps=true->Ft (ai A call fx) ps/\litsOk ps
 |.nil,C,fx,f,l,h=>⟨trivial,trivial⟩
 |.lit s p r,C,fx,f,l,h=>let y:=fS r C fx f l (aa h).2;⟨y.1,(aa h).1,y.2⟩
 |.val a p r,C,fx,f,l,h=>let y:=fS r C fx f l (aa h).2;⟨⟨(eS a C fx f l (aa h).1).1,y.1⟩,y.2⟩
theorem iS:∀(ci:CI) (C:Ctx) (fx:Fx) (one:Bool) (ng:Prop),(one=false->¬ng)->c9 C fx->iE A fx->okI sg C one ci=true->rY A call fx ng ci
 |.e a,C,fx,one,ng,hn,f,l,h=>Pg K.hh (eS a C fx f l h).1
 |.zip a b pf p,C,fx,one,ng,hn,f,l,h=>by
  obtain⟨h,h6⟩:=aa h;obtain⟨h,h5⟩:=aa h;obtain⟨h,h4⟩:=aa h;obtain⟨h,h3⟩:=aa h;obtain⟨h1,h2⟩:=aa h;exact Gz f.ok K.hh (hn (iw h1)) (bH f h2) h3 h4 (eS a C fx f l h5).1 (eS b C fx f l h6).1
 |.Bx a pf p,C,fx,one,ng,hn,f,l,h=>by
  obtain⟨h,h5⟩:=aa h;obtain⟨h,h3⟩:=aa h;obtain⟨h1,h2⟩:=aa h;exact CV f.ok K.hh (hn (iw h1)) (bH f h2) h3 (eS a C fx f l h5).1
 |.Rv a pf p,C,fx,one,ng,hn,f,l,h=>Gf f.ok K.hh (bH f (aa (aa h).1).1) (aa (aa h).1).2 (eS a C fx f l (aa h).2).1
theorem cS:∀(gs:fQ) (C C':Ctx) (fx:Fx),c9 C fx->iE A fx->okC sg C C' gs=true->match gs with
  |.el _=>False
  |.cons ts tp ci ifs r=>rY A call fx (tp=none) ci/\il (Dx T.tb.nm ci)=false/\∀fN,c9 C' fN->iE A fN->dQ (∀t∈ts,∃o,qp fN t.1 t.2.1 o) (tp=none->∃t,ts=[t]) (Pw (ct A call fN) ifs) (WA A call fN r)
 |.el _,C,C',fx,f,l,h=>by cases h
 |.cons ts tp ci ifs r,C,C',fx,f,l,h=>by
  obtain⟨h,h5⟩:=aa h;obtain⟨h,h4⟩:=aa h;obtain⟨h,h3⟩:=aa h;obtain⟨h1,h2⟩:=aa h;refine⟨iS ci C fx _ _ (λe q=>by subst q;cases e) f l h1,iw h2,λfN f' l'=>?_⟩;obtain⟨a,b⟩:=jk f' h3;exact⟨a,b,tS ifs C' fN f' l' h4,gS r C' fN f' l' h5⟩
theorem gS:∀(gs:fQ) (C:Ctx) (fx:Fx),c9 C fx->iE A fx->okG sg C gs=true->WA A call fx gs
 |.el a,C,fx,f,l,h=>(eS a C fx f l h).1
 |.cons ts tp ci ifs r,C,fx,f,l,h=>by
  obtain⟨h,h5⟩:=aa h;obtain⟨h,h4⟩:=aa h;obtain⟨h,h3⟩:=aa h;obtain⟨h1,h2⟩:=aa h;obtain⟨a,b⟩:=jk f h3;exact⟨a,b,tS ifs C fx f l h4,iS ci C fx _ _ (λe q=>by subst q;cases e) f l h1,iw h2,gS r C fx f l h5⟩
theorem tS:∀(es:cz) (C:Ctx) (fx:Fx),c9 C fx->iE A fx->okT sg C es=true->Pw (ct A call fx) es
 |.nil,C,fx,f,l,h=>trivial
 |.cons a .nil,C,fx,f,l,h=>(eS a C fx f l h).2
 |.cons a (.cons b r),C,fx,f,l,h=>by cases h
end
end
section
variable{call:Call}{C:Ctx}
theorem uQ{f g:α->Option β}:∀{l:List α},(∀x∈l,f x=g x)->l.filterMap f=l.filterMap g
 |[],_=>rfl
 |a::r,h=>by exact gR YL (gR YL (gR (h a (.head _) ..) (gR (uQ λx hx=>h x (.tail _ hx) ..) rfl)))
theorem qH:∀{es:cz},fB sg es=true->(cn T.tb.nm es).any vS=false
 |.nil,_=>rfl
 |.cons a r,h=>(congrArg (λb=>b||(cn T.tb.nm r).any vS) (iw (aa h).1)).trans (qH (aa h).2)
theorem qI(f:c9 C fx)(h:(C.kinds.contains (x,.local)||C.kinds.contains (x,.cell))=true):(fx.env.kindOf (T.tb.nm x)==some .local)=C.kinds.contains (x,.local):=by
 cases q:C.kinds.contains (x,.local) with
 |true=>refine gR (f.kind _ _ (zz.mp q) ..) ?_;rfl
 |false=>
  rw[q,ad1] at h;refine gR (f.kind _ _ (zz.mp h) ..) ?_;rfl
set_option tactic.hygienic true in
theorem qJ(f:c9 C fx){ts:List CT}{r:Option (List Str)}{tp ep:Pos}(M1:∀t∈ts,Ll t=true)(hk:ts.all (Lm C)=true)(JX:fB sg es=true)(h:swN sg C ts es=some r):
  swappedStores [.Tuple (ts.map (toT T.tb.nm)) 0 tp] (.Tuple (cn T.tb.nm es) 0 ep) fx.env=pure r:=by
 unfold swappedStores;have hb:(fx.env.blockKind != adX)=false:=by unfold Env.blockKind;refine gR f.ok.kind ?_;rfl
 dsimp only[pure_bind];refine gR hb ?_;generalize hg:List.filterMap _ (List.map (toT T.tb.nm) ts)=names;have hN:names=jX sg C ts (jj sg ts):=by
  refine gL hg (gR List.filterMap_map ?_);refine uQ λt ht=>?_;have h1:=M1 t ht;have h2:=zC.mp hk t ht;cases t with
  |n i x p=>exact congrArg (λk=>if(k&&p.line==jj sg ts)=true then some (T.tb.nm x) else none) (qI f h2)
  |own i x p=>exact congrArg (λk=>if(k&&p.line==jj sg ts)=true then some (T.tb.nm x) else none) (qI f h2)
  |eY _ _ _=>cases h1
  |sub _ _ _=>cases h1
 clear hg;unfold swN at h;rw[show sg.tb=T.tb from rfl] at h;refine gR (zA ..) ?_;refine gR (mZ ..) (gR (Bool.or_false ..) ?_);rw[←hN] at h
 split
 ·rename_i c;replace h:=(if_pos c)▸h;obtain rfl:=zh h;rfl
 ·rename_i c
  replace h:=(if_neg c)▸h;refine(if_neg λq=>Zq ((qH JX).symm.trans q)).trans ?_
  split
  ·rename_i c;replace h:=(if_pos c)▸h;obtain rfl:=zh h;rfl
  ·rename_i c
   replace h:=(if_neg c)▸h
   split
   ·rename_i c;replace h:=(if_pos c)▸h;obtain rfl:=zh h;rfl
   ·rename_i c
    replace h:=(if_neg c)▸h
    split
    ·rename_i c;rw[if_pos c] at h;exact nomatch h
    ·rename_i c;rw[if_neg c] at h;obtain rfl:=zh h;rfl
structure SK(A:ZV)(call:Call)(fx:Fx):Prop where
 hx:jM A fx
 hr:∀x m se pf pc p,rz x=true->fx.env.kindOf (T.tb.nm x)=some .globalImplicit->(T.tb.nm x==("__debug__":Str))=false->gm (ai A call fx) (.cons m (.cons se .nil))->fY (.cons m (.cons se .nil))->g9 A call fx (.mj x m se pf pc p)
 ht:∀a x y s px py pa pr ph p,tz x s=true->fx.env.kindOf (T.tb.nm x)=some .globalImplicit->(T.tb.nm x==("__debug__":Str))=false->fx.env.kindOf (T.tb.nm y)=some .local->(T.tb.nm y==("__debug__":Str))=false->
  eu A call fx a->g9 A call fx (.vp a x y s px py pa pr ph p)
variable(K:AK A call)(f:c9 C fx)(l:iE A fx)
theorem XM(t:CT):nmO sg t=nameOf t:=by cases t <;> rfl
theorem Qa{a:CE}(e g a2 e' g')(h:(cC T.tb (.cb .list a pf p) e g).run call=.ok (a2,e',g')):∃l,a2=.d (.list l):=
 Rn.okv (⟨h,nofun⟩) λy _ h=>h.fH λq d h=>O.cV d λz _ d=>O.cV d λl _ d=>by
  cases d.2;exact⟨l,(congrArg (·.1) (R.ok.inj h.1)).symm⟩
theorem Lo(e g a2 e' g')(h:(cC T.tb (.sZ es p) e g).run call=.ok (a2,e',g')):∃l,a2=.d (.list l):=
 Rn.okv (⟨h,nofun⟩) λy _ h=>h.opt λq _ h=>⟨q,(congrArg (·.1) (R.ok.inj h.1)).symm⟩
theorem Ht(e g a2 e' g')(h:(cC T.tb (.comp gs sc p) e g).run call=.ok (a2,e',g')):∃l,a2=.d (.list l):=
 Rn.eY (⟨h,nofun⟩:Rn call _ _) λy _ h=>⟨y.1,(congrArg (·.1) (R.ok.inj h.1)).symm⟩
include K f l
theorem Hu(h:fm sg C (.comp gs sc p)=true):Ex5 λts tp ci ifs r=>aF (gs=.cons ts tp ci ifs r) (kX A call fx C ts tp ci ifs r sc):=by
 refine zg (λh h3=>?_) (aa h);refine zg (λh1 h2=>?_) (aa h);have co:=nZ h1;have nd:=kY h2
 match gs,co,nd,cS K gs C _ fx f l h3 with
 |.cons ts tp ci ifs r,co,nd,⟨hi,wy,vi⟩=>exact⟨ts,tp,ci,ifs,r,rfl,f,co,nd,hi,wy,λfN f' hl=>vi fN f' (hl A l)⟩
theorem fE{e:CE}(h:fm sg C e=true)(h2:isF e=true):pb A call fx e:=by
 cases e with
 |sZ es p=>exact FH (of_decide_eq_true (aa (aa h).1).1) (Hs K es C fx f l (aa h).2).1 (bl (aa (aa h).1).2)
 |vc ps p=>
  cases ps with
  |nil=>exact Cf
  |cons _ _ _=>cases h2
 |cb b a pf p=>exact Kn f.ok K.hu K.hh h2 (bH f (aa (aa h).1).1) (aa (aa h).1).2 (eS K a C fx f l (aa h).2).1
 |j6 op a b p=>
  cases op with
  |Add=>
   cases b with
   |sZ es q=>exact nE Lo (eS K a C fx f l (aa h).1).1 (eS K _ C fx f l (aa h).2).1
   |comp gs sc q=>exact nE Ht (eS K a C fx f l (aa h).1).1 (eS K _ C fx f l (aa h).2).1
   |cb b' b pf q=>
    cases b' with
    |list=>exact nE Qa (eS K a C fx f l (aa h).1).1 (eS K _ C fx f l (aa h).2).1
    |_=>cases h2
   |_=>cases h2
  |_=>cases h2
 |comp gs sc p=>
  obtain⟨ts,tp,ci,ifs,r,Ms,S⟩:=Hu K f l h;refine gR Ms ?_;exact CN K.hh S
 |_=>cases h2
theorem ctA:∀{t:CT},ctB sg C t=true->(match t with |.n .. |.sub ..=>true |_=>false)=true->FR A call fx t
 |.n i x q,h,_=>let⟨_,t⟩:=eW f h;O8 f.ok t
 |.sub b k q,h,_=>FT K.hu (eS K b C fx f l (aa (aa h).1).1).1 (eS K k C fx f l (aa (aa h).1).2).1
theorem o2S{t:CT}{a:CE}(h:okB sg C t a=true):dQ (ur fx t) (F3 A call fx a (d0 t)) (notStar (aH T.tb.nm a)=true) (Ll t=true):=by
 have h1:=aa h;have h2:=aa h1.1;have h3:=aa h2.1;have h4:=aa h3.1;refine⟨?_,?_,h4.1,h4.2⟩
 ·cases t with
  |n i x q=>exact eW f h3.2
  |own i x q=>exact eW f h3.2
  |eY _ _ _=>cases h4.2
  |sub _ _ _=>cases h4.2
 ·have h5:=h1.2
  cases q:d0 t with
  |true=>
   rw[q] at h5;exact fE K f l h2.2 h5
  |false=>exact(eS K a C fx f l h2.2).1
variable(Z:SK A call fx)
include Z
set_option tactic.hygienic true in
mutual
theorem sS:∀(s:CS),Ln sg C s=true->g9 A call fx s
 |.expr a p,h=>Ck f.ok (iw (aa h).1) (eS K a C fx f l (aa h).2).1
 |.ret a p,h=>FP (eS K a C fx f l h).1
 |.Iv t a p,h=>by
  obtain⟨h,h3⟩:=aa h;obtain⟨h1,h2⟩:=aa h;have x:=(eS K a C fx f l h2).1;cases t with
  |n i y q=>
   obtain⟨o,t⟩:=eW f h1;by_cases hc:gH (aH T.tb.nm a)=false
   ·exact wj f.ok t hc x
   ·cases a with
    |comp gs sc p'=>
     obtain⟨ts,tp,ci,ifs,r,rfl,S⟩:=Hu K f l h2;exact pv K.hh t S
    |iK e=>exact λc r I h=>Rn.no (α:=Fl×Env×G) h
    |_=>exact absurd rfl hc
  |own i y q=>
   obtain⟨o,t⟩:=eW f h1;exact rQ f.ok t (iw (aa h3).1) (fE K f l h2 (aa h3).2)
  |eY b y q=>exact rR x (eS K b C fx f l h1).1
  |sub b k q=>
   obtain⟨g1,g2⟩:=aa h1;exact rS K.hu g2 x (eS K b C fx f l (aa g1).1).1 (eS K k C fx f l (aa g1).2).1
 |.Bz ts tp a p,h=>by
  refine ag λ_ k=>?_;obtain⟨h,h4⟩:=aa h;obtain⟨h,h3⟩:=aa h;obtain⟨h1,h2⟩:=aa h;refine k ?_;exact Cp K.hh (iw h1) h2 (λt ht=>ctA K f l (aa (zC.mp h4 t ht)).1 (aa (zC.mp h4 t ht)).2) (eS K a C fx f l h3).1
 |.lK [t,u] tp (.cons a (.cons b .nil)) ep p,h=>by
  have h1:=aa h;have h2:=aa h1.1;have h3:=aa h2.1;have h4:=aa h3.1;have x:=o2S K f l h4.1;have y:=o2S K f l h4.2;have M1:∀v∈[t,u],Ll v=true:=λv hv=>(zK.mp hv).elim (λe=>e▸x.4) λhv=>zX.mp hv▸y.4;have hk:[t,u].all (Lm C)=true:=(zY _ _).mpr ⟨h3.2,(zY _ _).mpr ⟨h2.2,rfl⟩⟩;have JX:fB sg (.cons a (.cons b .nil))=true:=(zY _ _).mpr ⟨x.3,(zY _ _).mpr ⟨y.3,rfl⟩⟩;refine Cs f.ok K.hh x.1 y.1 x.3 y.3 x.2 y.2 ?_;refine zg (λ_ h5=>?_) h1;generalize e:swN sg C [t,u] (.cons a (.cons b .nil))=rr at h5;cases rr with
  |none=>cases h5
  |some o=>cases o with
   |none=>exact .inl (qJ f M1 hk JX e)
   |some l'=>
    have g:=aa h5;exact .inr ⟨(qJ f M1 hk JX e).trans (congrArg (λl=>pure (some l)) ((of_decide_eq_true g.1).trans (by exact gR (XM ..) (gR (XM ..) rfl)))),of_decide_eq_true g.2⟩
 |.lK [] _ _ _ _,h=>absurd h zi
 |.lK [_] _ _ _ _,h=>absurd h zi
 |.lK (_::_::_::_) _ _ _ _,h=>absurd h zi
 |.lK [_,_] _ .nil _ _,h=>absurd h zi
 |.lK [_,_] _ (.cons _ .nil) _ _,h=>absurd h zi
 |.lK [_,_] _ (.cons _ (.cons _ (.cons _ _))) _ _,h=>absurd h zi
 |.ite t a b p,h=>FQ (eS K t C fx f l (aa (aa h).1).1).2 (M7 a (aa (aa h).1).2) (M7 b (aa h).2)
 |.while t a p,h=>wm Z.hx (eS K t C fx f l (aa h).1).2 (M7 a (aa h).2)
 |.for ts tp ci a p,h=>by
  obtain⟨h,h4⟩:=aa h;obtain⟨h,h3⟩:=aa h;obtain⟨h1,h2⟩:=aa h;obtain⟨a1,a2⟩:=jk f h1;exact F1 Z.hx f.ok K.hh a1 a2 (iw h2) (iS K ci C fx _ _ (λe q=>by subst q;cases e) f l h3) (M7 a h4)
 |.mj x m s pf pc p,h=>by
  refine ag λ_ k=>?_;obtain⟨h,h6⟩:=aa h;obtain⟨h,h5⟩:=aa h;obtain⟨h,h4⟩:=aa h;obtain⟨h,h3⟩:=aa h;obtain⟨h1,h2⟩:=aa h;obtain⟨g1,g2⟩:=gf f h2;refine k ?_;exact Z.hr x m s pf pc p h1 g1 g2 ⟨(eS K m C fx f l h5).1,(eS K s C fx f l h6).1,trivial⟩ ⟨h3,h4,trivial⟩
 |.vp a x y s px py pa pr ph p,h=>by
  refine ag λ_ k=>?_;obtain⟨h,h5⟩:=aa h;obtain⟨h,h4⟩:=aa h;obtain⟨h,h3⟩:=aa h;obtain⟨h1,h2⟩:=aa h;obtain⟨g1,g2⟩:=gf f h2;refine k ?_;exact Z.ht a x y s px py pa pr ph p h1 g1 g2 (f.kind _ _ (zz.mp h3)) (iw h4) (M7 a h5)
 |.iK s,h=>λc r I h=>Rn.no (α:=Fl×Env×G) h
theorem M7:∀(s:aK),pN sg C s=true->eu A call fx s
 |.nil,h=>Cj
 |.cons a r,h=>wi (sS a (aa h).1) (M7 r (aa h).2)
end
end
noncomputable def AZ(F:Fn):Ctx where
 lay:=F.vs.zipIdx.map λp=>(p.2,p.1,F.sc.contains (p.1,.cell))
 kinds:=F.sc
 mine:=F.vs
theorem tcw C vals:(aee "type.__call__" ⟨.ref C::vals,[]⟩).weight=1:=by kernel_rfl
theorem tce C vals:(aee "type.__call__" ⟨.ref C::vals,[]⟩).envs=[]:=by kernel_rfl
theorem tcu C vals:(aee "type.__call__" ⟨.ref C::vals,[]⟩).cUnits=1:=by kernel_rfl
section
variable{call:Call}
theorem fits_of(ff:lE F fx):c9 (AZ F) fx:=by
 refine⟨ff.ok,λi x b h=>?_,λq hq=>?_,λx k h=>ff.kind x k h,λx _=>by exact gR ff.mine rfl⟩
 ·obtain⟨⟨y,j⟩,hm,e⟩:=zH.mp h
  cases e;refine⟨if F.sc.contains (y,zL) then fx.env.cells.lookup (T.tb.nm y) else none,?_,?_⟩
  ·exact gR ff.lay (zH.mpr ⟨(y,j),hm,rfl⟩)
  ·cases c:F.sc.contains (y,zL) with
   |false=>rfl
   |true=>exact ff.cell y (zz.mp c)
 ·refine ag λ_ k=>?_
  rw[ff.lay] at hq;obtain⟨⟨y,j⟩,hm,rfl⟩:=zH.mp hq;refine k ⟨y,F.sc.contains (y,.cell),zH.mpr ⟨(y,j),hm,rfl⟩,rfl,?_⟩;refine(?_:Zv (if F.sc.contains (y,zL) then fx.env.cells.lookup (T.tb.nm y) else none)=F.sc.contains (y,zL));cases c:F.sc.contains (y,zL) with
  |false=>rfl
  |true=>exact ff.cell y (zz.mp c)
def XN(S:RW)(C:Ctx)(f2:Nat):aK->Bool
 |.cons (.expr (.s9 f3 es _ _ p3 p4) _) rest=>f3==f2&&uP p3 p4&&decide (es.len<29)&&fB S es&&lR S C es&&pN S C rest
 |_=>false
def fnB(S:RW)(F:Fn):Option Nat->Bool
 |none=>pN S (AZ F) F.body
 |some f2=>XN S (AZ F) f2 F.body
def acF(S:RW)(C:Ctx)(f2:Nat)(b:aK):Prop:=∃es p1 p2 p3 p4 p rest,b=.cons (.expr (.s9 f2 es p1 p2 p3 p4) p) rest/\eX (uP p3 p4=true) (decide (es.len<29)=true) (fB S es=true) (lR S C es=true) (pN S C rest=true)
theorem C9{S:RW}{C:Ctx}{f2:Nat}{b:aK}(h:XN S C f2 b=true):acF S C f2 b:=by
 cases b with
 |nil=>exact(zi h).elim
 |cons s rest=>
  cases s with
  |expr e p=>
   cases e with
   |s9 f3 es p1 p2 p3 p4=>
    refine ag λ_ k=>(zg (λh1 g6=>?_) (aa h));refine zg (λh1 g5=>?_) (aa h1);refine zg (λh1 g4=>?_) (aa h1);refine zg (λh1 g3=>?_) (aa h1);refine zg (λg1 g2=>?_) (aa h1);exact k ⟨es,p1,p2,p3,p4,p,rest,beq_iff_eq.mp g1▸rfl,g2,g3,g4,g5,g6⟩
   |_=>exact(zi h).elim
  |_=>exact(zi h).elim
structure w9:Prop where
 bO:∀f F,T.tb.fn f=some F->fnB sg F (sup f)=true
 fns:∀f F,T.tb.fn f=some F->match sup f with
  |none=>Cz f F
  |some f2=>qC f F f2
 ro:∀x,rz x=true->Lh x
 to:∀x s,tz x s=true->M4 x/\T.tb.nm s=sp
theorem XP{d n L k r:Nat}(a:m<=k)(h:d+k*(n+1)+r<L):d+m+k*n+r<L:=zM (zV (zV (zG a d) _) r) (gR (yt d k (k*n)) (gR (Zb d (k*n) k) (gL (Nat.mul_succ k n) h)))
theorem n0{n:Nat}(h:CB (n+1) A):CB n (A.deeper env):=by
 refine ag λ_ k=>(zg (λa tv=>?_) h);obtain⟨b,c,l,d⟩:=tv;refine k ⟨a,?_,?_,env::l,?_⟩
 ·exact XP (m:=1) (r:=0) (by decide) b
 ·exact XP (m:=3) (by decide) c
 ·show A.frames.map (env::·)=_;refine gR d ?_;rfl
theorem Dc{n:Nat}(h:CB (n+1) A){C:zJ}:CB n ((A.deeper env).under (.builtin "type.__call__" ⟨.ref C::vals,[]⟩)):=by
 refine zg (λa mX=>?_) h;obtain⟨b,c,l,d⟩:=mX;refine⟨a,?_,?_,env::l,?_⟩
 ·show A.depth+1+Code.weight _+3*n<_;refine gR (tcw ..) ?_;exact XP (m:=2) (r:=0) (by decide) b
 ·show A.units+3+Code.cUnits _+16*n+128<_;refine gR (tcu ..) ?_;exact XP (m:=4) (by decide) c
 ·show pushEnvs (Code.envs (.builtin "type.__call__" ⟨.ref C::vals,[]⟩)) (A.frames.map (env::·))=_;refine gR (tce ..) (gR d ?_);rfl
theorem Hv{n:Nat}(h:CB (n+1) A)(hc:∀A',CB n A'->bS A' (aC T.tb n)):AK (A.deeper env) (aC T.tb n) where
 hu:=by refine zg (λ_ Ga=>?_) h;obtain⟨_,c,_⟩:=Ga;exact zM (yN (zG (zk (by decide) (Zf 16 (16*n))) _) (by decide)) c
 hh:=h.1
 hc:=hc _ (n0 h)
 lku:=λfx l C vals fr IA=>l fr (by
  have:pushEnvs (Code.envs (.builtin "type.__call__" ⟨.ref C::vals,[]⟩)) (A.deeper env).frames=some fr:=IA;rw[tce] at this;exact this)
 hcu:=λC vals=>hc _ (Dc h)
theorem A1(t:w9){n:Nat}(h:CB (n+1) A)(hc:∀A',CB n A'->bS A' (aC T.tb n))(ff:lE F fx)(l:iE (A.deeper fx.env) fx):
  SK (A.deeper fx.env) (aC T.tb n) fx:=by
 refine zg (λa ES=>?_) (id h);obtain⟨b,c,fr,d⟩:=ES;have hA:(A.deeper fx.env).frames=some (fx.env::fr):=by show A.frames.map (fx.env::·)=_;refine gR d ?_;rfl
 refine⟨WZ l hA ff.frame,λx m se pf pc p hr hk hd he hs=>?_,λa x y s px py pa pr ph p ht hk hd RV hdy ha=>?_⟩
 ·obtain rfl:=t.ro x hr
  refine w7 (A:=A.deeper fx.env) ff.ok hk hd h.1 (λvals=>?_) he hs;refine(?_:A.depth+1+Code.weight _+1<_);refine gR (tcw ..) ?_;exact zM (zu _ _) (XP (m:=3) (r:=0) (by decide) b)
 ·obtain⟨rfl,e⟩:=t.to x s ht
  exact Hq ff.ok l hA ff.frame e hk hd RV hdy ha
theorem sF(t:w9):∀n A,CB n A->bS A (aC T.tb n):=by
 refine uy λf F hf n A hA hc vs vals γ g s R I sk V hr k=>?_;have dH:A.depth<recursionLimit:=by refine zg (λ_ lQ=>?_) hA;obtain⟨b,_⟩:=lQ;exact zM (zu ..) b
 have h1:=t.bO f F hf;have h2:=t.fns f F hf;cases hs:sup f with
 |none=>
  rw[hs] at h1 h2;exact CA hf h2 dH (λfx ff l=>(A1 t hA hc ff l).hx) (λfx ff l=>M7 (Hv hA hc) (fits_of ff) l (A1 t hA hc ff l) F.body h1) I sk V hr k
 |some f2=>
  rw[hs] at h1 h2;refine ze (C9 h1) λes D9=>(ze D9 λp1 ry=>(ze ry λp2 o8=>(ze o8 λp3 rD=>(ze rD λp4 kB=>(ze kB λp kh=>(ze kh λrest rB=>(zg (λhb g=>?_) rB)))))));exact pH hf h2 hb dH g.1 (of_decide_eq_true g.2) (λfx ff l=>(A1 t hA hc ff l).hx) (λfx=>hc _ (n0 hA)) (λfx ff l=>(Hs (Hv hA hc) es (AZ F) fx (fits_of ff) l g.4).1) (bl g.3)
   (λfx ff l=>M7 (Hv hA hc) (fits_of ff) l (A1 t hA hc ff l) rest g.5) I sk V hr k
end
end Lw
namespace Lw
open PySem PySem.Calls PyProof.Rows PySem.W aZ
variable{v v1:zo}{vs:Array zo}{α:Type}{a f2 e:zJ}{vals:List zo}{env:Zj}{mA:Str->Option zo}{dd:Option zJ}{γ:Gh}{fx:Fx}
theorem fnT(f:Nat):T.tb.fn f=L.Dy.lookup f:=by refine gR (W4 ..) ?_;rfl
theorem ssT:eC L.nm=eC T.tb.nm:=congrArg eC (funext λx=>(N7 x).symm)
theorem psT(F:Fn):tq L F=(F.vs.take F.np).map T.tb.nm:=by refine gR (W4 ..) ?_;rfl
theorem Qb{F:Fn}(h:F.np<=F.vs.length):(tq L F).length=F.np:=by exact gR (zA ..) (gR YB (gR (YT h ..) rfl))
theorem Qc{F:Fn}{x:Nat}{k:Zc}(h:(x,k)∈F.sc):(T.tb.nm x,k)∈vC L F:=zH.mpr ⟨_,h,by exact gR (N7 ..) rfl⟩
theorem Hw{p:Nat×Fn}(h:W6 p=true):Kj p.2:=by refine zg (λh _=>?_) (aa h);refine zg (λh h4=>?_) (aa h);refine zg (λh h3=>?_) (aa h);refine zg (λh1 h2=>?_) (aa h);refine⟨of_decide_eq_true h1,⟨yd h2,yd h3⟩,λx hx=>?_⟩;refine zg (λa b=>?_) (aa (zC.mp h4 x hx));exact⟨(zW.mp a).imp zz.mp zz.mp,N7 x▸iw b⟩
theorem Qd{f:Nat}{F:Fn}(hf:T.tb.fn f=some F):match sup f with
  |none=>Cz f F
  |some f2=>qC f F f2:=by
 have mem:=lookup_mem ((fnT f).symm.trans hf);have nb:=zC.mp acr _ mem;have nm:Kj F:=Hw nb;obtain⟨o,fd,z⟩:=G9 (acq mem);have bind:=λ(vals:List zo) (hv:vals.length=F.np)=>(z.12 vals (hv.trans (Qb nm.np.1).symm)).trans (congrArg (λl:List Str=>(pure (l.zip vals):Sem (List (Str×zo)))) (psT F));have at_:T.top.get? (T.fa f)=some o:=W0▸z.2;have body:fd.body=.stmts (eC T.tb.nm F.body):=z.5.trans (congrArg (λg=>FuncBody.stmts (g F.body)) ssT);have sc:=λx k hx=>z.11 (T.tb.nm x) k (Qc hx);cases hs:L.sx.lookup f with
 |none=>
  refine(?_:match(L.sx.lookup f).map (·.1) with
   |none=>Cz f F
   |some f2=>qC f F f2)
  refine gR (hs ..) ?_;exact⟨⟨o,fd,at_,z.3,z.4,body,z.6,z.7,z.8,z.9,z.10,sc,λx hx=>mem_of_lookup (sc x _ hx),bind,z.13.trans (by unfold SM;exact gR (hs ..) rfl)⟩,nm⟩
 |some x=>
  refine(?_:match(L.sx.lookup f).map (·.1) with
   |none=>Cz f F
   |some f2=>qC f F f2)
  refine gR (hs ..) ?_;have e:=W5 (lookup_mem hs);refine zg (λkh qW=>?_) (Ha z.1 (congrArg (·.1) e));refine ze kh λoc lQ=>?_;refine ze lQ λdK kN=>?_;refine ze kN λoD kC=>?_;refine ze kC λar mK=>?_;refine ze mK λvs OF=>?_;refine ze OF λtf vZ=>?_;refine ze vZ λAP mX=>?_;refine zg (λn1 E6=>?_) mX;refine zg (λn2 mY=>?_) E6;refine zg (λn3 wz=>?_) mY;refine zg (λn4 wu=>?_) wz;refine zg (λn5 jw=>?_) wu;refine zg (λn6 OS=>?_) jw;refine zg (λn7 PM=>?_) OS;refine zg (λn8 i9=>?_) PM;refine zg (λn9 ru=>?_) i9;refine zg (λn10 Oz=>?_) ru;refine zg (λn11 ub=>?_) Oz;refine zg (λn12 n13=>?_) ub;refine ze qW λof m1=>?_;refine zg (λ_ nb=>?_) (aa nb);refine zg (λb1 b2=>?_) (aa ((zW.mp nb).resolve_left (by refine gR (hs ..) ?_;exact zi)));refine ze (map_some (of_decide_eq_true b2)) λy0 v5=>?_;refine zg (λb3 b4=>?_) v5;refine⟨.mk at_ z.3 z.4 body z.6 z.7 z.8 z.9 z.10 sc n1 bind b3 (n2.trans (b4.symm.trans (N7 y0).symm)) n3 n4 n5 n6 n7 (by refine gR (MX ..) ?_;exact beq_self_eq_true _) (by refine gR (z.13 ..) ?_;unfold SM;refine gR (hs ..) ?_;rfl) n8 n9 n10 n11 n12 n13 λc hc=>?_,nm,(λy hy=>zi (zC.mp b1 _ hy)),Hb,tok.Oh,of,W0▸m1.1,m1.2,by refine gR (W0 ..) ?_;refine gL (kT ..) ?_;exact m1.3⟩;have r:=MW (zh ((if_pos rfl).symm.trans ((e9 (f:=λp:Nat×Nat=>if p.1=x.1 then some (Mk L T.top (L.gY p.2) x.2.1) else none) (g:=λp=>if p.1=x.1 then some (Ml (.ref (L.i8 p.1))) else none) (congrArg (·.2) e) (zz.mp ((congrFun (congrFun (congrArg Tb.jt W4) x.1) c).symm.trans hc))).trans (if_pos rfl))));replace r:=kT▸r;rewrite [show T.cls=L.gY by refine gR (tT ..) ?_;rfl];refine gR (W0 ..) ?_;exact r
theorem Qe{x s:Nat}(h:tz x s=true):M4 x/\T.tb.nm s=sp:=by refine zg (λe1 e2=>?_) (aa h);obtain rfl:s=L.sn:=beq_iff_eq.mp e2;exact⟨beq_iff_eq.mp e1,N7 _⟩
theorem ck1:(L.Dy.all λp=>fnB sg p.2 (sup p.1))=true:=by kernel_rfl
theorem Lp:w9:=⟨λf F hf=>zC.mp ck1 (f,F) (lookup_mem ((fnT f).symm.trans hf)),λf F hf=>Qd hf,λx h=>beq_iff_eq.mp h,λx s h=>Qe h⟩
theorem Lr{Lk:cT}{ts:List (Int×Tok)}:aU Lk ((ts.map (·.1)).map .int) (ts.map λp=>aef p.1 p.2):=by
 induction ts with
 |nil=>rfl
 |cons p r ih=>exact⟨_,_,rfl,⟨p.2,rfl⟩,ih⟩
theorem osT:T.os=it.os:=by rw[tT];rfl
theorem acG:T.top=it.h:=by rw[tT];rfl
theorem XQ:zv prog w=zv pw it.w:=by unfold prog w;rfl
theorem Hx(Hy:∀xs:List Int,xs.length<=63->∃n g',n<=200/\aC L.tb n eE [.d (.list (xs.map .int))] []=.ok (.d (.bool true),g')):Claim it:=by
 intro s l ts E ho sub hg hl hlen;obtain⟨n,g',hn,hp⟩:=Hy (ts.map (·.1)) (by rw[zA];exact hlen);rw[←W4] at hp;let γ:Gh:=⟨λ_=>.free,λ_=>0,λ_=>(0,0)⟩;have I:aS γ [] s:=⟨λn o h=>(nomatch h),λa h=>absurd rfl h,λa o h=>⟨rfl,sub a o (acG▸h)⟩,ho.trans osT.symm,hg⟩;have hb:CB n callerA:=⟨rfl,zM (zG (YU 3 hn) (1+claimMargin)) (by decide),zM (zV (zG (YU 16 hn) 4) 128) (by decide),[],rfl⟩;rw[←XQ,←congrFun W0 eE];refine wpAny_call (sF Lp n callerA hb eE [.d (.list ((ts.map (·.1)).map .int))] [.ref l] γ [] s _ I (λfr IA env he=>by cases IA;cases he) ⟨_,[],rfl,⟨l,_,0,rfl,(if_pos rfl).trans hl,Lr⟩,rfl⟩ (λe=>nomatch hp.symm.trans e) (λa g2 γ' v s' e GI K V=>?_) λx p2 g2 γ' s' e _ _ _=>?_)
 ·cases(show aC T.tb n eE _ []=.ok (a,g2) from e).symm.trans hp
  exact⟨V,λb o hbo=>(K.j7 b o rfl hbo).2,GI.os.trans (osT.trans ho.symm),GI.gens⟩
 ·cases(show aC T.tb n eE _ []=.ex _ g2 from e).symm.trans hp
end Lw
namespace aZ
open PySem PySem.W PySem.Calls PyProof.Rows Lw
variable{α β:Type}
theorem Dd:oM.row.toRowW.promised:=⟨[.list []],by decide+kernel,by decide+kernel⟩
theorem has_int{R:WRecords}{d:WData}(h:ael R d .int=true):∃i,d=.int i:=by
 cases d with
 |int i=>exact⟨i,rfl⟩
 |_=>exact Zq h
theorem uR{R:WRecords}:∀{xs:List WData},WShape.hasItems R xs .int=true->∃l:List Int,xs=l.map .int
 |[],_=>⟨[],rfl⟩
 |x::xs,h=>by
  refine zg (λh1 h2=>?_) (aa h);refine ze (has_int h1) λi mD=>(gR mD ?_);refine ze (uR h2) λl XR=>(gR XR ?_);exact⟨i::l,rfl⟩
theorem has_list{R:WRecords}{d:WData}(h:ael R d (.list .int)=true):∃l:List Int,d=.list (l.map .int):=by
 cases d with
 |list xs=>exact(uR ((Bool.or_false _).symm.trans h)).imp λl e=>congrArg _ e
 |_=>exact Zq h
theorem De{P:Params}{h:yi}{l:List Int}:∀{vs:List zo},WellAll P h vs (l.map .int)->∃ts:List (Int×Tok),ts.map (·.1)=l/\ts.map (λp=>aef p.1 p.2)=vs:=by
 induction l with
 |nil=>exact λx=>by cases x;exact⟨[],rfl,rfl⟩
 |cons i l ih=>
  intro vs x;cases x with
  |cons a b=>
   cases a with
   |int i t=>
    refine ze (ih b) λts acH=>(zg (λh1 h2=>?_) acH);exact⟨(i,t)::ts,congrArg _ h1,congrArg _ h2⟩
theorem Ls{R:WRecords}{args:List WData}{s:WShape}(h:WShape.hasAll R args [s]=true):∃d,args=[d]/\ael R d s=true:=by
 cases args with
 |nil=>cases h
 |cons d r=>
  refine zg (λh1 h2=>?_) (aa h);cases r with
  |nil=>exact⟨d,rfl,h1⟩
  |cons _ _=>cases h2
theorem Df(d:WData):oM.row.claim.post [d] (.bool true) [d]=true:=by kernel_rfl
theorem uS:(defOf q1 oM.row.name).isSome=true:=by kernel_rfl
def Lu:DefRec×List (Str×Ye):=(defOf q1 oM.row.name).get uS
theorem Qf:defOf q1 oM.row.name=some (Lu.1,Lu.2):=(Option.some_get uS).symm
theorem Qg:oM.row.prog.theDef oM.row.name=some (Lu.1.params,Lu.1.body,Lu.1.scope):=by kernel_rfl
theorem XT:kwWritten? Lu.1.params.kwonlyargs Lu.1.params.kw_defaults=some Lu.2:=by kernel_rfl
theorem Lv:Lu.1.name="law":=by kernel_rfl
theorem Qh:L.nm 64="law":=by kernel_rfl
theorem Qi:(eE,64)∈L.xA:=zz.mp (by kernel_rfl)
theorem Qj{h:yi}(e:vD h=lp){v:zo}(hv:h.nsMap mainGlobals "law"=some v):v=.ref (L.i8 eE):=by have z:=e9 (f:=λp:Nat×Nat=>(h.nsMap mainGlobals (L.nm p.2),keepIn (K L h) (.ref (L.i8 p.1)))) (g:=λp=>(some (Zm (L.i8 p.1)),true)) (congrArg (·.2.2.1.2.1) e) Qi;have z:=congrArg (·.1) z;have z:h.nsMap mainGlobals (L.nm 64)=some (Zm (L.i8 eE)):=z;rw[Qh] at z;exact zh (hv.symm.trans z)
theorem Qk{h:yi}{a:zJ}{m m':Str->Option zo}(x:h.Ns a m)(y:h.Ns a m') n:m n=m' n:=by refine ag λ_ k=>(ze x λo acI=>(ze acI λes mQ=>(ze mQ λep mN=>(zg (λho F7=>?_) mN))));refine zg (λhd tU=>?_) F7;refine zg (λ_ hf=>?_) tU;refine ze y λo' q9=>?_;obtain⟨RE,ep',fK,Cb,_,hf'⟩:=q9;cases ho.symm.trans fK;cases hd.symm.trans Cb;exact k ((hf n).symm.trans (hf' n))
theorem Ql{xs:List Int}(p2:WTm.holds [] (.and (.not (.lt (.lit (.int 63)) (.len (.arg 0)))) (.lit (.bool true))) {args:=[.list (xs.map .int)]}=true):xs.length<=63:=by refine ZS λq=>?_;have e:decide ((63:Int)<((xs.map WData.int).length:Int))=true:=decide_eq_true (zA (as:=xs) WData.int▸yR.mpr q);have z:WTm.holds [] (.and (.not (.lt (.lit (.int 63)) (.len (.arg 0)))) (.lit (.bool true))) {args:=[.list (xs.map .int)]}=false:=congrArg (λb=>WTm.holds [] (.and (.not .res) (.lit (.bool true))) {args:=[],res:=some (.bool b)}) e;exact Zq (p2.symm.trans z)
def YP1(_:Y3)(h:yi):Prop:=∃h0:yi,vD h0=lp/\∀b o,h0.get? b=some o->h.get? b=some o
theorem XU(Hy:∀xs:List Int,xs.length<=63->∃n g',n<=200/\aC L.tb n eE [.d (.list (xs.map .int))] []=.ok (.d (.bool true),g')):PySem.Challenge.rw_nz0398_01.Holds:=by
 refine holds_law SX λacJ=>holds_open (YP:=YP1) Mo (λw s e=>⟨s.heap,e,λ_ _ z=>z⟩) (λw h h' ⟨h0,e,x⟩ k=>⟨h0,e,λb o z=>k b o (x b o z)⟩) (λ_ _=>trivial) (λ_ _ _ _ _=>trivial) Qf Qg XT (λs _=>recFacts_of rfl) rfl acJ ok1 SY Dd ?_;intro w ade az mg mb G Y a o pm cd doc dV kV _ _ _ _ hmg XW args vals as acK _ _ hwl _;refine ze Y λh0 acL=>(zg (λe0 sub=>?_) acL);refine zg (λp1 p2=>?_) (aa acK);refine ze (Ls p1) λd qY=>?_;obtain⟨rfl,p3⟩:=qY;obtain⟨xs,rfl⟩:=has_list p3;cases hwl with
 |cons wv wr=>
  cases wr;cases wv with
  |@list l vs _ hl hw=>
   have n1:h0.Ns mainGlobals (h0.nsMap mainGlobals):=.of_isNs (congrArg (·.1.2.1) e0);cases Qj e0 ((Qk (n1.keeps sub) G.T.g "law").trans (Lv▸hmg));obtain⟨ts,z1,rfl⟩:=De hw;refine zI (Od (Hx Hy) ⟨w,h0,az.os,e0⟩ az l ts _ rfl sub XW hl ?_) (λv s' q=>?_) λ_ _ q=>q
   ·refine gL (zA ..) (gR z1 ?_);exact Ql p2
   ·obtain⟨rfl,k,ko,kg⟩:=q
    exact⟨.inl ⟨.bool true,.bool true,[],rfl,λ_=>rfl,.bool true,Df _,λ_=>⟨.nil,λ_ h=>nomatch h⟩⟩,.of_keep k,ko,.of_eq kg⟩
end aZ
namespace Lw
open PySem hiding Env
section
set_option genCtorIdx true in
inductive P3 where
 |p |q |f
inductive N where
 |nm (s:Int) (b:Bool)
 |pr (s:Int) (x:P3)
 |cH (s:Int)
 |un (s:Int) (a:N)
 |j6 (s:Int) (a b:N)
 |b0 (s:Int) (a:N)
 |b1 (s:Int) (a b:N)
 |b2 (s:Int) (a b c:N)
 |b3 (s:Int) (a b c d:N)
structure Xo where
 n:N
 m:N
 o:N
 s:Int
 t:Int
 a:Nat
 l:Int
 d:D
 r:List D
 g:G
inductive Sp where
 |ck
 |ret (b:Bool) (r:R (Fl×Env×G))
 |br (p:Nat) (c:Bool) (t u:Sp)
 |ask (f:Nat) (vs:List AV) (g:G) (t:Sp)
 |cQ (r:R (AV×G)) (t:Sp)
 |pO (t u:Sp)
 |fn (k:Xo->Sp)
noncomputable def sn(a c:Bool):Bool:=match c with
 |true=>a
 |false=>false
theorem XX{a c:Bool}(h:sn a c=true):aF (a=true) (c=true):=by
 cases c with
 |true=>exact⟨h,rfl⟩
 |false=>exact absurd h zi
theorem bN{a c:Bool}(h:a=true)(k:c=true):sn a c=true:=by subst k;exact h
noncomputable def alts(ih:R (AV×G)->Sp->Sp):Sp->Sp
 |.cQ r t=>.cQ r (ih r t)
 |.pO t u=>.pO (alts ih t) (alts ih u)
 |.fn k=>.fn λx=>alts ih (k x)
 |_=>.ck
noncomputable def brK(b:Bool)(x:Sp×Sp):Option (Sp×Sp):=match b with
 |true=>some x
 |false=>none
def Sp.br?(p:Nat):Sp->Option (Sp×Sp)
 |.br q _ t u=>brK (Z2 p q) (t,u)
 |_=>none
noncomputable def Sp.Qm:Sp->Option Sp
 |.ask _ _ _ t=>some t
 |_=>none
noncomputable def brL(p:Nat)(c:Bool)(f g:Sp->Sp)(s:Sp):Option (Sp×Sp)->Sp
 |some t=>.br p c (f t.1) (g t.2)
 |none=>match c with
  |true=>f s
  |false=>g s
def XY(n:Nat)(vs:List AV)(g:G)(ih:R (AV×G)->Sp->Sp):Option Sp->Sp
 |some t=>.ask n vs g (alts ih t)
 |none=>.ck
noncomputable def W.left(e:Fl×Env×G->Fl×Env×G):W (Fl×Env×G)->Bool->Sp->Sp
 |.ok y,a,_=>.ret a (.ok (e y))
 |.ex p g,a,_=>.ret a (.ex p g)
 |.no,_,_=>.ck
 |.bO c x,a,s=>x.left e (sn a c) s
 |.br p c x y,a,s=>brL p c (x.left e a) (y.left e a) s (s.br? p)
 |.ask f vs g k,a,s=>XY f vs g (λr=>(k r).left e a) s.Qm
noncomputable def R.map{α β:Type}(f:α->β):R α->R β
 |.ok a=>.ok (f a)
 |.ex p g=>.ex p g
 |.no=>.no
noncomputable def fin(y:Fl×Env×G):Fl×Env×G:=match y.1 with
 |.gV=>(.ret (.d .none),[],y.2.2)
 |fl=>(fl,[],y.2.2)
noncomputable def rv(d:D)(g:G):R (Fl×Env×G):=.ok (.ret (.d d),[],g)
section
variable(An:Nat->List AV->G->R (AV×G)->Prop)(Po:R (Fl×Env×G)->Prop)
noncomputable def Good(Z:R (AV×G)->Prop):Sp->Prop
 |.ck=>False
 |.ret b r=>aF (b=true) (Po r)
 |.br _ c t u=>aF (c=true->Good Z t) (c=false->Good Z u)
 |.ask f vs g t=>Good (An f vs g) t
 |.cQ r t=>aF (Z r) (Good Z t)
 |.pO t u=>Good Z t\/Good Z u
 |.fn k=>∃x,Good Z (k x)
end
noncomputable def Sp.nx:Sp->Sp
 |.cQ _ t |.pO t _=>t
 |s=>s
noncomputable def Sp.ny:Sp->Sp
 |.pO _ u=>u
 |s=>s
noncomputable def Sp.fk:Sp->Xo->Sp
 |.fn k=>k
 |s=>λ_=>s
section
variable{An:Nat->List AV->G->R (AV×G)->Prop}{Po:R (Fl×Env×G)->Prop}
theorem XZ{Z:R (AV×G)->Prop}{s:Sp}{P:Prop}(h:Sp.ck=s)(g:Good An Po Z s):P:=by subst h;exact g.elim
theorem Lx{ih:R (AV×G)->Sp->Sp}{Z:R (AV×G)->Prop}{t:Sp}:alts ih t=t->Good An Po Z t->c8 λr u=>aG (Z r) (ih r u=u) (Good An Po Z u):=by
 induction t with
 |cQ r t=>exact λh g=>⟨r,t,g.1,congrArg Sp.nx h,g.2⟩
 |pO t u iht ihu=>exact λh g=>g.elim (iht (congrArg Sp.nx h)) (ihu (congrArg Sp.ny h))
 |fn k ihk=>exact λh ⟨x,g⟩=>ihk x (congrFun (congrArg Sp.fk h) x) g
 |_=>exact λh g=>XZ h g
theorem Hz{e:Fl×Env×G->Fl×Env×G}{x:W (Fl×Env×G)}:∀{s:Sp} {a:Bool} {Z:R (AV×G)->Prop},x.left e a s=s->Good An Po Z s->∃o,aG (Po o) (a=true) (∀c:Call,(∀f vs g r,An f vs g r->c f vs g=r)->(x.run c).map e=o):=by
 induction x with
 |ok y=>
  intro s a Z h g;have g:aF (a=true) (Po (.ok (e y))):=Eq.subst (motive:=Good An Po Z) h.symm g;exact⟨_,g.2,g.1,λ_ _=>rfl⟩
 |ex p g0=>
  intro s a Z h g;have g:aF (a=true) (Po (.ex p g0)):=Eq.subst (motive:=Good An Po Z) h.symm g;exact⟨_,g.2,g.1,λ_ _=>rfl⟩
 |no=>exact λh g=>XZ h g
 |bO b x ih=>
  intro s a Z h g;refine ze (ih h g) λo mM=>?_;obtain⟨p,e,q⟩:=mM;have e:=XX e;refine gR e.2 ?_;exact⟨o,p,e.1,q⟩
 |br p b x y Mb Mc=>
  intro s a Z h g;have h:brL p b (x.left e a) (y.left e a) s (s.br? p)=s:=h;cases hs:s.br? p with
  |some t=>
   rw[hs] at h;obtain rfl:Sp.br p b (x.left e a t.1) (y.left e a t.2)=s:=h;have vf:brK true (x.left e a t.1,y.left e a t.2)=some t:=(congrArg (λz=>brK z (x.left e a t.1,y.left e a t.2)) (Nat.beq_refl p)).symm.trans hs;have e1:x.left e a t.1=t.1:=congrArg (·.1) (zh vf);have e2:y.left e a t.2=t.2:=congrArg (·.2) (zh vf);cases b with
   |true=>exact Mb e1 (e1▸g.1 rfl)
   |false=>exact Mc e2 (e2▸g.2 rfl)
  |none=>
   rw[hs] at h;cases b with
   |true=>exact Mb h g
   |false=>exact Mc h g
 |ask f vs g0 k ih=>
  intro s a Z h g;have h:XY f vs g0 (λr=>(k r).left e a) s.Qm=s:=h;cases hs:s.Qm with
  |some t=>
   replace h:=hs▸h;obtain rfl:Sp.ask f vs g0 (alts (λr=>(k r).left e a) t)=s:=h;have d:alts (λr=>(k r).left e a) t=t:=zh hs;obtain⟨r,u,z,d,g⟩:=Lx d (d▸g);refine ze (ih r d g) λo oZ=>?_;obtain⟨p,d,q⟩:=oZ;exact⟨o,p,d,λc hc=>(congrArg (λr=>((k r).run c).map e) (hc _ _ _ _ z)).trans (q c hc)⟩
  |none=>
   replace h:=hs▸h;exact XZ h g
end
def M8(t:Bool)(x:W (Fl×Env×G))(s:Sp):Sp:=match t with
 |true=>x.left fin true s
 |false=>.ck
def M9(o:Option Fn)(vs:List AV)(g:G)(tb:Tb)(s:Sp):Sp:=match o with
 |none=>.ck
 |some F=>M8 (Z2 vs.length F.np) (aY tb F.body (vs.map .v++yz (F.ns - F.np) .un) g) s
def walk(tb:Tb)(f:Nat)(vs:List AV)(g:G)(s:Sp):Sp:=M9 (tb.fn f) vs g tb s
section
variable(tb:Tb)
def Ev(k f:Nat)(vs:List AV)(g:G)(r:R (AV×G)):Prop:=∀n,k<=n->aC tb n f vs g=r
end
variable{tb:Tb}
theorem Ev.up{k k' f:Nat}{vs:List AV}{g:G}{r:R (AV×G)}(h:Ev tb k f vs g r)(hk:k<=k'):Ev tb k' f vs g r:=λn hn=>h n (zk hk hn)
theorem sG(x:R (Fl×Env×G)):aR (x.map fin)=aR x:=match x with
 |.ok (.gV,_)=>rfl
 |.ok (.ret _,_)=>rfl
 |.ok (.brk,_)=>rfl
 |.ex _ _=>rfl
 |.no=>rfl
theorem HA{t:Bool}{x:W (Fl×Env×G)}{s:Sp}{An:Nat->List AV->G->R (AV×G)->Prop}{Po:R (Fl×Env×G)->Prop}(h:M8 t x s=s)(hg:Good An Po (λ_=>False) s):
  ∃o,aF (Po o) (∀c:Call,(∀f vs g r,An f vs g r->c f vs g=r)->(match(generalizing:=false) t with |true=>aR (x.run c) |false=>.no)=aR o):=by
 cases t with
 |false=>exact XZ h hg
 |true=>
  refine ze (Hz h hg) λo jw=>?_;obtain⟨p,_,q⟩:=jw;exact⟨o,p,λc hc=>(sG _).symm.trans (congrArg aR (q c hc))⟩
theorem X4{k f:Nat}{vs:List AV}{g:G}{Po:R (Fl×Env×G)->Prop}{s:Sp}(h:walk tb f vs g s=s)(hg:Good (Ev tb k) Po (λ_=>False) s):∃o,aF (Po o) (Ev tb (k+1) f vs g (aR o)):=by
 have h:M9 (tb.fn f) vs g tb s=s:=h;cases hF:tb.fn f with
 |none=>
  replace h:=hF▸h;exact XZ h hg
 |some F=>
  rw[hF] at h;refine ze (HA h hg) λo o8=>?_;refine⟨o,o8.1,λn hk=>?_⟩;cases n with
  |zero=>exact absurd hk (Z6 _)
  |succ n=>
   refine(?_:(match tb.fn f with
    |none=>R.no
    |some F=>match Z2 vs.length F.np with
     |true=>aR ((aY tb F.body (vs.map .v++yz (F.ns - F.np) .un) g).run (aC tb n))
     |false=>R.no)=aR o)
   refine gR (hF ..) ?_;exact o8.2 _ λf vs g r e=>e n (Za hk)
theorem go{k f:Nat}{vs:List AV}{g:G}{out:R (AV×G)}{s:Sp}(h:walk tb f vs g s=s)(hg:Good (Ev tb k) (λo=>aR o=out) (λ_=>False) s):Ev tb (k+1) f vs g out:=by refine ze (X4 h hg) λo X5=>?_;refine gL X5.1 ?_;exact X5.2
noncomputable def aK.IG:aK->aK->aK
 |.nil,b=>b
 |.cons s r,b=>.cons s (r.IG b)
noncomputable def Ly(f:Env->G->W (Fl×Env×G))(y:Fl×Env×G):W (Fl×Env×G):=match y.1 with
 |.gV=>f y.2.1 y.2.2
 |fl=>.ok (fl,y.2)
theorem HB(f h:Env->G->W (Fl×Env×G))(y:Fl×Env×G):Ly (λe g=>(f e g).bind (Ly h)) y=(Ly f y).bind (Ly h):=match y with
 |(.gV,_)=>rfl
 |(.brk,_)=>rfl
 |(.ret _,_)=>rfl
theorem xa(b:aK):∀(a:aK) {e:Env} {g:G},aY tb (a.IG b) e g=(aY tb a e g).bind (Ly λe g=>aY tb b e g)
 |.nil,_,_=>rfl
 |.cons s r,e,g=>by
  refine(?_:(SD tb s e g).bind (Ly λe g=>aY tb (r.IG b) e g)=((SD tb s e g).bind (Ly λe g=>aY tb r e g)).bind (Ly λe g=>aY tb b e g));refine gR ((funext λe=>funext λg=>xa b r) ..) ?_;refine gR (W.bind_assoc ..) ?_;exact congrArg (W.bind (SD tb s e g)) (funext λy=>HB _ _ y)
def Tr(tb:Tb)(k:Nat)(b:aK)(e:Env)(g:G):Prop:=∃g',∀n,k<=n->aR ((aY tb b e g).run (aC tb n))=.ok (.d (.bool true),g')
theorem R.HC{α:Type}(x:R α):x.map id=x:=by cases x <;> rfl
theorem Na{k:Nat}{a b:aK}{e:Env}{g:G}{s:Sp}{Z:R (AV×G)->Prop}{Po:R (Fl×Env×G)->Prop}(h:(aY tb a e g).left id true s=s)(hg:Good (Ev tb k) Po Z s)(hP:∀o,Po o->c8 λe' g'=>aF (o=.ok (.gV,e',g')) (Tr tb k b e' g')):Tr tb k (a.IG b) e g:=by refine ze (Hz h hg) λo mX=>?_;obtain⟨p,_,q⟩:=mX;obtain⟨e',g',rfl,gz,t⟩:=hP o p;refine⟨gz,λn hn=>?_⟩;have hq:=q (aC tb n) λf vs g r z=>z n hn;rw[R.HC] at hq;refine gR (xa ..) ?_;refine gR (W.hO ..) ?_;refine gR (hq ..) ?_;exact t n hn
theorem mI{k:Nat}{b:aK}{e:Env}{g:G}{s:Sp}{Z:R (AV×G)->Prop}{Po:R (Fl×Env×G)->Prop}(h:(aY tb b e g).left fin true s=s)(hg:Good (Ev tb k) Po Z s)(hP:∀o,Po o->∃g',o=rv (.bool true) g'):Tr tb k b e g:=by refine ze (Hz h hg) λo P5=>?_;obtain⟨p,_,q⟩:=P5;obtain⟨gz,rfl⟩:=hP o p;exact⟨gz,λn hn=>(sG _).symm.trans (congrArg aR (q (aC tb n) λf vs g r z=>z n hn))⟩
def En(tb:Tb)(k:Nat)(b:aK)(e:Env)(g:G)(out:R (AV×G)):Prop:=∀n,k<=n->aR ((aY tb b e g).run (aC tb n))=out
def EnB(tb:Tb)(k:Nat)(b:aK)(out:R (AV×G))(o:R (Fl×Env×G)):Prop:=match o with
 |.ok (.gV,e,g)=>En tb k b e g out
 |o=>aR o=out
theorem X6{f:Env->G->W (Fl×Env×G)}{c:Call}{out:R (AV×G)}(o:R (Fl×Env×G)) (h:match o with
 |.ok (.gV,e,g)=>aR ((f e g).run c)=out
 |o=>aR o=out):aR (o.bind λy=>(Ly f y).run c)=out:=match o,h with
 |.ok (.gV,_,_),h=>h
 |.ok (.ret _,_,_),h=>h
 |.ok (.brk,_,_),h=>h
 |.ex _ _,h=>h
 |.no,h=>h
theorem xb{k:Nat}{a b:aK}{e:Env}{g:G}{s:Sp}{Z:R (AV×G)->Prop}{out:R (AV×G)}(h:(aY tb a e g).left id true s=s)(hg:Good (Ev tb k) (EnB tb k b out) Z s):En tb k (a.IG b) e g out:=by
 refine ze (Hz h hg) λo OM=>?_;obtain⟨p,_,q⟩:=OM;intro n hn;have hq:=q (aC tb n) λf vs g r z=>z n hn;rw[R.HC] at hq;refine gR (xa ..) ?_;refine gR (W.hO ..) ?_;refine gR (hq ..) ?_;refine X6 o ?_;cases o with
 |ok y=>
  obtain⟨fl,e,g⟩:=y;cases fl with
  |gV=>exact p n hn
  |_=>exact p
 |_=>exact p
theorem HD{k:Nat}{b:aK}{e:Env}{g:G}{s:Sp}{Z:R (AV×G)->Prop}{out:R (AV×G)}(h:(aY tb b e g).left fin true s=s)(hg:Good (Ev tb k) (λy=>aR y=out) Z s):En tb k b e g out:=by refine ze (Hz h hg) λo acM=>?_;obtain⟨Pc,_,q⟩:=acM;refine gL Pc ?_;exact λn hn=>(sG _).symm.trans (congrArg aR (q (aC tb n) λf vs g r z=>z n hn))
theorem En.ev{k f np ns:Nat}{B:aK}{vs:List AV}{g:G}{out:R (AV×G)}(hF:(tb.fn f).map (λF=>(F.np,F.ns,F.body))=some (np,ns,B))(hn:Z2 vs.length np=true)(h:En tb k B (vs.map .v++yz (ns - np) .un) g out):Ev tb (k+1) f vs g out:=λn hk=>by
 cases n with
 |zero=>exact absurd hk (Z6 _)
 |succ n=>
  refine(?_:(match tb.fn f with
   |none=>R.no
   |some F=>match Z2 vs.length F.np with
    |true=>aR ((aY tb F.body (vs.map .v++yz (F.ns - F.np) .un) g).run (aC tb n))
    |false=>R.no)=out)
  cases hq:tb.fn f with
  |none=>
   replace hF:=hq▸hF;exact Lw.ns hF
  |some F=>
   replace hF:=hq▸hF;have e:=zh hF;obtain rfl:F.np=np:=congrArg (·.1) e;obtain rfl:F.ns=ns:=congrArg (·.2.1) e;obtain rfl:F.body=B:=congrArg (·.2.2) e;refine(?_:(match Z2 vs.length F.np with
    |true=>aR ((aY tb F.body (vs.map .v++yz (F.ns - F.np) .un) g).run (aC tb n))
    |false=>R.no)=out)
   refine gR (hn ..) ?_;exact h n (Za hk)
end
end Lw
namespace aZ
open PySem hiding Env
open Lw
abbrev S(k:Nat):D:=.str (L.nm k)
def _root_.Lw.P3.d:P3->D
 |.p=>S 19
 |.q=>S 20
 |.f=>S 17
def bD(s:Int)(a:D)(l:List D):D:=.tuple [S 65,.int s,a,.tuple l]
def sb(b:Bool):D:=match b with
 |false=>S 11
 |true=>S 12
noncomputable def _root_.Lw.N.d:N->D
 |.nm s b=>.tuple [S 74,.int s,sb b]
 |.pr s x=>.tuple [S 74,.int s,x.d]
 |.cH s=>.tuple [S 87,.int s]
 |.un s a=>.tuple [S 36,.int s,S 75,a.d]
 |.j6 s a b=>.tuple [S 52,.int s,S 7,a.d,b.d]
 |.b0 s a=>bD s a.d []
 |.b1 s a b=>bD s a.d [b.d]
 |.b2 s a b c=>bD s a.d [b.d,c.d]
 |.b3 s a b c d=>bD s a.d [b.d,c.d,d.d]
noncomputable def _root_.Lw.N.w:N->Nat
 |.nm .. |.cH _=>0
 |.pr ..=>1
 |.un _ a=>a.w+1
 |.j6 _ a b=>a.w+1+b.w
 |.b0 _ a=>a.w+1
 |.b1 _ a b=>a.w+(b.w+1)
 |.b2 _ a b c=>a.w+(b.w+1+(c.w+1))
 |.b3 _ a b c d=>a.w+(b.w+1+(c.w+1+(d.w+1)))
noncomputable def _root_.Lw.N.s:N->Int
 |.nm s _ |.pr s _ |.cH s |.un s _ |.j6 s _ _ |.b0 s _ |.b1 s _ _ |.b2 s _ _ _ |.b3 s _ _ _ _=>s
structure F where
 cells:List D
 res:Option Bool
 o0:bW
 o1:bW
 tl:G
noncomputable def two(b:Bool):Int:=match b with
 |false=>1
 |true=>2
def X7:Option Bool->List (D×AV)
 |none=>[]
 |some b=>[(S 191,.d (.int (two b)))]
def F.g(F:F)(a l:Int):G:=F.o0::F.o1::.dict ([(S 152,.d (.list F.cells)),(S 40,.d (.int a)),(S 110,.d (.int l)),(S 156,.o 0),(S 151,.o 1)]++X7 F.res)::F.tl
def F.gn(F:F)(a:Nat)(l:Int):G:=F.g a l
abbrev E:=Ev L.tb
def nF:R (AV×G)->Prop:=λ_=>False
theorem Qn(F:F){a:Nat}{l:Int}:E 1 73 [.o 2] (F.gn a l) (.ok (.d (.int (l+1)),F.gn a (l+1))):=by obtain⟨c,r,o0,o1,t⟩:=F;cases r <;> exact go (s:=.ret true (rv _ _)) (by kernel_rfl) ⟨rfl,rfl⟩
theorem dt{p:Prop}[Decidable p](h:p):decide p=true:=decide_eq_true h
theorem aX{a b:Bool}(ha:a=true)(hb:b=true):(a&&b)=true:=(zY _ _).mpr ⟨ha,hb⟩
theorem sH{a b:Nat}(h:a<b):decide ((a:Int).natAbs<b)=true:=decide_eq_true h
theorem acN{c:List D}{a:Nat}(h:∀x∈c,isInt x=true)(e:a<c.length):isInt (c.getD a .none)=true:=by refine gR ZM (gR (zB e ..) ?_);exact h _ (ads e)
def dsp(F:F)(a:Nat)(l:Int)(w:Nat):Sp:=
 .br 640 (decide ((a:Int)<(F.cells.length:Int)))
  (.ret (sn (sn (sn (sn true (decide (F.cells.length<=lim))) (small (a:Int)&&decide (a<F.cells.length))) (isInt (F.cells.getD a .none))) (decide (0<(w:Int))))
   (rv (.int (Se (F.cells.getD a .none)%w)) (F.gn (a+1) l)))
  (.ret (sn (sn (sn (sn (sn (sn (sn true (decide (F.cells.length<=lim))) (fp (a:Int))) (fp (6*(a:Int))&&fp (a:Int))) (fp (a:Int))) (decide (F.cells.length<=lim))) (fp (F.cells.length:Int))) (decide (0<(w:Int))))
   (rv (.int ((6*(a:Int)*a+5*a+3*F.cells.length+4)%89%w)) (F.gn (a+1) l)))
def F.ok(F:F):Prop:=aF (F.cells.length<=63) (∀x∈F.cells,isInt x=true)
theorem Qo(F:F)(h:F.ok){a:Nat}{l:Int}{w:Nat}(hw:0<w)(ha:a<=9000):∃o,aF (∃x:Int,o=rv (.int (x%w)) (F.gn (a+1) l)) (E 1 72 [.o 2,.d (.int w)] (F.gn a l) (aR o)):=by have h1:decide (F.cells.length<=lim)=true:=dt (zk h.1 (by decide));have hw:=dt (yR.mpr hw);have hs:fp a=true:=sH (zM ha (by decide));refine X4 (s:=dsp F a l w) (by obtain⟨c,r,o0,o1,t⟩:=F;cases r <;> kernel_rfl) ⟨λe=>?_,λ_=>⟨bN (bN (bN (bN (bN (bN (bN rfl h1) hs) (aX (sH (zM (YU 6 ha) (by decide))) hs)) hs) h1) (sH (zM h.1 (by decide)))) hw,_,rfl⟩⟩;have e:=yR.mp (of_decide_eq_true e);exact⟨bN (bN (bN (bN rfl h1) (aX (sH (zM ha (by decide))) (dt e))) (acN h.2 e)) hw,_,rfl⟩
variable{a c t B:Nat}{b res:Bool}{u:Int}
abbrev Bk:=Nat->Int->Sp
noncomputable def Qp(k:Nat->Sp):Nat->Sp
 |0=>.ck
 |n+1=>.pO (Qp k n) (k n)
section
variable(F:F)
def dr(w:Nat)(k:Nat->Bk):Bk:=λa l=>.ask 72 [.o 2,.d (.int w)] (F.gn a l) (Qp (λr=>.cQ (.ok (.d (.int r),F.gn (a+1) l)) (k r (a+1) l)) w)
def Qq(w:Nat)(k:Nat->Bk):Bk:=λa l=>.ask 72 [.o 2,.d (.int w)] (F.gn a l) (.fn λx=>.cQ (.ok (.d (.int x.a),F.gn (a+1) l)) (k x.a (a+1) l))
def sp(k:Int->Bk):Bk:=λa l=>.ask 73 [.o 2] (F.gn a l) (.cQ (.ok (.d (.int (l+1)),F.gn a (l+1))) (k (l+1) a (l+1)))
def sub(f:Nat)(vs:List AV)(k:N->Bk):Bk:=λa l=>.ask f vs (F.gn a l) (.fn λx=>.cQ (.ok (.d x.n.d,F.gn x.a x.l)) (k x.n x.a x.l))
def nd(n:N):Nat->Int->R (Fl×Env×G):=λa l=>rv n.d (F.gn a l)
noncomputable def Nb(p:Nat)(c:Bool)(x y:Bk):Bk:=λa l=>.br p c (x a l) (y a l)
end
noncomputable def rt(b:Bool)(r:Nat->Int->R (Fl×Env×G)):Bk:=λa l=>.ret b (r a l)
def Bl(F:F)(k t f:Nat)(vs:List AV)(P:N->Prop):Prop:=∀(a:Nat) (l:Int),a+t<=9000->mi λn a' l'=>aG (E k f vs (F.gn a l) (.ok (.d n.d,F.gn a' l'))) (P n) (a'<=a+t)
def Gb{α:Type}(ro:α->Nat->Int->R (Fl×Env×G))(k T:Nat)(P:α->Prop)(t:Nat)(b:Bk):Prop:=∀(Z:R (AV×G)->Prop) (a:Nat) (l:Int),a+t<=T->Good (E k) (λo=>mi λx a' l'=>aG (o=ro x a' l') (P x) (a'<=T)) Z (b a l)
theorem A2{An:Nat->List AV->G->R (AV×G)->Prop}{Po:R (Fl×Env×G)->Prop}{Z:R (AV×G)->Prop}{k:Nat->Sp}{r:Nat}(g:Good An Po Z (k r)):∀{w:Nat},r<w->Good An Po Z (Qp k w)
 |0,h=>absurd h (Zw _)
 |w+1,h=>(ZY.mp h).elim (λh=>Or.inl (A2 g h)) λh=>Or.inr (Eq.subst (motive:=λr=>Good An Po Z (k r)) h g)
theorem HE{F:F}(h:F.ok){l:Int}{w:Nat}(hw:0<w)(ha:a<=9000):∃r:Nat,aF (r<w) (E 1 72 [.o 2,.d (.int w)] (F.gn a l) (.ok (.d (.int r),F.gn (a+1) l))):=by refine ze (Qo F h (l:=l) hw ha) λ_ qT=>?_;obtain⟨⟨x,rfl⟩,e⟩:=qT;have hw:=yR.mpr hw;refine ze (Int.eq_ofNat_of_zero_le (Int.emod_nonneg x (Int.ne_of_gt hw))) λr hr=>?_;rw[hr] at e;exact⟨r,yR.mp (hr▸Int.emod_lt_of_pos x hw),e⟩
section
variable{α:Type}{ro:α->Nat->Int->R (Fl×Env×G)}{F:F}{k T:Nat}{P:α->Prop}
theorem cL{n:α}(hb:b=true)(h:P n):Gb ro k T P t (rt b (ro n)):=λ_ a l ha=>⟨hb,n,a,l,rfl,h,zk (zu _ _) ha⟩
theorem Gb.up{t':Nat}{b:Bk}(h:Gb ro k T P t b)(ht:t<=t'):Gb ro k T P t' b:=λZ a l ha=>h Z a l (zk (zG ht a) ha)
theorem cD(hk:1<=k){b:Int->Bk}(h:∀s,Gb ro k T P t (b s)):Gb ro k T P t (sp F b):=λ_ a l ha=>⟨(Qn F).up hk,h _ _ _ _ ha⟩
theorem gh(hk:1<=k)(hF:F.ok)(hT:T<=9000){w:Nat}(hw:0<w){b:Nat->Bk}(h:∀r,r<w->Gb ro k T P t (b r)):Gb ro k T P (t+1) (dr F w b):=λ_ a l ha=>by
 exact ze (HE hF (l:=l) hw (zk (zu a _) (zk ha hT))) λr ia=>(A2 (Z:=E k 72 [.o 2,.d (.int w)] (F.gn a l)) (k:=λr=>.cQ (.ok (.d (.int r),F.gn (a+1) l)) (b r (a+1) l)) ⟨ia.2.up hk,h r ia.1 _ _ _ (Nat.succ_add a t▸ha)⟩ ia.1)
theorem kZ(hk:1<=k)(hF:F.ok)(hT:T<=9000){w:Nat}(hw:0<w){b:Nat->Bk}(h:∀r,Gb ro k T P t (b r)):Gb ro k T P (t+1) (Qq F w b):=λ_ a l ha=>by
 exact ze (HE hF (l:=l) hw (zk (zu a _) (zk ha hT))) λr FY=>⟨⟨.cH 0,.cH 0,.cH 0,0,0,r,0,.none,[],[]⟩,FY.2.up hk,h r _ _ _ (Nat.succ_add a t▸ha)⟩
theorem og{p:Nat}{c:Bool}{x y:Bk}(h1:c=true->Gb ro k T P t x)(h2:c=false->Gb ro k T P t y):Gb ro k T P t (Nb p c x y):=λ_ _ _ ha=>⟨λe=>h1 e _ _ _ ha,λe=>h2 e _ _ _ ha⟩
theorem jl(hT:T<=9000){t' f:Nat}{vs:List AV}{Q:N->Prop}(hs:Bl F k t' f vs Q){b:N->Bk}(h:∀n,Q n->Gb ro k T P t (b n)):Gb ro k T P (t'+t) (sub F f vs b):=λ_ a l ha=>by
 have ha:=Zb a t' t▸ha;obtain⟨n,a',l',e,q,h2⟩:=hs a l (zk (zu _ _) (zk ha hT));exact⟨⟨n,n,n,0,0,a',l',.none,[],[]⟩,e,h n q _ _ _ (zk (zV h2 t) ha)⟩
theorem lH{P:N->Prop}{f:Nat}{vs:List AV}{b:Bk}(h:∀a l,walk L.tb f vs (F.gn a l) (b a l)=b a l)(g:∀T,T<=9000->Gb (nd F) k T P t b):Bl F (k+1) t f vs P:=λa l ha=>by
 refine ze (X4 (h a l) (g _ ha _ a l (zm _))) λ_ nq=>?_;obtain⟨⟨n,a',l',rfl,p,q⟩,e⟩:=nq;exact⟨n,a',l',e,p,q⟩
theorem Bl.up{P:N->Prop}{k' t' f:Nat}{vs:List AV}{Q:N->Prop}(h:Bl F k t f vs P)(hk:k<=k')(ht:t<=t')(hP:∀n,P n->Q n):Bl F k' t' f vs Q:=λa l ha=>by
 obtain⟨n,a',l',e,p,q⟩:=h a l (zk (zG ht a) ha);exact⟨n,a',l',e.up hk,hP n p,zk q (zG ht a)⟩
end
def _root_.Lw.N.lf:N->Bool->Prop
 |.nm ..,false=>True
 |.cH _,true=>True
 |_,_=>False
theorem Lz{F:F}(hF:F.ok):∀m:Bool,Bl F 2 1 74 [.o 2,.d (.int (two m))] (λn=>n.lf m)
 |true=>lH (b:=sp F λs=>rt true (nd F (.cH s))) (λa l=>by obtain⟨c,r,o0,o1,t⟩:=F;cases r <;> kernel_rfl) λT hT=>cD (zm _) λs=>cL rfl trivial
 |false=>lH (b:=sp F λs=>dr F 2 λr=>rt true (nd F (.nm s (Z2 r 1)))) (λa l=>by obtain⟨c,r,o0,o1,t⟩:=F;cases r <;> kernel_rfl) λT hT=>cD (zm _) λs=>gh (zm _) hF hT (zN _) λr _=>cL rfl trivial
variable{vs:List AV}{α:Type}
inductive Pl where
 |n
 |o (a:Bool)
 |t (a b:Bool)
noncomputable def Pl.l:Pl->List Bool
 |.n=>[]
 |.o a=>[a]
 |.t a b=>[a,b]
def lD(l:List Bool):D:=.list (l.map λb=>.int (two b))
def Pl.d(p:Pl):D:=lD p.l
structure Ws where
 p:Pl
 q:Pl
 f:Pl
noncomputable def Ws.at(w:Ws):P3->Pl
 |.p=>w.p
 |.q=>w.q
 |.f=>w.f
def wd(w:Ws):bW:=.dict [(S 19,.d w.p.d),(S 20,.d w.q.d),(S 17,.d w.f.d)]
structure H where
 cells:List D
 ok:aF (cells.length<=63) (∀x∈cells,isInt x=true)
 res:Bool
 ws:Ws
 o1:bW
 tl:G
def H.f(h:H):F:=⟨h.cells,some h.res,wd h.ws,h.o1,h.tl⟩
theorem H.l6(h:H):F.ok h.f:=h.ok
theorem A3{s:Int}{a:D}{l:List D}(h:nodict a=true)(k:bK l=true):nodict (bD s a l)=true:=aX h (aX k rfl)
theorem HF{n:N}:nodict n.d=true:=by
 induction n with
 |nm s b=>cases b <;> rfl
 |pr s x=>cases x <;> rfl
 |cH s=>rfl
 |un s a h=>exact aX h rfl
 |j6 s a b h k=>exact aX h (aX k rfl)
 |b0 s a h=>exact A3 h rfl
 |b1 s a b h k=>exact A3 h (aX k rfl)
 |b2 s a b c h k m=>exact A3 h (aX k (aX m rfl))
 |b3 s a b c d h k m o=>exact A3 h (aX k (aX m (aX o rfl)))
theorem nds:∀l:List N,bK (l.map N.d)=true
 |[]=>rfl
 |_::r=>aX HF (nds r)
theorem uT{l:List N}:qP (.list (l.map N.d)) (.list [])=true:=aX (aX (nds l) rfl) ((congrArg _ (dt trivial)).trans (Bool.or_true _))
def HG(b:Bool):List N->Bool
 |[]=>b
 |x::r=>sn b (qP (.list ((x::r).map N.d)) (.list []))
theorem fP(h:b=true):∀{l:List N},HG b l=true
 |[]=>h
 |_::_=>bN h uT
noncomputable def wsum:List N->Nat
 |[]=>0
 |n::r=>n.w+1+wsum r
noncomputable def uU:N->List N->N×List N
 |x,[]=>(x,[])
 |x,y::r=>((uU y r).1,x::(uU y r).2)
theorem A4:∀r x,(uU x r).1.w+1+wsum (uU x r).2=wsum (x::r)
 |[],_=>rfl
 |y::r,x=>(Nat.add_left_comm _ (x.w+1) _).trans (congrArg (x.w+1+·) (A4 r y))
theorem xc:∀n l,wsum (l.take n)+wsum (l.drop n)=wsum l
 |0,_=>yu _
 |_+1,[]=>rfl
 |n+1,x::l=>(Zb _ _ _).trans (congrArg (x.w+1+·) (xc n l))
noncomputable def bx(s:Int)(n:N):List N->N
 |[x]=>.b1 s n x
 |[x,y]=>.b2 s n x y
 |[x,y,z]=>.b3 s n x y z
 |_=>.b0 s n
theorem acO s (n x:N) r:(bx s n (x::r)).w<=n.w+wsum (x::r):=match r with
 |[]=>zm _
 |[_]=>zm _
 |[_,_]=>zm _
 |_::_::_::_=>zG (zk (zw (zE x.w)) (zu _ _)) _
def Qr(F:F)(k:Bool->N->List N->List N->Bk)(b:Bool)(nd d:N)(ds bs:List N):Bk:=sp F λs=>k b (.j6 s (uU d ds).1 nd) (uU d ds).2 bs
def Qs(F:F)(k:Bool->N->List N->List N->Bk)(b:Bool)(nd:N)(ds bs:List N):Bk:=dr F bs.length λr=>sp F λs=>k b (bx s nd (bs.take (r+1))) ds (bs.drop (r+1))
noncomputable def wl(F:F):Nat->Bool->N->List N->List N->Bk
 |0,b,nd,_,_=>rt b (aZ.nd F nd)
 |m+1,b,nd,ds,bs=>match ds with
  |[]=>match bs with
   |[]=>rt b (aZ.nd F nd)
   |x::r=>Qs F (wl F m) (HG (HG b (x::r)) (x::r)) nd [] (x::r)
  |d::ds=>match bs with
   |[]=>Qr F (wl F m) (HG b (d::ds)) nd d ds []
   |x::r=>dr F 2 λz=>match Z2 z 1 with
    |true=>Qr F (wl F m) (HG (HG (HG b (d::ds)) (x::r)) (d::ds)) nd d ds (x::r)
    |false=>Qs F (wl F m) (HG (HG (HG b (d::ds)) (x::r)) (d::ds)) nd (d::ds) (x::r)
section
variable{F:F}{T k:Nat}(hF:F.ok)(hk:1<=k)(hT:T<=9000)
include hF hk hT
theorem A5{m:Bool->N->List N->List N->Bk}(ih:∀{b nd ds bs},b=true->nd.w+wsum bs+wsum ds<=B->Gb (aZ.nd F) k T (λn=>n.w<=B) t (m b nd ds bs)){nd x:N}{ds r:List N}(hb:b=true)(h:nd.w+wsum (x::r)+wsum ds<=B):
  Gb (aZ.nd F) k T (λn=>n.w<=B) (t+1) (Qs F m b nd ds (x::r)):=
 gh hk hF hT (Zu _) λi _=>cD hk λs=>ih hb (zk (zV (zk (zV (acO s nd x (r.take i)) _) (zO ((Zb _ _ _).trans (congrArg (nd.w+·) (xc (i+1) (x::r)))))) _) h)
theorem A6{m:Bool->N->List N->List N->Bk}(ih:∀{b nd ds bs},b=true->nd.w+wsum bs+wsum ds<=B->Gb (aZ.nd F) k T (λn=>n.w<=B) t (m b nd ds bs)){nd d:N}{ds bs:List N}(hb:b=true)(h:nd.w+wsum bs+wsum (d::ds)<=B):
  Gb (aZ.nd F) k T (λn=>n.w<=B) t (Qr F m b nd d ds bs):=
 cD hk λs=>ih hb (zk (zO (by
  refine(?_:(uU d ds).1.w+1+nd.w+wsum bs+wsum (uU d ds).2=_);exact gL (A4 ..) (gR (Zb _ nd.w ..) (gR (yf _ (nd.w+wsum bs) ..) (gR (Zb ..) rfl))))) h)
theorem uV:∀{m:Nat} {b:Bool} {nd:N} {ds bs:List N},b=true->nd.w+wsum bs+wsum ds<=B->Gb (aZ.nd F) k T (λn=>n.w<=B) (2*m) (wl F m b nd ds bs)
 |0,b,nd,ds,bs,hb,h=>cL hb (zk (zu _ _) (zk (zu _ _) h))
 |m+1,b,nd,[],[],hb,h=>cL hb h
 |m+1,b,nd,[],x::r,hb,h=>(A5 hF hk hT uV (fP (fP hb)) h).up (zN _)
 |m+1,b,nd,d::ds,[],hb,h=>(A6 hF hk hT uV (fP hb) h).up (zu _ 2)
 |m+1,b,nd,d::ds,x::r,hb,h=>gh (t:=2*m+1) hk hF hT (zN _) λz _=>by
  cases hz:Z2 z 1 with
  |true=>exact(A6 hF hk hT uV (fP (fP (fP hb))) h).up (zN _)
  |false=>exact A5 hF hk hT uV (fP (fP (fP hb))) h
end
def wB:List N->Nat
 |[]=>2
 |l=>1+wsum l
def w0(F:F)(s:Int)(y:P3):Pl->Bk
 |.n=>dr F 2 λz=>match Z2 z 1 with
  |true=>sp F λu=>rt true (nd F (.b0 u (.pr s y)))
  |false=>rt true (nd F (.pr s y))
 |_=>rt true (nd F (.pr s y))
def wr(F:F)(s:Int)(y:P3)(w:Pl)(r:Nat):List N->Bk
 |[]=>w0 F s y w
 |x::l=>wl F 3 (HG true (x::l)) (.pr s y) ((x::l).take r) ((x::l).drop r)
theorem xe(h:H)(y:P3) as (hl:as.length<=3):Bl h.f 2 7 75 [.o 2,.d y.d,.d (.list (as.map N.d))] (λn=>n.w<=wB as):=by
 refine lH (b:=sp h.f λs=>dr h.f (as.length+1) λr=>wr h.f s y (h.ws.at y) r as) (λa l=>?_) λT hT=>cD (zm _) λs=>gh (zm _) h.l6 hT (Zu _) λr _=>?_
 ·obtain⟨c,o,rs,⟨p,q,f⟩,o1,tl⟩:=h
  match as,hl with
  |[],_=>cases y with
   |p=>cases p <;> kernel_rfl
   |q=>cases q <;> kernel_rfl
   |f=>cases f <;> kernel_rfl
  |[_],_=>kernel_rfl
  |[_,_],_=>kernel_rfl
  |[_,_,_],_=>kernel_rfl
 ·cases as with
  |nil=>
   cases h.ws.at y with
   |n=>
    refine gh (zm _) h.l6 hT (zN _) λz _=>?_;cases Z2 z 1 with
    |true=>exact cD (zm _) λu=>cL rfl (zm _)
    |false=>exact cL rfl (zN _)
   |_=>exact cL rfl (zN _)
  |cons x l=>exact uV (m:=3) h.l6 (zm _) hT (fP rfl) (zO ((Zb _ _ _).trans (congrArg (1+·) ((yf _ _).trans (xc r (x::l))))))
variable{told:N}
noncomputable def iA(i:Int):AV:=.d (.int i)
def Ex(h:H)(k t:Nat)(deep:Int)(B:Nat):Prop:=∀m:Bool,Bl h.f k t 76 [.o 2,iA (two m),iA deep] (λn=>n.w<=B)
def Dw(h:H)(k t:Nat)(deep:Int)(B:Nat):Prop:=∀y:P3,Bl h.f k t 77 [.o 2,.d y.d,iA deep] (λn=>n.w<=B)
theorem sI{n:N}{m:Bool}(h:n.lf m):n.w=0:=by cases n <;> cases m <;> first |rfl |exact h.elim
def gi(F:F)(m:Bool)(k:N->Bk):Bk:=sub F 74 [.o 2,iA (two m)] k
theorem cR{ro:α->Nat->Int->R (Fl×Env×G)}{F:F}{k T:Nat}{P:α->Prop}(hF:F.ok)(hk:2<=k)(hT:T<=9000){m:Bool}{b:N->Bk}(h:∀n,n.lf m->Gb ro k T P t (b n)):Gb ro k T P (1+t) (gi F m b):=jl hT ((Lz hF m).up hk (zm _) λ_ h=>h) h
section
variable(h:H)
theorem X8:Ex h 3 1 0 0:=λm=>lH (b:=gi h.f m λn=>rt true (nd h.f n)) (λa l=>by kernel_rfl) λT hT=>cR (t:=0) h.l6 (zm _) hT λn hn=>cL rfl (zO (sI hn))
def exB(m:Bool)(deep:Int):Bk:=dr h.f 5 λr=>match Z2 r 3 with
 |true=>gi h.f false λn=>sp h.f λs=>gi h.f true λn'=>rt true (nd h.f (.j6 s n n'))
 |false=>match Z2 r 4 with
  |true=>sub h.f 77 [.o 2,.d P3.f.d,iA deep] λn=>rt true (nd h.f n)
  |false=>gi h.f m λn=>rt true (nd h.f n)
theorem HH{k T:Nat}{deep:Int}(hk:2<=k)(hT:T<=9000)(ht:2<=t)(hB:1<=B)(hf:Dw h k t deep B) m:Gb (nd h.f) k T (λn=>n.w<=B) (t+1) (exB h m deep):=gh (Z0 hk) h.l6 hT (zw (zE _)) λr _=>by
 cases Z2 r 3 with
 |true=>exact(cR h.l6 hk hT λn hn=>cD (Z0 hk) λs=>cR (t:=0) h.l6 hk hT λn' JP=>cL rfl (by
   refine(?_:n.w+1+n'.w<=B);refine gR (sI hn ..) (gR (sI JP ..) ?_);exact hB)).up ht
 |false=>cases Z2 r 4 with
  |true=>exact jl hT (hf .f) λn hn=>cL (t:=0) rfl hn
  |false=>exact(cR (t:=0) h.l6 hk hT λn hn=>cL (n:=n) rfl (zk (zO (sI hn)) (zE _))).up (Z0 ht)
theorem X9{k:Nat}(hk:2<=k)(ht:2<=t)(hB:1<=B)(hf:Dw h k t 0 B):Ex h (k+1) (t+1) 1 B:=λm=>lH (λa l=>by kernel_rfl) λT hT=>HH h hk hT ht hB hf m
theorem aaa{k:Nat}(hk:2<=k)(ht:2<=t)(hB:1<=B)(hf:Dw h k t 1 B):Ex h (k+1) (t+1) 2 B:=λm=>lH (λa l=>by kernel_rfl) λT hT=>HH h hk hT ht hB hf m
noncomputable def daB(deep:Int)(k:List N->Bk):List Bool->List N->Bk
 |[],as=>k as
 |m::ms,as=>Qq h.f 10 λr=>Nb 676 (zD (.int r) (.int 9)) (sub h.f 76 [.o 2,iA (two !m),iA deep] λn=>daB deep k ms (as++[n])) (sub h.f 76 [.o 2,iA (two m),iA deep] λn=>daB deep k ms (as++[n]))
theorem uW n:∀l:List N,wsum (l++[n])=wsum l+(n.w+1)
 |[]=>(yu _).symm
 |x::l=>(congrArg (x.w+1+·) (uW n l)).trans (Zb _ _ _).symm
theorem ar1(t x u:Nat):t+(x+u)+1=x+(t+1)+u:=by rw[Nat.add_left_comm t x u,Zb x (t+u) 1,yt t u 1,Zb x (t+1) u]
theorem HI{ro:α->Nat->Int->R (Fl×Env×G)}{k T t0:Nat}{P:α->Prop}{deep:Int}(hk:1<=k)(hT:T<=9000)(he:Ex h k t deep B){b:List N->Bk}(hb:∀as,as.length<=3->wsum as<=3*(B+1)->Gb ro k T P t0 (b as)):
  ∀{ms:List Bool} {as:List N},as.length+ms.length<=3->wsum as<=as.length*(B+1)->Gb ro k T P (ms.length*(t+1)+t0) (daB h deep b ms as)
 |[],as,h1,h2=>(hb as h1 (zk h2 (YF _ h1))).up (Zf _ _)
 |m::ms,as,h1,h2=>by
  have go:∀m',Gb ro k T P (t+(ms.length*(t+1)+t0)) (sub h.f 76 [.o 2,iA (two m'),iA deep] λn=>daB h deep b ms (as++[n])):=λm'=>jl hT (he m') λn hn=>HI hk hT he hb
   (gR Zr (zk (zO (yt _ _ _)) h1))
   (by refine gR (uW ..) (gR Zr (gR List.length_singleton ?_));refine gR (Nat.add_mul ..) (gR (Nat.one_mul ..) ?_);exact yN h2 (zw hn))
  exact(kZ hk h.l6 hT (zw (zE _)) λr=>og (λ_=>go _) λ_=>go _).up (zO (by refine gR yh (gR (Nat.succ_mul ..) ?_);exact ar1 ..))
def dwB(y:P3)(deep:Int)(l:List Bool):Bk:=daB h deep (λas=>sub h.f 75 [.o 2,.d y.d,.d (.list (as.map N.d))] λn=>rt true (nd h.f n)) l []
def k7(y:P3)(deep:Int)(p:Pl):Bk:=Qq h.f 8 λr=>Nb 669 (zD (.int r) (.int 7)) (dwB h y deep (p.l++[false])) (Nb 671 (zD (.int r) (.int 6)) (dwB h y deep (p.l.drop 1)) (dwB h y deep p.l))
end
noncomputable def H.set(h:H)(y:P3)(p:Pl):H:=⟨h.cells,h.ok,h.res,match y with
 |.p=>⟨p,h.ws.q,h.ws.f⟩
 |.q=>⟨h.ws.p,p,h.ws.f⟩
 |.f=>⟨h.ws.p,h.ws.q,p⟩,h.o1,h.tl⟩
theorem H.jh(h:H)(y:P3):h.set y (h.ws.at y)=h:=by cases y <;> rfl
noncomputable def pP:List Pl:=[.n,.o false,.o true,.t false false,.t false true,.t true false,.t true true]
theorem bz{β:Type}{f g:α->β}{a:α}{l:List α}(h:l.map f=l.map g)(m:a∈l):f a=g a:=by
 induction m with
 |head=>exact(yy h).1
 |tail _ _ ih=>exact ih (yy h).2
theorem Qt:∀p:Pl,p∈pP:=λp=>by
 refine zy (i:=match p with |.n=>0 |.o a=>1+a.toNat |.t a b=>3+2*a.toNat+b.toNat) ?_;cases p with
 |n=>rfl
 |o a=>cases a <;> rfl
 |t a b=>cases a <;> cases b <;> rfl
theorem HJ{f g:P3->α}(h:[f .p,f .q,f .f]=[g .p,g .q,g .f]):∀y,f y=g y:=λy=>bz (l:=[.p,.q,.f]) h (zy (i:=match y with |.p=>0 |.q=>1 |.f=>2) (by cases y <;> rfl))
theorem k8{f:H->P3->Pl->Sp}{g:H->P3->Pl->Sp} h (e:[pP.map λp=>f (h.set .p p) .p p,pP.map λp=>f (h.set .q p) .q p,pP.map λp=>f (h.set .f p) .f p]=[pP.map λp=>g (h.set .p p) .p p,pP.map λp=>g (h.set .q p) .q p,pP.map λp=>g (h.set .f p) .f p]) y:f h y (h.ws.at y)=g h y (h.ws.at y):=by have:=bz (HJ (f:=λy=>pP.map λp=>f (h.set y p) y p) (g:=λy=>pP.map λp=>g (h.set y p) y p) e y) (Qt (h.ws.at y));rw[h.jh] at this;exact this
theorem Pl.len(p:Pl):p.l.length<=2:=match p with
 |.n=>zE _
 |.o _=>zN _
 |.t _ _=>zm _
theorem uX h {k t B:Nat} {deep:Int} (hk:2<=k) (he:Ex h k t deep B) (hw:∀y a l,walk L.tb 77 [.o 2,.d y.d,iA deep] (h.f.gn a l) (k7 h y deep (h.ws.at y) a l)=k7 h y deep (h.ws.at y) a l):Dw h (k+1) (3*(t+1)+8) deep (3*(B+1)+1):=λy=>
 lH (hw y) λT hT=>by
  have go:∀l:List Bool,l.length<=3->Gb (nd h.f) k T (λn=>n.w<=3*(B+1)+1) (3*(t+1)+7) (dwB h y deep l):=λl hl=>(HI h (t0:=7) (Z0 hk) hT he (λas h1 h2=>jl hT ((xe h y as h1).up hk (zm _) λn hn=>zk hn (by
   cases as with
   |nil=>exact zw (zk (zw (zE B)) (Ym _ (zw (zE _))))
   |cons x l=>exact zk (zO (yf _ _)) (zw h2))) λn hn=>cL (t:=0) rfl hn) (yu _▸hl) (zE _)).up (zV (YF _ hl) 7)
  have hl:=(h.ws.at y).len;exact kZ (Z0 hk) h.l6 hT (zw (zE _)) λr=>og (λ_=>go _ (gR Zr (zw hl))) λ_=>og (λ_=>go _ (gR List.length_drop (zk (ad7 _ _) (zQ hl)))) λ_=>go _ (zQ hl)
theorem Qu h:Dw h 4 14 0 4:=uX h (zN _) (X8 h) λy a l=>k8 (f:=λh y p=>walk L.tb 77 [.o 2,.d y.d,iA 0] (h.f.gn a l) (k7 h y 0 p a l)) (g:=λh y p=>k7 h y 0 p a l) h (by kernel_rfl) y
theorem xf h:Dw h 6 56 1 16:=uX h (by decide) (X9 h (by decide) (by decide) (by decide) (Qu h)) λy a l=>k8 (f:=λh y p=>walk L.tb 77 [.o 2,.d y.d,iA 1] (h.f.gn a l) (k7 h y 1 p a l)) (g:=λh y p=>k7 h y 1 p a l) h (by kernel_rfl) y
theorem HK(h:H):Ex h 7 57 2 16:=aaa h (by decide) (by decide) (by decide) (xf h)
def Rt(y:P3)(n:N):Pl->Prop
 |.n=>∃s,n=.pr s y
 |.o m=>mi λs u a=>aF (n=.b1 u (.pr s y) a) (N.lf a m)
 |.t m m'=>NN λs u a b=>aG (n=.b2 u (.pr s y) a b) (N.lf a m) (N.lf b m')
def ckT(l:List N):Bool:=sn true (qP (.tuple (l.map N.d)) (.tuple []))
theorem HL{l:List N}:ckT l=true:=bN rfl (uT (l:=l))
def rgB(h:H)(y:P3):Pl->Bk
 |.n=>sp h.f λs=>rt true (nd h.f (.pr s y))
 |.o m=>gi h.f m λa=>sp h.f λs=>sp h.f λu=>rt (ckT [a]) (nd h.f (.b1 u (.pr s y) a))
 |.t m m'=>gi h.f m λa=>gi h.f m' λb=>sp h.f λs=>sp h.f λu=>rt (ckT [a,b]) (nd h.f (.b2 u (.pr s y) a b))
theorem HM(h:H) y:Bl h.f 3 2 78 [.o 2,.d y.d] (λn=>Rt y n (h.ws.at y)):=
 lH (λa l=>k8 (f:=λh y p=>walk L.tb 78 [.o 2,.d y.d] (h.f.gn a l) (rgB h y p a l)) (g:=λh y p=>rgB h y p a l) h (by kernel_rfl) y) λT hT=>by
  have k1:1<=2:=by decide
  cases h.ws.at y with
  |n=>exact cD k1 λs=>cL (n:=N.pr s y) rfl ⟨s,rfl⟩
  |o m=>exact cR (t:=1) h.l6 (zm _) hT λa ha=>cD k1 λs=>cD k1 λu=>cL HL ⟨s,u,a,rfl,ha⟩
  |t m m'=>exact cR (t:=1) h.l6 (zm _) hT λa ha=>cR (t:=0) h.l6 (zm _) hT λb hb=>cD k1 λs=>cD k1 λu=>cL HL ⟨s,u,a,b,rfl,ha,hb⟩
inductive Pm where
 |n
 |o (s:Int) (a:N)
 |t (s:Int) (a:N) (u:Int) (b:N)
def pnm(y:P3)(k:Nat):D:=.str ((match y with
 |.p=>L.nm 19
 |.q=>L.nm 20
 |.f=>L.nm 17)++digits k)
def decl(y:P3)(k:Nat)(s:Int)(a:N):D:=.tuple [.int s,.bool false,.tuple [pnm y k],S 0,a.d]
def Pm.d(y:P3):Pm->D
 |.n=>.tuple []
 |.o s a=>.tuple [decl y 0 s a]
 |.t s a u b=>.tuple [decl y 0 s a,decl y 1 u b]
def Pm.ok:Pm->Pl->Prop
 |.n,.n=>True
 |.o _ a,.o m=>a.lf m
 |.t _ a _ b,.t m m'=>aF (a.lf m) (b.lf m')
 |_,_=>False
def pmR(h:H)(y:P3)(m:Pm):Nat->Int->R (Fl×Env×G):=λa l=>rv (m.d y) (h.f.gn a l)
def paB(h:H)(y:P3):Pl->Bk
 |.n=>rt true (pmR h y .n)
 |.o m=>sp h.f λs=>gi h.f m λa=>rt true (pmR h y (.o s a))
 |.t m m'=>sp h.f λs=>gi h.f m λa=>sp h.f λu=>gi h.f m' λb=>rt true (pmR h y (.t s a u b))
theorem Dg(h:H) y {a:Nat} {l:Int} (ha:a+2<=9000):mi λm a' l'=>aG (E 3 79 [.o 2,.d y.d] (h.f.gn a l) (.ok (.d (Pm.d y m),h.f.gn a' l'))) (m.ok (h.ws.at y)) (a'<=a+2):=by
 have g:Gb (pmR h y) 2 (a+2) (λm=>m.ok (h.ws.at y)) 2 (paB h y (h.ws.at y)):=by
  have k1:1<=2:=by decide
  cases h.ws.at y with
  |n=>exact cL rfl trivial
  |o m=>exact cD k1 λs=>cR (t:=1) h.l6 (zm _) ha λa ha=>cL rfl ha
  |t m m'=>exact cD k1 λs=>cR (t:=1) h.l6 (zm _) ha λa hm=>cD k1 λu=>cR (t:=0) h.l6 (zm _) ha λb hb=>cL rfl ⟨hm,hb⟩
 obtain⟨_,⟨m,a',l',rfl,p,q⟩,e⟩:=X4 (k8 (f:=λh y p=>walk L.tb 79 [.o 2,.d y.d] (h.f.gn a l) (paB h y p a l)) (g:=λh y p=>paB h y p a l) h (by kernel_rfl) y) (g _ a l (zm _));exact⟨m,a',l',e,p,q⟩
structure By where
 p:Option N
 q:Option N
 f:Option (Int×N)
noncomputable def l7(x:P3):Option Int->List (P3×Int)
 |none=>[]
 |some n=>[(x,n)]
def c3(a b c:Option Int):List (P3×Int):=l7 .p a++(l7 .q b++l7 .f c)
noncomputable def HN:Option N->List N
 |none=>[]
 |some n=>[n]
def By.aW(b:By):List (P3×Int):=c3 (b.p.map N.s) (b.q.map N.s) (b.f.map (·.2.s))
def By.cZ(b:By):List N:=HN b.p++(HN b.q++HN (b.f.map λx=>.un x.1 x.2))
def Qv(w:Ws)(y:P3)(o:Option N):Prop:=∀n,o=some n->Rt y n (w.at y)
def By.ok(w:Ws)(b:By):Prop:=aG (Qv w .p b.p) (Qv w .q b.q) (Qv w .f (b.f.map (·.2)))
def cd(c:P3×Int):D:=.tuple [c.1.d,.int c.2]
def A7:bW:=.dict [(S 19,.o 3),(S 20,.o 4),(S 17,.o 5)]
structure Cl where
 p:List (P3×Int)
 q:List (P3×Int)
 f:List (P3×Int)
noncomputable def Cl.at(c:Cl):P3->List (P3×Int)
 |.p=>c.p
 |.q=>c.q
 |.f=>c.f
noncomputable def Cl.set(c:Cl)(y:P3)(l:List (P3×Int)):Cl:=match y with
 |.p=>⟨l,c.q,c.f⟩
 |.q=>⟨c.p,l,c.f⟩
 |.f=>⟨c.p,c.q,l⟩
structure J where
 cells:List D
 ok:aF (cells.length<=63) (∀x∈cells,isInt x=true)
 res:Bool
 ws:Ws
def J.h(j:J)(c:Cl)(rest:G):H:=⟨j.cells,j.ok,j.res,j.ws,A7,.list (c.p.map cd)::.list (c.q.map cd)::.list (c.f.map cd)::rest⟩
def Qw(F:F)(k:N->Bk)(z:Xo)(n:N):Sp:=.cQ (.ok (.d n.d,F.gn z.a z.l)) (k n z.a z.l)
def LA(F:F)(x:P3)(k:N->Bk):Bk:=λa l=>.ask 78 [.o 2,.d x.d] (F.gn a l)
 (.pO (.fn λz=>Qw F k z (.pr z.s x)) (.pO (.fn λz=>Qw F k z (.b1 z.t (.pr z.s x) z.n)) (.fn λz=>Qw F k z (.b2 z.t (.pr z.s x) z.n z.m))))
section
variable{ro:α->Nat->Int->R (Fl×Env×G)}{k T:Nat}{P:α->Prop}(hk:3<=k)(hT:T<=9000)
include hk hT
theorem oh{h:H}{x:P3}{b:N->Bk}(hb:∀n,Rt x n (h.ws.at x)->Gb ro k T P t (b n)):Gb ro k T P (t+2) (LA h.f x b):=λ_ a l ha=>by
 have ha:a+2+t<=T:=zk (zO (gR (Zb ..) (gR (yf 2 t ..) rfl))) ha;obtain⟨n,a',l',e,q,h2⟩:=HM h x a l (zk (zu _ _) (zk ha hT));have g:=hb n q (E k 78 [.o 2,.d x.d] (h.f.gn a l)) a' l' (zk (zV h2 t) ha);have e:=e.up hk;have q:=q;cases hw:h.ws.at x with
 |n=>
  replace q:=hw▸q;obtain⟨s,rfl⟩:=q;exact Or.inl ⟨⟨.cH 0,.cH 0,.cH 0,s,0,a',l',.none,[],[]⟩,e,g⟩
 |o m=>
  replace q:=hw▸q;obtain⟨s,u,y,rfl,_⟩:=q;exact Or.inr (Or.inl ⟨⟨y,.cH 0,.cH 0,s,u,a',l',.none,[],[]⟩,e,g⟩)
 |t m m'=>
  rw[hw] at q;obtain⟨s,u,y,z,rfl,_⟩:=q;exact Or.inr (Or.inr ⟨⟨y,z,.cH 0,s,u,a',l',.none,[],[]⟩,e,g⟩)
end
def stB(h:H)(x:P3)(k:Option N->Bk):Bk:=Qq h.f 5 λr=>Nb 690 (zD (.int r) (.int 4)) (LA h.f x λn=>k (some n)) (k none)
def byR(j:J)(c:Cl)(rest:G)(y:P3)(b:By):Nat->Int->R (Fl×Env×G):=λa l=>rv (.tuple (b.cZ.map N.d)) ((j.h (c.set y b.aW) rest).f.gn a l)
def bdB(j:J)(c:Cl)(rest:G)(y:P3):Bk:=stB (j.h (c.set y []) rest) .p λp=>stB (j.h (c.set y (By.aW ⟨p,none,none⟩)) rest) .q λq=>Qq (j.h (c.set y (By.aW ⟨p,q,none⟩)) rest).f 5 λr=>
 Nb 690 (zD (.int r) (.int 4)) (LA (j.h (c.set y (By.aW ⟨p,q,none⟩)) rest).f .f λn=>sp (j.h (c.set y (By.aW ⟨p,q,some (0,n)⟩)) rest).f λu=>rt true (byR j c rest y ⟨p,q,some (u,n)⟩)) (rt true (byR j c rest y ⟨p,q,none⟩))
theorem Nc{ro:α->Nat->Int->R (Fl×Env×G)}{k T:Nat}{P:α->Prop}(hk:3<=k)(hT:T<=9000){h:H}{x:P3}{b:Option N->Bk}(hb:∀o,Qv h.ws x o->Gb ro k T P t (b o)):Gb ro k T P (t+3) (stB h x b):=
 kZ (zk (zw (zE _)) hk) h.l6 hT (zw (zE _)) λr=>og (λ_=>oh hk hT λn hn=>hb _ λm e=>zh e▸hn) λ_=>(hb _ λ_ e=>ns e).up (zu _ _)
theorem LB(j:J)(c:Cl) rest y (hy:y=.p\/y=.q) {a:Nat} {l:Int} (ha:a+9<=9000):mi λb a' l'=>aG (E 4 80 [.o 2,.d y.d] ((j.h (c.set y []) rest).f.gn a l) (.ok (.d (.tuple ((By.cZ b).map N.d)),(j.h (c.set y (By.aW b)) rest).f.gn a' l'))) (b.ok j.ws) (a'<=a+9):=by
 have g:Gb (byR j c rest y) 3 (a+9) (λb=>b.ok j.ws) 9 (bdB j c rest y):=Nc (zm _) ha λp hp=>Nc (zm _) ha λq hq=>kZ (by decide) (H.l6 _) ha (zw (zE _)) λr=>og
  (λ_=>oh (zm _) ha λn hn=>cD (by decide) λu=>cL rfl ⟨hp,hq,λm e=>zh e▸hn⟩)
  λ_=>cL rfl ⟨hp,hq,λ_ e=>ns e⟩
 obtain⟨_,⟨b,a',l',rfl,p,q⟩,e⟩:=X4 (by rcases hy with rfl |rfl <;> kernel_rfl) (g _ a l (zm _));exact⟨b,a',l',e,p,q⟩
variable{x y:P3}
noncomputable def _root_.Lw.aK.fst:Nat->aK->aK
 |0,_=>.nil
 |_+1,.nil=>.nil
 |n+1,.cons s r=>.cons s (r.fst n)
noncomputable def _root_.Lw.aK.off:Nat->aK->aK
 |0,r=>r
 |_+1,.nil=>.nil
 |n+1,.cons _ r=>r.off n
noncomputable def LC(s1 s2 s3:Slot)(sc:D):Env:=[.v (.d sc),s1,s2,s3,.un,.un,.un,.un,.un,.un,.un,.un]
structure Sc where
 j:J
 s1:Int
 sp:Int
 sq:Int
 sf:Int
 sx:Int
 mp:Pm
 mq:Pm
 mf:Pm
 bp:By
 bq:By
 told:N
 body:N
 cf:List (P3×Int)
 ns:List N
def iy(s:Int):D:=.tuple [S 46,.int s,.tuple [S 11,S 12],.bool false,S 0,S 0,.tuple [],.tuple [],.tuple []]
def dM(y:P3)(s:Int)(m b:D):D:=.tuple [S 68,.int s,y.d,m,b]
def LD(s:Int)(m:D)(t b:N):D:=.tuple [S 54,.int s,P3.f.d,m,S 0,t.d,b.d]
def lI(s:Int)(ns:List N):D:=.tuple [S 102,.int s,S 0,.tuple (ns.map N.d)]
def iR(l:List N):D:=.tuple (l.map N.d)
def Sc.pre(x:Sc):List D:=[iy x.s1,dM .p x.sp (x.mp.d .p) (iR x.bp.cZ),dM .q x.sq (x.mq.d .q) (iR x.bq.cZ),LD x.sf (x.mf.d .f) x.told x.body]
def Sc.items(x:Sc):List D:=x.pre++[lI x.sx x.ns]
def Sc.cl(x:Sc):Cl:=⟨x.bp.aW,x.bq.aW,x.cf⟩
def Sc.g(x:Sc)(rest:G)(a:Nat)(l:Int):G:=(x.j.h x.cl (.list x.items::rest)).f.gn a l
def Fb(j:J)(b:N)(cf:List (P3×Int)):Prop:=aF (N.lf b j.res) (cf=[])\/aF (Rt .f b j.ws.f) (cf=[(.f,b.s)])
def Sc.okp(x:Sc):Prop:=IM (x.mp.ok x.j.ws.p) (x.mq.ok x.j.ws.q) (x.mf.ok x.j.ws.f) (x.bp.ok x.j.ws) (x.bq.ok x.j.ws) (N.lf x.told x.j.res) (Fb x.j x.body x.cf)
def Sc.ok(x:Sc):Prop:=aG x.okp (x.ns.length<=2) (∀n∈x.ns,n.w<=17)
section
variable(j:J)(cp cq cf cy:List D)
def hD(rest:G):H:=⟨j.cells,j.ok,j.res,j.ws,A7,.list cp::.list cq::.list cf::.list cy::rest⟩
def Qx(ns:List N):Bk:=sp (hD j cp cq cf cy []).f λs=>λa l=>.ask 86 [.o 6] ((hD j cp cq cf (cy++[lI s ns]) []).f.gn a l) (.fn λx=>.cQ (.ok (.d (.int x.s),(hD j cp cq cf (cy++[lI s ns]) x.g).f.gn a l))
 (.ask 85 [.o 2,.d (.list (ns.map N.d))] ((hD j cp cq cf (cy++[lI s ns]) x.g).f.gn a l) (.cQ (.ok (.d (.int x.s),(hD j cp cq cf (cy++[lI s ns]) x.g).f.gn a l))
  (.ret true (rv (.bool (zD (.int x.s) (.int x.s))) ((hD j cp cq cf (cy++[lI s ns]) x.g).f.gn a l))))))
def LF(k:List N->Bk)(ns:List N):Bk:=Qq (hD j cp cq cf cy []).f 3 λr=>Nb 780 (zD (.int r) (.int 2))
 (sub (hD j cp cq cf cy []).f 76 [.o 2,iA 1,iA 2] λn=>sp (hD j cp cq cf cy []).f λs=>k (ns++[.un s n]))
 (dr (hD j cp cq cf cy []).f 2 λr=>match Z2 r 0 with
  |true=>sub (hD j cp cq cf cy []).f 77 [.o 2,.d P3.p.d,iA 1] λn=>k (ns++[n])
  |false=>sub (hD j cp cq cf cy []).f 77 [.o 2,.d P3.q.d,iA 1] λn=>k (ns++[n]))
def Nd:Bk:=dr (hD j cp cq cf cy []).f 2 λr=>match Z2 r 0 with
 |true=>LF j cp cq cf cy (Qx j cp cq cf cy) []
 |false=>LF j cp cq cf cy (LF j cp cq cf cy (Qx j cp cq cf cy)) []
end
section
variable(j:J)
def HO(F:F)(y:P3)(k:D->Bk):Bk:=λa l=>.ask 79 [.o 2,.d y.d] (F.gn a l) (.fn λx=>.cQ (.ok (.d x.d,F.gn x.a x.l)) (k x.d x.a x.l))
def Qy(cp cq cf cy:List D)(t b:N):Bk:=sp (hD j cp cq cf cy []).f λs=>HO (hD j cp cq cf cy []).f .f λm=>Nd j cp cq cf (cy++[LD s m t b])
def l8(cp cq cy:List D):Bk:=gi (hD j cp cq [] cy []).f j.res λt=>gi (hD j cp cq [] cy []).f j.res λb=>Qq (hD j cp cq [] cy []).f 5 λr=>Nb 773 (zD (.int r) (.int 4))
 (LA (hD j cp cq [] cy []).f .f λn=>Qy j cp cq [cd (.f,n.s)] cy t n) (Qy j cp cq [] cy t b)
def HP(cp cy:List D)(y:P3)(k:List D->List D->Bk):Bk:=sp (hD j cp [] [] cy []).f λs=>HO (hD j cp [] [] cy []).f y λm=>λa l=>
 .ask 80 [.o 2,.d y.d] ((hD j cp [] [] cy []).f.gn a l) (.fn λx=>.cQ (.ok (.d x.d,(match y with
  |.p=>hD j x.r [] [] cy []
  |_=>hD j cp x.r [] cy []).f.gn x.a x.l)) (k x.r (cy++[dM y s m x.d]) x.a x.l))
def HQ:Bk:=sp (j.h ⟨[],[],[]⟩ []).f λs=>HP j [] [iy s] .p λcp cy=>HP j cp cy .q λcq cy=>l8 j cp cq cy
end
def aab(sc us:D):Env:=LC (.v (.d us)) (.v (.o 2)) (.v (.d (S 17))) sc
theorem Dh j (sc us:D) a l:(aY L.tb (oR.off 4) (aab sc us) ((j.h ⟨[],[],[]⟩ []).f.gn a l)).left fin true (HQ j a l)=HQ j a l:=by kernel_rfl
theorem gx t:zD (.int t) (.int t)=true:=by simp only[zD,beq_self_eq_true] <;> rfl
def Qz:Prop:=∀x:Sc,x.ok->∀(a:Nat) (l:Int),c8 λ(t:Int) (rest:G)=>aF (E 150 86 [.o 6] (x.g [] a l) (.ok (.d (.int t),x.g rest a l))) (E 150 85 [.o 2,.d (.list (x.ns.map N.d))] (x.g rest a l) (.ok (.d (.int t),x.g rest a l)))
def roT(x:G)(_:Nat)(_:Int):R (Fl×Env×G):=rv (.bool true) x
abbrev GT(T:Nat):Nat->Bk->Prop:=Gb roT 150 T λ_=>True
noncomputable def _root_.Lw.N.xd(g:G)(t:Int)(a:Nat)(l:Int)(d:D)(r:List D):Xo:=⟨.cH 0,.cH 0,.cH 0,t,0,a,l,d,r,g⟩
section
variable{T:Nat}(hT:T<=9000)
theorem HR(key:Qz){x:Sc}{ns:List N}(h:x.okp)(h2:ns.length<=2)(h3:∀n∈ns,n.w<=17):GT T t (Qx x.j (x.bp.aW.map cd) (x.bq.aW.map cd) (x.cf.map cd) x.pre ns):=cD (zw (zE _)) λs Z a l ha=>by
 obtain⟨t,rest,e1,e2⟩:=key {x with sx:=s,ns:=ns} ⟨h,h2,h3⟩ a l;exact⟨N.xd rest t 0 0 .none [],e1,e2,rfl,_,a,l,congrArg (λb=>rv (.bool b) _) (gx t),trivial,zk (zu _ _) ha⟩
include hT
theorem xg{j:J}{cp cq cf cy:List D}{k:List N->Bk}{ns:List N}(h:∀n,n.w<=17->GT T t (k (ns++[n]))):GT T (57+t+1) (LF j cp cq cf cy k ns):=kZ (by decide) (H.l6 (hD j cp cq cf cy [])) hT (zw (zE _)) λr=>og
 (λ_=>jl hT ((HK (hD j cp cq cf cy []) false).up (by decide) (zm _) λ_ h=>h) λn hn=>cD (by decide) λs=>h _ (zw hn))
 λ_=>(gh (by decide) (H.l6 (hD j cp cq cf cy [])) hT (zN _) λr _=>by
  cases Z2 r 0 with
  |true=>exact jl hT ((xf (hD j cp cq cf cy []) .p).up (by decide) (zm _) λ_ h=>h) λn hn=>h _ (zQ hn)
  |false=>exact jl hT ((xf (hD j cp cq cf cy []) .q).up (by decide) (zm _) λ_ h=>h) λn hn=>h _ (zQ hn)).up (zO (yt 56 t 1))
theorem LG(key:Qz){x:Sc}(h:x.okp):GT T 117 (Nd x.j (x.bp.aW.map cd) (x.bq.aW.map cd) (x.cf.map cd) x.pre):=gh (zw (zE _)) (H.l6 (hD x.j _ _ _ _ [])) hT (zN _) λr _=>by
 cases Z2 r 0 with
 |true=>exact(xg (t:=0) hT λn hn=>HR (ns:=[n]) key h (zN 1) λm hm=>zX.mp hm▸hn).up (by decide)
 |false=>exact xg hT λn hn=>xg (t:=0) hT λn' JP=>HR (ns:=[n]++[n']) key h (zm 2) λm hm=>(Zi.mp hm).elim (λe=>zX.mp e▸hn) λe=>zX.mp e▸JP
theorem HS{ro:α->Nat->Int->R (Fl×Env×G)}{P:α->Prop}{h:H}{k:D->Bk}(hk:∀m:Pm,m.ok (h.ws.at y)->Gb ro 150 T P t (k (m.d y))):Gb ro 150 T P (2+t) (HO h.f y k):=λ_ a l ha=>by
 have ha:=Zb a 2 t▸ha;obtain⟨m,a',l',e,p,q⟩:=Dg h y (zk (zu _ _) (zk ha hT));exact⟨N.xd [] 0 a' l' (m.d y) [],e.up (by decide),hk m p _ _ _ (zk (zV q t) ha)⟩
theorem HT(key:Qz){x:Sc}(h:∀m s,m.ok x.j.ws.f->Sc.okp {x with mf:=m,sf:=s}):GT T 119 (Qy x.j (x.bp.aW.map cd) (x.bq.aW.map cd) (x.cf.map cd) [iy x.s1,dM .p x.sp (x.mp.d .p) (iR x.bp.cZ),dM .q x.sq (x.mq.d .q) (iR x.bq.cZ)] x.told x.body):=
 cD (zw (zE _)) λs=>HS (t:=117) hT λm hm=>LG hT key (h m s hm)
theorem Di(key:Qz){x:Sc}(h:∀t b cf m s,m.ok x.j.ws.f->N.lf t x.j.res->Fb x.j b cf->Sc.okp {x with mf:=m,sf:=s,told:=t,body:=b,cf:=cf}):GT T 124 (l8 x.j (x.bp.aW.map cd) (x.bq.aW.map cd) [iy x.s1,dM .p x.sp (x.mp.d .p) (iR x.bp.cZ),dM .q x.sq (x.mq.d .q) (iR x.bq.cZ)]):=
 cR (t:=123) (H.l6 (hD x.j _ _ _ _ [])) (by decide) hT λt ht=>cR (t:=122) (H.l6 (hD x.j _ _ _ _ [])) (by decide) hT λb hb=>kZ (zw (zE _)) (H.l6 (hD x.j _ _ _ _ [])) hT (zw (zE _)) λr=>og
  (λ_=>oh (by decide) hT λn hn=>HT hT key (x:={x with told:=t,body:=n,cf:=[(.f,n.s)]}) λm s hm=>h t n _ m s hm ht (.inr ⟨hn,rfl⟩))
  λ_=>(HT hT key (x:={x with told:=t,body:=b,cf:=[]}) λm s hm=>h t b _ m s hm ht (.inl ⟨hb,rfl⟩)).up (by decide)
theorem Nf{ro:α->Nat->Int->R (Fl×Env×G)}{P:α->Prop}{j:J}{c:Cl}{rest:G}(hy:y=.p\/y=.q){h0:H}{f:List D->H}(e0:h0=j.h (c.set y []) rest)(hf:∀b:By,f (b.aW.map cd)=j.h (c.set y b.aW) rest){k:D->List D->Bk}
  (hk:∀b:By,b.ok j.ws->Gb ro 150 T P t (k (iR b.cZ) (b.aW.map cd))):Gb ro 150 T P (9+t) (λa l=>.ask 80 [.o 2,.d y.d] (h0.f.gn a l) (.fn λx=>.cQ (.ok (.d x.d,(f x.r).f.gn x.a x.l)) (k x.d x.r x.a x.l))):=λ_ a l ha=>by
 have ha:=Zb a 9 t▸ha;obtain⟨b,a',l',e,p,q⟩:=LB j c rest y hy (zk (zu _ _) (zk ha hT));rw[←e0,←hf] at e;exact⟨N.xd [] 0 a' l' (iR b.cZ) (b.aW.map cd),e.up (by decide),hk b p _ _ _ (zk (zV q t) ha)⟩
theorem LH(key:Qz) j:GT T 146 (HQ j):=
 cD (by decide) λs1=>cD (by decide) λsp=>HS (t:=144) hT λmp hmp=>Nf (t:=135) (c:=⟨[],[],[]⟩) (f:=λr=>hD j r [] [] [iy s1] [])
  (k:=λd r=>HP j r [iy s1,dM .p sp (mp.d .p) d] .q λcq cy=>l8 j r cq cy) hT (.inl rfl) rfl (λ_=>rfl) λbp hbp=>
 cD (by decide) λsq=>HS (t:=133) hT λmq hmq=>Nf (c:=⟨bp.aW,[],[]⟩)
  (f:=λr=>hD j (bp.aW.map cd) r [] [iy s1,dM .p sp (mp.d .p) (iR bp.cZ)] []) (k:=λd r=>l8 j (bp.aW.map cd) r [iy s1,dM .p sp (mp.d .p) (iR bp.cZ),dM .q sq (mq.d .q) d]) hT (.inr rfl) rfl (λ_=>rfl) λbq hbq=>
 Di hT key (x:=⟨j,s1,sp,sq,0,0,mp,mq,.n,bp,bq,.cH 0,.cH 0,[],[]⟩) λt b cf m s hm ht hb=>⟨hmp,hmq,hm,hbp,hbq,ht,hb⟩
end
section
variable(c:List D)
noncomputable def fW(o0 o1:List (D×AV))(tl:G):F:=⟨c,none,.dict o0,.dict o1,tl⟩
def wtB(F:F)(k:Pl->Bk):Bk:=dr F 3 λn=>match n with
 |0=>k .n
 |1=>dr F 2 λr=>k (.o (Z2 r 1))
 |_=>dr F 2 λr=>dr F 2 λr'=>k (.t (Z2 r 1) (Z2 r' 1))
def wnB(ro:Ws->Bool->Nat->Int->R (Fl×Env×G)):Bk:=wtB (fW c [] [] []) λp=>wtB (fW c [(S 19,.d p.d)] [(S 19,.o 3)] [.list []]) λq=>wtB (fW c [(S 19,.d p.d),(S 20,.d q.d)] [(S 19,.o 3),(S 20,.o 4)] [.list [],.list []]) λf=>
 dr ⟨c,none,wd ⟨p,q,f⟩,A7,[.list [],.list [],.list []]⟩ 2 λr=>rt true (ro ⟨p,q,f⟩ (Z2 r 1))
end
structure Ce where
 c:List D
 ok:aF (c.length<=63) (∀x∈c,isInt x=true)
def roW(c:Ce)(sc us:D)(x:Ws×Bool)(a:Nat)(l:Int):R (Fl×Env×G):=.ok (.gV,aab sc us,(J.h ⟨c.c,c.ok,x.2,x.1⟩ ⟨[],[],[]⟩ []).f.gn a l)
def QC(sc us:D):Env:=LC (.v (.d us)) (.v (.o 2)) .un sc
theorem xh(c:Ce)(sc us:D)(a:Nat)(l:Int):(aY L.tb (aK.fst 2 (oR.off 2)) (QC sc us) ((fW c.c [] [] []).gn a l)).left id true (wnB c.c (λw b=>roW c sc us (w,b)) a l)=wnB c.c (λw b=>roW c sc us (w,b)) a l:=by kernel_rfl
theorem HU{ro:α->Nat->Int->R (Fl×Env×G)}{P:α->Prop}{T:Nat}(hT:T<=9000){F:F}(hF:F.ok){k:Pl->Bk}(h:∀p,Gb ro 150 T P t (k p)):Gb ro 150 T P (t+3) (wtB F k):=gh (t:=t+2) (by decide) hF hT (zw (zE _)) λn _=>match n with
 |0=>(h _).up (zu _ _)
 |1=>(gh (by decide) hF hT (by decide) λr _=>h _).up (zN _)
 |_+2=>gh (t:=t+1) (by decide) hF hT (by decide) λr _=>gh (by decide) hF hT (by decide) λr' _=>h _
theorem Ce.f(c:Ce){F:F}(h:F.cells=c.c):F.ok:=by obtain⟨_,_,_,_,_⟩:=F;subst h;exact c.ok
theorem HV(c:Ce)(sc us:D):Gb (roW c sc us) 150 10 (λ_=>True) 10 (wnB c.c (λw b=>roW c sc us (w,b))):=
 HU (t:=7) (by decide) (c.f rfl) λp=>HU (t:=4) (by decide) (c.f rfl) λq=>HU (t:=1) (by decide) (c.f rfl) λf=>gh (t:=0) (zw (zE _)) (c.f rfl) (by decide) (zN _) λr _=>cL (n:=((⟨p,q,f⟩,Z2 r 1):Ws×Bool)) rfl trivial
theorem HW(key:Qz)(c:Ce)(sc us:D):Tr L.tb 150 (oR.off 2) (QC sc us) ((fW c.c [] [] []).gn 0 0):=
 Na (a:=aK.fst 2 (oR.off 2)) (b:=oR.off 4) (Po:=λo=>mi λx a' l'=>aG (o=roW c sc us x a' l') True (a'<=10)) (xh c sc us 0 0)
  (HV c sc us nF 0 0 (zm _))
  λo ⟨x,a,l,e,_,ha⟩=>⟨_,_,e,mI (Dh ⟨c.c,c.ok,x.2,x.1⟩ sc us a l) (LH (T:=a+146) (zk (zV ha 146) (by decide)) key _ nF a l (zm _)) λo ⟨g,_,_,e,_,_⟩=>⟨g,e⟩⟩
noncomputable def usl:List D:=[.int 1,.int 0,.int 0,.int 0,.int 0,.int 0,.int 0,.int 0,.int 0,.int 0,.int 0,.int 0,.int 0,.int 0,.int 0,.int 0,.int 0,.int 0,.int 7,.int 0,.int 0,.int 0,.int 0,.int 0,.int 0,.int 0,.int 1]
def QD(l c:List D):R (Fl×Env×G):=.ok (.gV,QC (.list l) (.list usl),(fW c [] [] []).gn 0 0)
def aac(l:List D):Sp:=.br 764 (decide ((0:Int)<(l.length:Int)))
 (.ret (sn (sn (sn true (decide (l.length<=lim))) (decide (l.length<=lim))) (decide ((cut none (some 63) l).length<=lim))) (QD l (cut none (some 63) l)))
 (.ret (sn true (decide (l.length<=lim))) (QD l usl))
theorem HX(l:List D):(aY L.tb (aK.fst 2 oR) (LC .un .un .un (.list l)) []).left id true (aac l)=aac l:=by kernel_rfl
theorem QH(key:Qz)(xs:List Int)(hx:xs.length<=63):∃n g',n<=200/\aC L.tb n eE [.d (.list (xs.map .int))] []=.ok (.d (.bool true),g'):=by
 have hl:(xs.map Yn).length<=63:=gR (zA ..) hx;have hi:∀x∈xs.map Yn,isInt x=true:=λx h=>by refine ze (zH.mp h) λi rX=>(zg (λ_ oZ=>?_) rX);exact gL oZ rfl
 generalize xs.map Yn=l at hl hi;have h1:decide (l.length<=lim)=true:=dt (zk hl (by decide));have hc:(cut none (some 63) l).length<=l.length:=adC _ _;have t:Tr L.tb 150 oR (LC .un .un .un (.list l)) []:=Na (a:=aK.fst 2 oR) (b:=oR.off 2) (Z:=nF) (Po:=λo=>∃c:Ce,o=QD l c.c) (HX l)
  ⟨λ_=>⟨bN (bN (bN rfl h1) h1) (dt (zk hc (zk hl (by decide)))),⟨_,zk hc hl,λx h=>hi x (YE h)⟩,rfl⟩,λ_=>⟨bN rfl h1,⟨usl,by decide,zC.mp (rfl:usl.all isInt=true)⟩,rfl⟩⟩
  λo ⟨c,e⟩=>⟨_,_,e,HW key c _ _⟩
 exact ze t λg h=>⟨151,g,by decide,h 150 (zm _)⟩
abbrev Sq:=Option (P3×List N)
def QJ(x:P3)(as:List D):D:=.tuple [x.d,.tuple as]
def uY:Sq->D
 |none=>.none
 |some q=>QJ q.1 (q.2.map N.d)
noncomputable def tk(b:Bool)(x:P3)(as:List N):Sq:=match b with
 |true=>some (x,as)
 |false=>none
def Dj(w:Ws)(bs:List N):Sq->Sq
 |none=>none
 |some q=>tk (decide (bs.length+q.2.length<=(w.at q.1).l.length)) q.1 (q.2++bs)
def stL(w:Ws)(a:N):Sq->Sq
 |none=>none
 |some q=>tk (decide (q.2.length<(w.at q.1).l.length)) q.1 (a::q.2)
noncomputable def _root_.Lw.N.st(w:Ws):N->Sq
 |.pr _ x=>some (x,[])
 |.j6 _ a b=>stL w a (b.st w)
 |.b0 _ a=>Dj w [] (a.st w)
 |.b1 _ a b=>Dj w [b] (a.st w)
 |.b2 _ a b c=>Dj w [b,c] (a.st w)
 |.b3 _ a b c d=>Dj w [b,c,d] (a.st w)
 |_=>none
def Ln(w:Ws)(m:Nat)(o:Sq):Prop:=∀q,o=some q->aF (q.2.length<=(w.at q.1).l.length) (wsum q.2+1<=m)
theorem Ng{w:Ws}{m:Nat}{as:List N}(h:b=true->aF (as.length<=(w.at x).l.length) (wsum as+1<=m)):Ln w m (tk b x as):=λq e=>by
 cases b with
 |true=>exact zh e▸h rfl
 |false=>exact ns e
theorem HY:∀l r:List N,wsum (l++r)=wsum l+wsum r
 |[],_=>(yu _).symm
 |x::l,r=>(congrArg (x.w+1+·) (HY l r)).trans (Zb _ _ _).symm
theorem sJ{w:Ws}{o:Sq}{m m':Nat}{bs:List N}(h:Ln w m o)(hm:m+wsum bs<=m'):Ln w m' (Dj w bs o):=by
 cases o with
 |none=>exact λ_ e=>ns e
 |some p=>exact Ng λe=>⟨by refine gR (Zr ..) (gR (yf ..) ?_);exact of_decide_eq_true e,by
   refine gR (HY ..) (gR (yt ..) ?_);exact zk (zV (h _ rfl).2 _) hm⟩
theorem QK{w:Ws}{o:Sq}{m m':Nat}{a:N}(h:Ln w m o)(hm:a.w+1+m<=m'):Ln w m' (stL w a o):=by
 cases o with
 |none=>exact λ_ e=>ns e
 |some p=>exact Ng λe=>⟨of_decide_eq_true e,zk (zG (h _ rfl).2 (a.w+1)) hm⟩
theorem qK{w:Ws}{n:N}:Ln w n.w (n.st w):=by
 induction n with
 |pr s x=>exact λq e=>zh e▸⟨zE _,zm _⟩
 |j6 s a b _ h=>exact QK h (zm _)
 |b0 s a h=>exact sJ h (zN _)
 |b1 s a b h=>exact sJ h (zm _)
 |b2 s a b c h=>exact sJ h (zm _)
 |b3 s a b c d h=>exact sJ h (zm _)
 |_=>exact λq e=>ns e
theorem HZ{P:List α->Prop}(h0:P [])(h1:∀a,P [a])(h2:∀a b,P [a,b]):∀l:List α,l.length<=2->P l
 |[],_=>h0
 |[a],_=>h1 a
 |[a,b],_=>h2 a b
 |_::_::_::_,h=>absurd (Za (Za h)) (Z6 _)
def Dk(f:Nat)(vs:List AV)(g:G)(d r:D):Sp:=.ask f vs g (.cQ (.ok (.d d,g)) (.ret true (rv r g)))
section
variable(h:H)(a:Nat)(l:Int)
def stW(n:N)(m:N)(o r:Sq):Prop:=walk L.tb 81 [.o 2,.d n.d] (h.f.gn a l) (Dk 81 [.o 2,.d m.d] (h.f.gn a l) (uY o) (uY r))=Dk 81 [.o 2,.d m.d] (h.f.gn a l) (uY o) (uY r)
theorem Nh{k:Nat}{n m:N}{o r:Sq}(e:E k 81 [.o 2,.d m.d] (h.f.gn a l) (.ok (.d (uY o),h.f.gn a l)))(w:stW h a l n m o r):E (k+1) 81 [.o 2,.d n.d] (h.f.gn a l) (.ok (.d (uY r),h.f.gn a l)):=go w ⟨e,rfl,rfl⟩
abbrev stF(h:H)(n m:N)(f:Ws->Sq->Sq)(as:List N)(y:P3):Sp:=walk L.tb 81 [.o 2,.d n.d] (h.f.gn a l) (Dk 81 [.o 2,.d m.d] (h.f.gn a l) (uY (some (y,as))) (uY (f h.ws (some (y,as)))))
abbrev stG(h:H)(m:N)(f:Ws->Sq->Sq)(as:List N)(y:P3):Sp:=Dk 81 [.o 2,.d m.d] (h.f.gn a l) (uY (some (y,as))) (uY (f h.ws (some (y,as))))
abbrev stE(n m:N)(f:Ws->Sq->Sq)(as:List N):Prop:=[pP.map λp=>stF a l (h.set .p p) n m f as .p,pP.map λp=>stF a l (h.set .q p) n m f as .q,pP.map λp=>stF a l (h.set .f p) n m f as .f]=[pP.map λp=>stG a l (h.set .p p) m f as .p,pP.map λp=>stG a l (h.set .q p) m f as .q,pP.map λp=>stG a l (h.set .f p) m f as .f]
theorem oi{n m:N}{f:Ws->Sq->Sq}(hm:m.w+1<=n.w)(e:E (m.w+1) 81 [.o 2,.d m.d] (h.f.gn a l) (.ok (.d (uY (m.st h.ws)),h.f.gn a l)))(h0:walk L.tb 81 [.o 2,.d n.d] (h.f.gn a l) (Dk 81 [.o 2,.d m.d] (h.f.gn a l) (uY none) (uY (f h.ws none)))=Dk 81 [.o 2,.d m.d] (h.f.gn a l) (uY none) (uY (f h.ws none)))
  (k0:stE h a l n m f []) (k1:∀x,stE h a l n m f [x]) (k2:∀x y,stE h a l n m f [x,y]):E (n.w+1) 81 [.o 2,.d n.d] (h.f.gn a l) (.ok (.d (uY (f h.ws (m.st h.ws))),h.f.gn a l)):=by
 refine(?_:E (m.w+1+1) _ _ _ _).up (zw hm);cases hq:m.st h.ws with
 |none=>
  replace e:=hq▸e;exact Nh h a l e h0
 |some q=>
  rw[hq] at e;exact Nh h a l e (HZ (P:=λas=>stE h a l n m f as) k0 k1 k2 q.2 (zk ((qK (w:=h.ws) (n:=m)) _ hq).1 (Pl.len _)) |> λk=>k8 (f:=λh y _=>stF a l h n m f q.2 y) (g:=λh y _=>stG a l h m f q.2 y) h k q.1)
theorem aad{n:N}:E (n.w+1) 81 [.o 2,.d n.d] (h.f.gn a l) (.ok (.d (uY (n.st h.ws)),h.f.gn a l)):=by
 induction n with
 |nm s b=>exact(go (k:=0) (s:=.ret true (rv _ _)) (by cases b <;> kernel_rfl) ⟨rfl,rfl⟩).up (zw (zE _))
 |pr s x=>exact(go (k:=0) (s:=.ret true (rv _ _)) (by cases x <;> kernel_rfl) ⟨rfl,rfl⟩).up (zw (zE _))
 |cH s=>exact go (k:=0) (s:=.ret true (rv _ _)) (by kernel_rfl) ⟨rfl,rfl⟩
 |un s u=>exact(go (k:=0) (s:=.ret true (rv _ _)) (by kernel_rfl) ⟨rfl,rfl⟩).up (zw (zE _))
 |j6 s u v _ ih=>exact oi h a l (f:=λw=>stL w u) (zk (zO (yf _ _)) (zV (Zf 1 u.w) v.w)) ih (by kernel_rfl) (by kernel_rfl) (λ_=>by kernel_rfl) λ_ _=>by kernel_rfl
 |b0 s u ih=>exact oi h a l (f:=λw=>Dj w []) (zm _) ih (by kernel_rfl) (by kernel_rfl) (λ_=>by kernel_rfl) λ_ _=>by kernel_rfl
 |b1 s u b ih=>exact oi h a l (f:=λw=>Dj w [b]) (zG (zw (zE _)) _) ih (by kernel_rfl) (by kernel_rfl) (λ_=>by kernel_rfl) λ_ _=>by kernel_rfl
 |b2 s u b c ih=>exact oi h a l (f:=λw=>Dj w [b,c]) (zG (zk (zw (zE _)) (zu _ _)) _) ih (by kernel_rfl) (by kernel_rfl) (λ_=>by kernel_rfl) λ_ _=>by kernel_rfl
 |b3 s u b c d ih=>exact oi h a l (f:=λw=>Dj w [b,c,d]) (zG (zk (zw (zE _)) (zu _ _)) _) ih (by kernel_rfl) (by kernel_rfl) (λ_=>by kernel_rfl) λ_ _=>by kernel_rfl
end
set_option genCtorIdx true in
inductive PK where
 |a |b |i |t
inductive KR where
 |k (p:PK)
 |ck (s:Int)
noncomputable def PK.m:PK->Option Bool
 |.a |.b=>some false
 |.i=>some true
 |.t=>none
noncomputable def jn:PK->PK->Option PK
 |.a,.i=>some .a
 |.b,.i=>some .b
 |.i,.a=>some .a
 |.i,.b=>some .b
 |.i,.i=>some .i
 |_,_=>none
noncomputable def kb(s:Int):Option PK->KR
 |some r=>.k r
 |none=>.ck s
def jp(p q:PK)(s:Int):KR:=kb s (jn p q)
def lm:Option Bool->D
 |none=>S 132
 |some b=>.int (two b)
def Dl(s:Int):D:=.tuple [S 44,.int s]
def lv:KR->D
 |.k p=>lm p.m
 |.ck s=>Dl s
noncomputable def vk(r:KR)(f:PK->KR):KR:=match r with
 |.ck t=>.ck t
 |.k p=>f p
def LI(s:Int)(r:KR):KR:=vk r λp=>match p.m with
 |none=>.ck s
 |some _=>.k .t
def jnA(s:Int)(r1 r2:KR):KR:=vk r1 λp=>vk r2 λq=>jp p q s
noncomputable def jY(s:Int):KR->List KR->KR
 |r,[]=>r
 |r,x::l=>jY s (vk r λq=>vk x λp=>jp p q s) l
def QL(u:Int)(m:Bool)(p:PK):Option Int:=match p.m with
 |none=>some u
 |some m'=>cond (m'==m) none (some u)
noncomputable def Dm(fk:PK):P3->PK
 |.f=>fk
 |_=>.t
noncomputable def fkK(_:Int)(o:Option Int)(r:KR):KR:=match o with
 |some u=>.ck u
 |none=>r
noncomputable def k9(e:KR):List (Int×KR)->List Bool->KR
 |x::t,m::ms=>vk x.2 λp=>fkK x.1 (QL x.1 m p) (k9 e t ms)
 |_,_=>e
def called(w:Ws)(fk:PK)(x:P3)(as:List (Int×KR))(s:Int):KR:=match decide (as.length<(w.at x).l.length) with
 |true=>.ck s
 |false=>k9 (.k (Dm fk x)) as (w.at x).l
noncomputable def kd(w:Ws)(fk:PK):Nat->N->KR
 |0,_=>.ck 0
 |j+1,n=>match n.st w with
  |some q=>called w fk q.1 (q.2.map λb=>(b.s,kd w fk j b)) n.s
  |none=>match n with
   |.nm _ b=>.k (cond b .b .a)
   |.pr s _=>.ck s
   |.cH _=>.k .i
   |.un s a=>LI s (kd w fk j a)
   |.j6 s a b=>jnA s (kd w fk j a) (kd w fk j b)
   |.b0 s a=>jY s (kd w fk j a) []
   |.b1 s a b=>jY s (kd w fk j a) [kd w fk j b]
   |.b2 s a b c=>jY s (kd w fk j a) [kd w fk j b,kd w fk j c]
   |.b3 s a b c d=>jY s (kd w fk j a) [kd w fk j b,kd w fk j c,kd w fk j d]
structure Rw where
 t:D
 s:Int
 r:List D
noncomputable def Rw.d(x:Rw):D:=.tuple (x.t::.int x.s::x.r)
theorem Dp(p q:PK) s g:E 1 83 [.d (lm p.m),.d (lm q.m),.d (.int s)] g (.ok (.d (lv (jp p q s)),g)):=by cases p <;> cases q <;> exact go (s:=.ret true (rv (lv _) g)) (by kernel_rfl) ⟨rfl,rfl⟩
def krA(g:G)(k:KR->Sp):Sp:=.pO (.fn λx=>.cQ (.ok (.d (Dl x.s),g)) (k (.ck x.s))) (.pO (.cQ (.ok (.d (.int 1),g)) (k (.k .a))) (.pO (.cQ (.ok (.d (.int 1),g)) (k (.k .b))) (.pO (.cQ (.ok (.d (.int 2),g)) (k (.k .i))) (.cQ (.ok (.d (S 132),g)) (k (.k .t))))))
def oj(g:G)(d:D)(k:KR->Sp):Sp:=.ask 84 [.o 2,.d d] g (krA g k)
theorem aae{An:Nat->List AV->G->R (AV×G)->Prop}{Po:R (Fl×Env×G)->Prop}{Z:R (AV×G)->Prop}{g:G}{k:KR->Sp}{r:KR}(e:Z (.ok (.d (lv r),g)))(h:Good An Po Z (k r)):Good An Po Z (krA g k):=by
 cases r with
 |ck t=>exact .inl ⟨⟨.cH 0,.cH 0,.cH 0,t,0,0,0,.none,[],[]⟩,e,h⟩
 |k p=>cases p with
  |a=>exact .inr (.inl ⟨e,h⟩)
  |b=>exact .inr (.inr (.inl ⟨e,h⟩))
  |i=>exact .inr (.inr (.inr (.inl ⟨e,h⟩)))
  |t=>exact .inr (.inr (.inr (.inr ⟨e,h⟩)))
def QM(g:G)(r:KR)(f:PK->Sp):Sp:=match r with
 |.ck t=>.ret true (rv (Dl t) g)
 |.k p=>f p
def Dq(g:G)(r:KR):Sp:=.ret true (rv (lv r) g)
section
variable(h:H)(a:Nat)(l:Int)
def fkD(h:H)(x:P3):D:=match x with
 |.f=>lm (some h.res)
 |_=>S 132
def arK(g:G)(_:Int)(o:Option Int)(t:Sp):Sp:=match o with
 |some u=>.ret true (rv (Dl u) g)
 |none=>t
noncomputable def H0(g:G)(e:D):List Rw->List Bool->Sp
 |x::t,m::ms=>oj g x.d λr=>QM g r λp=>arK g x.s (QL x.s m p) (H0 g e t ms)
 |_,_=>.ret true (rv e g)
def Px(h:H)(x:P3)(p:Pl)(as:List Rw)(s:Int):Sp:=match decide (as.length<p.l.length) with
 |true=>.ret true (rv (Dl s) (h.f.gn a l))
 |false=>H0 (h.f.gn a l) (fkD h x) as p.l
abbrev clF(s:Int)(as:List Rw)(h:H)(y:P3)(p:Pl):Sp:=walk L.tb 82 [.o 2,.d (QJ y (as.map Rw.d)),.d (.int s)] (h.f.gn a l) (Px a l h y p as s)
abbrev clG(s:Int)(as:List Rw)(h:H)(y:P3)(p:Pl):Sp:=Px a l h y p as s
abbrev clE(s:Int)(as:List Rw):Prop:=[pP.map λp=>clF a l s as (h.set .p p) .p p,pP.map λp=>clF a l s as (h.set .q p) .q p,pP.map λp=>clF a l s as (h.set .f p) .f p]=[pP.map λp=>clG a l s as (h.set .p p) .p p,pP.map λp=>clG a l s as (h.set .q p) .q p,pP.map λp=>clG a l s as (h.set .f p) .f p]
theorem LJ s as (hl:as.length<=2) y:clF a l s as h y (h.ws.at y)=clG a l s as h y (h.ws.at y):=
 k8 h (HZ (P:=λas=>clE h a l s as) (by kernel_rfl) (λ_=>by kernel_rfl) (λ_ _=>by kernel_rfl) as hl) y
end
noncomputable def hdD:List D->D
 |x::_=>x
 |_=>.none
noncomputable def tlD:D->List D
 |.tuple l=>l
 |_=>[]
def _root_.Lw.N.rw(n:N):Rw:=⟨hdD (tlD n.d),n.s,(tlD n.d).drop 2⟩
theorem lS(n:N):n.d=n.rw.d:=by cases n <;> rfl
theorem Ni(as:List N):as.map N.d=(as.map N.rw).map Rw.d:=by exact gR ye (yH λn _=>lS n)
section
variable{An:Nat->List AV->G->R (AV×G)->Prop}{Z:R (AV×G)->Prop}{g:G}
theorem jm{r:KR}:Good An (λy=>aR y=.ok (.d (lv r),g)) Z (Dq g r):=⟨rfl,rfl⟩
theorem sL{r:KR}{f:PK->Sp}{f':PK->KR}(h:∀p,Good An (λy=>aR y=.ok (.d (lv (f' p)),g)) Z (f p)):Good An (λy=>aR y=.ok (.d (lv (vk r f')),g)) Z (QM g r f):=by
 cases r with
 |ck t=>exact⟨rfl,rfl⟩
 |k p=>exact h p
theorem i6{Po:R (Fl×Env×G)->Prop}{k:KR->Sp}{d:D}{r:KR}(e:An 84 [.o 2,.d d] g (.ok (.d (lv r),g)))(h:∀Z,Good An Po Z (k r)):Good An Po Z (oj g d k):=aae e (h _)
theorem H3{e:KR}(kr:N->KR):∀{as:List N} {ms:List Bool} {Z:R (AV×G)->Prop},(∀b∈as,An 84 [.o 2,.d b.d] g (.ok (.d (lv (kr b)),g)))->Good An (λy=>aR y=.ok (.d (lv (k9 e (as.map λb=>(b.s,kr b)) ms)),g)) Z (H0 g (lv e) (as.map N.rw) ms)
 |[],_,_,_=>jm
 |_::_,[],_,_=>jm
 |b::as,m::ms,_,h=>i6 (r:=kr b) (lS b▸h b (.head _)) λ_=>sL (f:=λp=>arK g b.s (QL b.s m p) (H0 g (lv e) (as.map N.rw) ms)) (f':=λp=>fkK b.s (QL b.s m p) (k9 e (as.map λb=>(b.s,kr b)) ms)) λp=>by
  cases QL b.s m p with
  |some u=>exact⟨rfl,rfl⟩
  |none=>exact H3 kr λx hx=>h x (.tail _ hx)
end
section
variable(h:H){fk:PK}(QN:fk.m=some h.res){l:Int}
include QN
theorem Dr{k:Nat} x (as:List N) (hl:as.length<=2) s (kr:N->KR) (e:∀b∈as,E k 84 [.o 2,.d b.d] (h.f.gn a l) (.ok (.d (lv (kr b)),h.f.gn a l))):
  E (k+1) 82 [.o 2,.d (QJ x (as.map N.d)),.d (.int s)] (h.f.gn a l) (.ok (.d (lv (called h.ws fk x (as.map λb=>(b.s,kr b)) s)),h.f.gn a l)):=by
 refine gR (Ni ..) (go (LJ h a l s (as.map N.rw) (gR (zA ..) hl) x) ?_);have hf:fkD h x=lv (.k (Dm fk x)):=by
  cases x with
  |f=>exact congrArg lm QN.symm
  |_=>rfl
 refine(?_:Good _ (λy=>aR y=.ok (.d (lv (match decide ((as.map λb=>(b.s,kr b)).length<(h.ws.at x).l.length) with
  |true=>.ck s
  |false=>k9 (.k (Dm fk x)) (as.map λb=>(b.s,kr b)) (h.ws.at x).l)),h.f.gn a l)) _ (match decide ((as.map N.rw).length<(h.ws.at x).l.length) with
  |true=>.ret true (rv (Dl s) (h.f.gn a l))
  |false=>H0 (h.f.gn a l) (fkD h x) (as.map N.rw) (h.ws.at x).l))
 refine gR (zA ..) (gR (zA ..) (gR hf ?_));cases decide (as.length<(h.ws.at x).l.length) with
 |true=>exact⟨rfl,rfl⟩
 |false=>exact H3 kr e
end
noncomputable def Nj(g:G)(n:D)(t:Sp):Sp:=.ask 81 [.o 2,.d n] g (.cQ (.ok (.d .none,g)) t)
def jpS(g:G)(s:Int)(p q:PK)(k:KR->Sp):Sp:=.ask 83 [.d (lm p.m),.d (lm q.m),.d (.int s)] g (.cQ (.ok (.d (lv (jp p q s)),g)) (k (jp p q s)))
def WH(g:G)(s:Int)(u:D):Sp:=oj g u λr=>QM g r λp=>Dq g (LI s (.k p))
def bnS(g:G)(s:Int)(u v:D):Sp:=oj g u λr=>QM g r λp=>oj g v λr=>QM g r λq=>jpS g s p q (Dq g)
noncomputable def RY(g:G)(s:Int):List D->KR->Sp
 |[],r=>Dq g r
 |b::bs,r=>QM g r λq=>oj g b λx=>QM g x λp=>jpS g s p q (RY g s bs)
def smS(g:G)(n:Rw)(q r:D):Sp:=.ask 81 [.o 2,.d n.d] g (.cQ (.ok (.d q,g)) (.ask 82 [.o 2,.d q,.d (.int n.s)] g (.cQ (.ok (.d r,g)) (.ret true (rv r g)))))
section
variable{An:Nat->List AV->G->R (AV×G)->Prop}{Z:R (AV×G)->Prop}{g:G}(jn:∀p q s,An 83 [.d (lm p.m),.d (lm q.m),.d (.int s)] g (.ok (.d (lv (jp p q s)),g)))
theorem aaf{s:Int}{u:N}{r:KR}(e:An 84 [.o 2,.d u.d] g (.ok (.d (lv r),g))):Good An (λy=>aR y=.ok (.d (lv (LI s r)),g)) Z (WH g s u.d):=i6 e λ_=>sL λp=>jm
include jn
theorem Nk{Po:R (Fl×Env×G)->Prop}{s:Int}{p q:PK}{k:KR->Sp}(h:Good An Po (An 83 [.d (lm p.m),.d (lm q.m),.d (.int s)] g) (k (jp p q s))):Good An Po Z (jpS g s p q k):=⟨jn p q s,h⟩
theorem aag{s:Int}{u v:N}{r r':KR}(e:An 84 [.o 2,.d u.d] g (.ok (.d (lv r),g)))(e':An 84 [.o 2,.d v.d] g (.ok (.d (lv r'),g))):Good An (λy=>aR y=.ok (.d (lv (jnA s r r')),g)) Z (bnS g s u.d v.d):=i6 e λ_=>sL λp=>i6 e' λ_=>sL λq=>Nk jn jm
theorem xi{s t:Int}:∀{l:List KR},jY s (.ck t) l=.ck t
 |[]=>rfl
 |_::l=>xi (l:=l)
theorem uZ{s:Int} kr:∀{bs:List N} {r:KR} {Z:R (AV×G)->Prop},(∀b∈bs,An 84 [.o 2,.d b.d] g (.ok (.d (lv (kr b)),g)))->Good An (λy=>aR y=.ok (.d (lv (jY s r (bs.map kr))),g)) Z (RY g s (bs.map N.d) r)
 |[],_,_,_=>jm
 |b::bs,.ck t,_,h=>(xi jn (l:=bs.map kr)).symm▸⟨rfl,rfl⟩
 |b::bs,.k q,_,h=>i6 (h b (.head _)) λ_=>by
  refine(?_:Good An (λy=>aR y=.ok (.d (lv (jY s (vk (kr b) λp=>jp p q s) (bs.map kr))),g)) _ _);cases kr b with
  |ck t=>exact(xi jn).symm▸⟨rfl,rfl⟩
  |k p=>exact Nk jn (uZ kr λx hx=>h x (.tail _ hx))
end
theorem sM{b:N}{l:List N}(h:b∈l):b.w+1<=wsum l:=by
 induction h with
 |head l=>exact zu _ _
 |tail x _ ih=>exact zk ih (Zf _ _)
theorem sN u b l:u+1<=u+wsum (b::l):=zG (zk (Zf 1 b.w) (zu _ _)) u
theorem H4 u {x:N} {l:List N} (h:x∈l):x.w+1<=u+wsum l:=zk (sM h) (Zf _ _)
theorem Ds(h:H) a l n y as r:walk L.tb 84 [.o 2,.d n.d] (h.f.gn a l) (smS (h.f.gn a l) n (QJ y as) r)=smS (h.f.gn a l) n (QJ y as) r:=by kernel_rfl
theorem A8(h:H){fk:PK}(QN:fk.m=some h.res){a:Nat}{l:Int}:∀j n,n.w<j->E (2*j) 84 [.o 2,.d n.d] (h.f.gn a l) (.ok (.d (lv (kd h.ws fk j n)),h.f.gn a l))
 |0,n,hm=>absurd hm (Zw _)
 |j+1,n,hm=>by
  have ih:=A8 h QN (a:=a) (l:=l) j;have h1:=(aad h a l).up (zk hm (zw (Ym _ (zN _))));have jn:=λp q s=>(Dp p q s (h.f.gn a l)).up (Zf 1 (2*j));refine(?_:E _ _ _ _ (.ok (.d (lv (match n.st h.ws with
   |some q=>called h.ws fk q.1 (q.2.map λb=>(b.s,kd h.ws fk j b)) n.s
   |none=>_)),_)))
  cases hs:n.st h.ws with
  |some q=>
   rw[hs] at h1;obtain⟨k1,k2⟩:=qK _ hs;rw[lS n] at h1⊢;exact go (Ds h a l n.rw q.1 (q.2.map N.d) _) ⟨h1,(Dr h QN q.1 q.2 (zk k1 (Pl.len _)) n.s (kd h.ws fk j) λb m=>ih b ((λb hb=>zk (zk (sM hb) (Z0 k2)) (Zg hm)) b m)),rfl,rfl⟩
  |none=>
   replace h1:=hs▸h1;have lt:∀{m:N},m.w+1<=n.w->E (2*j+1) 84 [.o 2,.d m.d] (h.f.gn a l) (.ok (.d (lv (kd h.ws fk j m)),h.f.gn a l)):=λlO=>(ih _ (zF lO (Zg hm))).up (zN _);cases n with
   |nm s b=>exact go (s:=Nj _ _ (Dq _ (.k (cond b .b .a)))) (by cases b <;> kernel_rfl) ⟨h1,jm⟩
   |pr s x=>exact ns hs.symm
   |cH s=>exact go (s:=Nj _ _ (Dq _ (.k .i))) (by kernel_rfl) ⟨h1,jm⟩
   |un s u=>exact go (s:=Nj _ _ (WH _ s u.d)) (by kernel_rfl) ⟨h1,aaf (lt (zm _))⟩
   |j6 s u v=>exact go (s:=Nj _ _ (bnS _ s u.d v.d)) (by kernel_rfl) ⟨h1,aag jn (lt (zu _ _)) (lt (zk (zO (yf _ _)) (zV (Zf 1 u.w) v.w)))⟩
   |b0 s u=>exact go (s:=Nj _ _ (oj _ u.d (RY _ s []))) (by kernel_rfl) ⟨h1,i6 (lt (zm _)) λ_=>uZ jn (bs:=[]) (kd h.ws fk j) λ_ hb=>nomatch hb⟩
   |b1 s u b=>exact go (s:=Nj _ _ (oj _ u.d (RY _ s [b.d]))) (by kernel_rfl) ⟨h1,i6 (lt (sN u.w b [])) λ_=>uZ jn (bs:=[b]) (kd h.ws fk j) λx hb=>lt (H4 _ hb)⟩
   |b2 s u b c=>exact go (s:=Nj _ _ (oj _ u.d (RY _ s [b.d,c.d]))) (by kernel_rfl) ⟨h1,i6 (lt (sN u.w b [c])) λ_=>uZ jn (bs:=[b,c]) (kd h.ws fk j) λx hb=>lt (H4 _ hb)⟩
   |b3 s u b c d=>exact go (s:=Nj _ _ (oj _ u.d (RY _ s [b.d,c.d,d.d]))) (by kernel_rfl) ⟨h1,i6 (lt (sN u.w b [c,d])) λ_=>uZ jn (bs:=[b,c,d]) (kd h.ws fk j) λx hb=>lt (H4 _ hb)⟩
variable{p:PK}
noncomputable def P3.beq:P3->P3->Bool
 |.p,.p |.q,.q |.f,.f=>true
 |_,_=>false
def hs(x:P3)(l:List (P3×Int)):Bool:=l.any λe=>P3.beq e.1 x
def rc(c:Cl):P3->Bool
 |.p=>hs .p c.p||(hs .q c.p&&hs .p c.q)
 |.q=>hs .q c.q||(hs .p c.q&&hs .q c.p)
 |.f=>hs .f c.f
def mn(l:List (P3×Int)):Int:=(BH (l.map (·.2))).getD 0
noncomputable def QO(c:Cl):List P3->Int
 |[]=>-1
 |x::xs=>cond (rc c x) (mn (c.at x)) (QO c xs)
noncomputable def QP(b:Bool)(l:List (P3×Int)):Nat->Bool
 |0=>b
 |n+1=>sn (QP b l n) (jq (l.map cd) (l.map cd))
def LK(l:List (P3×Int))(b:Bool):Bool:=QP b l (l.length+1)
noncomputable def c7:P3->List P3->P3×List P3
 |x,[]=>(x,[])
 |x,y::r=>((c7 y r).1,x::(c7 y r).2)
noncomputable def sO(c:Cl):Nat->List P3->List P3->Bool->Bool
 |0,_,_,b=>b
 |_+1,_,[],b=>b
 |n+1,s,x::r,b=>match s.any (P3.beq (c7 x r).1) with
  |true=>sO c n s (c7 x r).2 b
  |false=>sO c n (s++[(c7 x r).1]) ((c7 x r).2++(c.at (c7 x r).1).map (·.1)) (LK (c.at (c7 x r).1) b)
noncomputable def QQ(c:Cl)(g:G):List P3->Bool->Sp
 |[],b=>.ret b (rv (.int (-1)) g)
 |x::xs,b=>match rc c x with
  |true=>.ret (LK (c.at x) (sO c 20 [] ((c.at x).map (·.1)) (LK (c.at x) b))) (rv (.int (mn (c.at x))) g)
  |false=>QQ c g xs (sO c 20 [] ((c.at x).map (·.1)) (LK (c.at x) b))
noncomputable def ops(v:Int):List (Option Int):=[none,some v]
theorem all1{f g:Option Int->α}(o:Option Int)(h:(ops (o.getD 0)).map f=(ops (o.getD 0)).map g):f o=g o:=by
 cases o with
 |none=>exact(yy h).1
 |some v=>exact(yy (yy h).2).1
theorem aah{f g:Option Int->Option Int->Option Int->Option Int->Option Int->Option Int->Option Int->α}(o1 o2 o3 o4 o5 o6 o7:Option Int)
  (h:(ops (o1.getD 0)).map (λa=>(ops (o2.getD 0)).map λb=>(ops (o3.getD 0)).map λc=>(ops (o4.getD 0)).map λd=>(ops (o5.getD 0)).map λe=>(ops (o6.getD 0)).map λx=>(ops (o7.getD 0)).map λy=>f a b c d e x y)=
   (ops (o1.getD 0)).map (λa=>(ops (o2.getD 0)).map λb=>(ops (o3.getD 0)).map λc=>(ops (o4.getD 0)).map λd=>(ops (o5.getD 0)).map λe=>(ops (o6.getD 0)).map λx=>(ops (o7.getD 0)).map λy=>g a b c d e x y)):
  f o1 o2 o3 o4 o5 o6 o7=g o1 o2 o3 o4 o5 o6 o7:=all1 o7 (all1 o6 (all1 o5 (all1 o4 (all1 o3 (all1 o2 (all1 o1 h))))))
def jZ(a b c d e x y:Option Int):Cl:=⟨c3 a b c,c3 d e x,l7 .f y⟩
noncomputable def xj(ns:D)(s2 s3:Slot):Env:=[.v (.o 2),.v (.d ns),s2,s3,.un,.un,.un,.un,.un,.un,.un,.un,.un,.un]
theorem LL(j:J)(rest:G)(a:Nat)(l:Int)(ns:D)(s2 s3:Slot)(o1 o2 o3 o4 o5 o6 o7:Option Int):(aY L.tb (oQ.off 1) (xj ns s2 s3) ((j.h (jZ o1 o2 o3 o4 o5 o6 o7) rest).f.gn a l)).left fin true (QQ (jZ o1 o2 o3 o4 o5 o6 o7) ((j.h (jZ o1 o2 o3 o4 o5 o6 o7) rest).f.gn a l) [.f,.p,.q] true)=QQ (jZ o1 o2 o3 o4 o5 o6 o7) ((j.h (jZ o1 o2 o3 o4 o5 o6 o7) rest).f.gn a l) [.f,.p,.q] true:=
 aah (f:=λo1 o2 o3 o4 o5 o6 o7=>(aY L.tb (oQ.off 1) (xj ns s2 s3) ((j.h (jZ o1 o2 o3 o4 o5 o6 o7) rest).f.gn a l)).left fin true (QQ (jZ o1 o2 o3 o4 o5 o6 o7) ((j.h (jZ o1 o2 o3 o4 o5 o6 o7) rest).f.gn a l) [.f,.p,.q] true))
  (g:=λo1 o2 o3 o4 o5 o6 o7=>QQ (jZ o1 o2 o3 o4 o5 o6 o7) ((j.h (jZ o1 o2 o3 o4 o5 o6 o7) rest).f.gn a l) [.f,.p,.q] true) o1 o2 o3 o4 o5 o6 o7 (by kernel_rfl)
theorem QR x:BD (cd x) (cd x)=true:=by obtain⟨x,s⟩:=x;have e:decide (some s=some s)=true:=dt rfl;cases x <;> exact aX e rfl
theorem A9:∀l:List (P3×Int),jq (l.map cd) (l.map cd)=true
 |[]=>rfl
 |x::r=>aX (QR x) (A9 r)
theorem sP{l:List (P3×Int)}(h:b=true):LK l b=true:=by
 have:∀n,QP b l n=true:=λn=>by
  induction n with
  |zero=>exact h
  |succ n ih=>exact bN ih (A9 l)
 exact this _
theorem l9{c:Cl}:∀{n:Nat} {s w:List P3} {b:Bool},b=true->sO c n s w b=true
 |0,_,_,_,h=>h
 |_+1,_,[],_,h=>h
 |n+1,s,x::r,b,h=>by
  refine(?_:(match s.any (P3.beq (c7 x r).1) with
   |true=>sO c n s (c7 x r).2 b
   |false=>sO c n (s++[(c7 x r).1]) ((c7 x r).2++(c.at (c7 x r).1).map (·.1)) (LK (c.at (c7 x r).1) b))=true)
  cases s.any (P3.beq (c7 x r).1) with
  |true=>exact l9 h
  |false=>exact l9 (sP h)
theorem Nl{An:Nat->List AV->G->R (AV×G)->Prop}{Z:R (AV×G)->Prop}{c:Cl}{g:G}:∀{xs:List P3} {b:Bool},b=true->Good An (λy=>aR y=.ok (.d (.int (QO c xs)),g)) Z (QQ c g xs b)
 |[],_,h=>⟨h,rfl⟩
 |x::xs,b,h=>by
  refine(?_:Good An (λy=>aR y=.ok (.d (.int (cond (rc c x) (mn (c.at x)) (QO c xs))),g)) Z (match rc c x with
   |true=>.ret (LK (c.at x) (sO c 20 [] ((c.at x).map (·.1)) (LK (c.at x) b))) (rv (.int (mn (c.at x))) g)
   |false=>QQ c g xs (sO c 20 [] ((c.at x).map (·.1)) (LK (c.at x) b))))
  cases rc c x with
  |true=>exact⟨sP (l9 (sP h)),rfl⟩
  |false=>exact Nl (l9 (sP h))
def Ba(u:Int):KR->Option Int
 |.ck t=>some t
 |.k p=>match p.m with
  |none=>none
  |some _=>some u
noncomputable def RZ(z:Int):List (Int×KR)->Int
 |[]=>z
 |x::r=>match Ba x.1 x.2 with
  |some u=>u
  |none=>RZ z r
def ndE(g:G)(ns:D)(x:Rw)(k:KR)(o:Option Int)(t:Sp):Sp:=match o with
 |some u=>.ret true (.ok (.ret (.d (.int u)),xj ns (.v (.d x.d)) (.v (.d (lv k))),g))
 |none=>t
noncomputable def ID(g:G)(ns:D):List Rw->Slot->Slot->Sp
 |[],s2,s3=>.ret true (.ok (.gV,xj ns s2 s3,g))
 |x::r,_,_=>oj g x.d λk=>ndE g ns x k (Ba x.s k) (ID g ns r (.v (.d x.d)) (.v (.d (S 132))))
theorem LM g ns (hl:ns.length<=2):(aY L.tb (aK.fst 1 oQ) (xj (.list (ns.map Rw.d)) .un .un) g).left id true (ID g (.list (ns.map Rw.d)) ns .un .un)=ID g (.list (ns.map Rw.d)) ns .un .un:=
 HZ (P:=λns=>(aY L.tb (aK.fst 1 oQ) (xj (.list (ns.map Rw.d)) .un .un) g).left id true (ID g (.list (ns.map Rw.d)) ns .un .un)=ID g (.list (ns.map Rw.d)) ns .un .un) (by kernel_rfl) (λ_=>by kernel_rfl) (λ_ _=>by kernel_rfl) ns hl
theorem Nm{k:Nat}{g:G}{nd:D}{z:Int}(h:∀s2 s3,En L.tb k (oQ.off 1) (xj nd s2 s3) g (.ok (.d (.int z),g)))(kr:N->KR):∀{ns:List N} {s2 s3:Slot} {Z:R (AV×G)->Prop},(∀b∈ns,E k 84 [.o 2,.d b.d] g (.ok (.d (lv (kr b)),g)))->
  Good (E k) (EnB L.tb k (oQ.off 1) (.ok (.d (.int (RZ z (ns.map λb=>(b.s,kr b)))),g))) Z (ID g nd (ns.map N.rw) s2 s3)
 |[],_,_,_,_=>⟨rfl,h _ _⟩
 |b::ns,_,_,_,e=>i6 (k:=λr=>ndE g nd b.rw r (Ba b.s r) (ID g nd (ns.map N.rw) (.v (.d b.rw.d)) (.v (.d (S 132))))) (lS b▸e b (.head _)) λZ=>by
  refine(?_:Good (E k) (EnB L.tb k (oQ.off 1) (.ok (.d (.int (match Ba b.s (kr b) with
   |some u=>u
   |none=>RZ z (ns.map λb=>(b.s,kr b)))),g))) Z (ndE g nd b.rw (kr b) (Ba b.s (kr b)) (ID g nd (ns.map N.rw) (.v (.d b.rw.d)) (.v (.d (S 132))))))
  cases Ba b.s (kr b) with
  |some u=>exact⟨rfl,rfl⟩
  |none=>exact Nm h kr λx hx=>e x (.tail _ hx)
def due(w:Ws)(fk:PK)(c:Cl)(ns:List N):Int:=RZ (QO c [.f,.p,.q]) (ns.map λb=>(b.s,kd w fk 18 b))
theorem QT(j:J) rest {fk:PK} (QN:fk.m=some j.res) {ns:List N} (hl:ns.length<=2) (hw:∀n∈ns,n.w<18) {a:Nat} {l:Int} (o1 o2 o3 o4 o5 o6 o7):
  E 37 85 [.o 2,.d (.list (ns.map N.d))] ((j.h (jZ o1 o2 o3 o4 o5 o6 o7) rest).f.gn a l) (.ok (.d (.int (due j.ws fk (jZ o1 o2 o3 o4 o5 o6 o7) ns)),(j.h (jZ o1 o2 o3 o4 o5 o6 o7) rest).f.gn a l)):=by
 exact gR (Ni ..) (En.ev (np:=2) (ns:=14) (B:=oQ) (by kernel_rfl) rfl (xb (b:=oQ.off 1) (LM _ (ns.map N.rw) (gR (zA ..) hl))
  (Nm (Z:=nF) (λs2 s3=>HD (Z:=nF) (LL j rest a l _ s2 s3 o1 o2 o3 o4 o5 o6 o7) (Nl rfl)) (kd j.ws fk 18) λb hb=>A8 (j.h (jZ o1 o2 o3 o4 o5 o6 o7) rest) QN 18 b (hw b hb))))
inductive Wt where
 |x (y:P3)
 |e
def xS:P3->Str
 |.p=>L.nm 19
 |.q=>L.nm 20
 |.f=>L.nm 17
def Wt.s:Wt->Str
 |.x y=>adW++xS y++L.nm 306
 |.e=>adW++L.nm 9++L.nm 308
structure Kx where
 o0:bW
 o1:bW
 o2:bW
 o3:bW
 o4:bW
 o5:bW
 cy:List D
 s1:Int
 mp:Pm
 mq:Pm
 mf:Pm
 told:Rw
def plD:Option P3->D
 |none=>S 0
 |some x=>x.d
def Kx.aW(K:Kx):List (D×AV):=[(S 19,.d (.tuple [K.mp.d .p,.none])),(S 20,.d (.tuple [K.mq.d .q,.none])),(S 17,.d (.tuple [K.mf.d .f,K.told.d]))]
structure Sr where
 pl:Option P3
 W:List (D×AV)
 b:List (D×AV)
 A0:List (D×AV)
 Ap:List (D×AV)
 Aq:List (D×AV)
 Af:List (D×AV)
def PR(K:Kx)(s:Sr):G:=[K.o0,K.o1,K.o2,K.o3,K.o4,K.o5,.list K.cy,
 .inst 5 [(203,.o 8),(183,.o 9),(171,.o 10),(197,.d (.list [S 11,S 12])),(255,.d (.list []))],
 .dict [(S 11,.d (iy K.s1)),(S 12,.d (iy K.s1))],.list [S 11,S 12],.list [],.dict [],
 .inst 4 [(257,.o 7),(276,.o 13),(275,.o 14),(223,.o 15),(151,.o 16),(267,.o 17),(98,.o 19),(126,.d (plD s.pl)),(153,.o 6),(205,.o 20)],
 .dict [],.dict [],.dict s.W,.dict K.aW,.dict s.b,.dict s.A0,.dict [(S 0,.o 18),(S 19,.o 21),(S 20,.o 22),(S 17,.o 23)],.dict [],.dict s.Ap,.dict s.Aq,.dict s.Af]
structure St where
 pl:Option P3
 W:List (Int×Wt)
 b:Option P3
 A0:List (P3×Int)
 Ap:List (P3×Int)
 Aq:List (P3×Int)
 Af:List (P3×Int)
def wK(e:Int×Wt):D:=.tuple [.int e.1,.str e.2.s]
def wD(e:Int×Wt):D×AV:=(wK e,.d (.bool true))
def aD(e:P3×Int):D×AV:=(e.1.d,.d (.int e.2))
def QU:Option P3->List (D×AV)
 |none=>[]
 |some x=>[(x.d,.d (.bool true))]
def St.r(s:St):Sr:=⟨s.pl,s.W.map wD,QU s.b,s.A0.map aD,s.Ap.map aD,s.Aq.map aD,s.Af.map aD⟩
def PG(K:Kx)(s:St):G:=PR K s.r
def cA:D:=.tuple [.tuple [S 11]]
def cB:D:=.tuple [.tuple [S 12]]
def cI:D:=.tuple [.tuple [S 11,S 11],.tuple [S 12,S 12]]
def u0:PK->D
 |.a=>cA
 |.b=>cB
 |.i=>cI
 |.t=>.none
def kD:PK->D
 |.a=>.tuple [S 63,.int 1,cA]
 |.b=>.tuple [S 63,.int 1,cB]
 |.i=>.tuple [S 63,.int 2,cI]
 |.t=>.tuple [S 132]
def bG(K:Kx)(s:St):KR->R (AV×G)
 |.k p=>.ok (.d (kD p),PG K s)
 |.ck u=>.ex (.int u) (PG K s)
theorem bI{k f:Nat}{g:G}{r:R (AV×G)}(h:∀n,aC L.tb (n+k) f vs g=r):E k f vs g r:=λn hn=>Nat.sub_add_cancel hn▸h (n - k)
noncomputable def vm:List PK:=[.a,.b,.i,.t]
theorem eN{f g:PK->α}(h:vm.map f=vm.map g) p:f p=g p:=bz h (zy (i:=match p with |.a=>0 |.b=>1 |.i=>2 |.t=>3) (by cases p <;> rfl))
noncomputable def DG:List P3:=[.p,.q,.f]
theorem fF{f g:P3->α}(h:DG.map f=DG.map g) y:f y=g y:=HJ h y
section
variable(K:Kx)(s:St)
theorem QV b:E 9 17 [.o 12,.d (sb b)] (PG K s) (.ok (.d (kD (cond b .b .a)),PG K s)):=bI λn=>by cases b <;> kernel_rfl
theorem H5:E 9 8 [.o 12] (PG K s) (.ok (.d cI,PG K s)):=bI λn=>by kernel_rfl
theorem aai b:E 2 61 [.o 7,.d (sb b)] (PG K s) (.ok (.d (.bool true),PG K s)):=bI λn=>by cases b <;> kernel_rfl
theorem Bb(p q:PK) u:E 9 30 [.o 12,.d (kD p),.d (kD q),.d (.int u)] (PG K s) (bG K s (jp p q u)):=bI λn=>eN (eN (f:=λp=>vm.map λq=>aC L.tb (n+9) 30 [.o 12,.d (kD p),.d (kD q),.d (.int u)] (PG K s)) (g:=λp=>vm.map λq=>bG K s (jp p q u)) (by kernel_rfl) p) q
theorem Dt p u:E 9 27 [.o 12,.d (S 75),.d (kD p),.d (.int u)] (PG K s) (bG K s (LI u (.k p))):=bI λn=>eN (f:=λp=>aC L.tb (n+9) 27 [.o 12,.d (S 75),.d (kD p),.d (.int u)] (PG K s)) (g:=λp=>bG K s (LI u (.k p))) (by kernel_rfl) p
noncomputable def ktS:PK->Str
 |.t=>"a truth"
 |.i=>"a set of arity 2"
 |_=>"a set of arity 1"
theorem u3 p g:E 1 0 [.d (kD p)] g (.ok (.d (.str (ktS p)),g)):=bI λn=>eN (f:=λp=>aC L.tb (n+1) 0 [.d (kD p)] g) (g:=λp=>.ok (.d (.str (ktS p)),g)) (by kernel_rfl) p
def mtD:PK->PK->D
 |.a,.a=>cA
 |.b,.b=>cB
 |.i,.i=>cI
 |_,_=>.tuple []
theorem Bc(p q:PK)(h:(p.m.isSome&&decide (p.m=q.m))=true):E 12 9 [.o 12,.d (u0 p),.d (u0 q)] (PG K s) (.ok (.d (mtD p q),PG K s)):=by have e:=λn=>eN (eN (f:=λp=>vm.map λq=>match p.m.isSome&&decide (p.m=q.m) with |true=>aC L.tb (n+12) 9 [.o 12,.d (u0 p),.d (u0 q)] (PG K s) |false=>.no) (g:=λp=>vm.map λq=>match p.m.isSome&&decide (p.m=q.m) with |true=>.ok (.d (mtD p q),PG K s) |false=>.no) (by kernel_rfl) p) q;replace e:=h▸e;exact bI e
end
variable{s':St}
def Wt.beq:Wt->Wt->Bool
 |.x a,.x b=>P3.beq a b
 |.e,.e=>true
 |_,_=>false
noncomputable def IH:List Wt:=[.x .p,.x .q,.x .f,.e]
theorem gP{f g:Wt->α}(h:IH.map f=IH.map g) p:f p=g p:=bz h (zy (i:=match p with |.x .p=>0 |.x .q=>1 |.x .f=>2 |.e=>3) (by rcases p with⟨_ |_ |_⟩ |_ <;> rfl))
theorem Nn(a b:Int)(t u:Wt):zD (wK (a,t)) (wK (b,u))=(zD (.int a) (.int b)&&Wt.beq t u):=gP (gP (f:=λt=>IH.map λu=>zD (wK (a,t)) (wK (b,u))) (g:=λt=>IH.map λu=>zD (.int a) (.int b)&&Wt.beq t u) (by kernel_rfl) t) u
theorem Np(x y:P3):zD x.d y.d=P3.beq x y:=fF (fF (f:=λx=>DG.map λy=>zD x.d y.d) (g:=λx=>DG.map λy=>P3.beq x y) (by kernel_rfl) x) y
def dm(k e:Int×Wt):Bool:=zD (.int e.1) (.int k.1)&&Wt.beq e.2 k.2
def xm(k:Int×Wt)(W:List (Int×Wt)):List (Int×Wt):=match W.any (dm k) with
 |true=>W
 |false=>W++[k]
def om(x:P3)(u:Int)(A:List (P3×Int)):List (P3×Int):=match A.any λe=>P3.beq e.1 x with
 |true=>A.map λe=>cond (P3.beq e.1 x) (e.1,u) e
 |false=>A++[(x,u)]
theorem QW k W:dw (wK k) (.d (.bool true)) (W.map wD)=(xm k W).map wD:=by
 unfold dw xm;have h:(W.map wD).any (λe=>zD e.1 (wK k))=W.any (dm k):=by exact gR List.any_map (congrArg W.any (funext λe=>Nn e.1 k.1 e.2 k.2))
 refine gR h ?_;cases W.any (dm k) with
 |true=>
  refine gR (if_pos rfl ..) (gR ye ?_);refine yH λe _=>(?_:(if zD (wK e) (wK k)=true then wD e else wD e)=wD e)
  split <;> rfl
 |false=>
  refine gR (if_neg zi ..) (gR yc ?_);rfl
theorem sQ x u A:dw x.d (.d (.int u)) (A.map aD)=(om x u A).map aD:=by
 unfold dw om;have h:(A.map aD).any (λe=>zD e.1 x.d)=A.any λe=>P3.beq e.1 x:=by exact gR List.any_map (congrArg A.any (funext λe=>Np e.1 x))
 refine gR h ?_;cases A.any λe=>P3.beq e.1 x with
 |true=>
  refine gR (if_pos rfl ..) (gR ye (gR ye ?_));refine yH λe _=>(?_:(if zD e.1.d x.d=true then(e.1.d,AV.d (.int u)) else aD e)=aD (cond (P3.beq e.1 x) (e.1,u) e));refine gR (Np ..) ?_;cases P3.beq e.1 x <;> rfl
 |false=>
  refine gR (if_neg zi ..) (gR yc ?_);rfl
theorem H6 k W:(xm k W).length<=W.length+1:=by
 unfold xm;cases W.any (dm k) with
 |true=>exact zN _
 |false=>exact zO Zr
theorem H7 x u A:(om x u A).length<=A.length+1:=by
 unfold om;cases A.any λe=>P3.beq e.1 x with
 |true=>exact zk (zO (zA _)) (zN _)
 |false=>exact zO Zr
noncomputable def sR:List (Int×Wt)->Bool
 |[]=>true
 |k::W=>!W.any (dm k)&&sR W
theorem xo(k e:Int×Wt):dm k e=dm e k:=by
 have h2:zD (.int e.1) (.int k.1)=zD (.int k.1) (.int e.1):=by rw[zD,zD];exact Bool.beq_comm
 unfold dm;exact gR ((gP (gP (f:=λt=>IH.map λu=>Wt.beq t u) (g:=λt=>IH.map λu=>Wt.beq u t) rfl e.2) k.2) ..) (gR h2 rfl)
theorem Bd{k:Int×Wt}:∀{W:List (Int×Wt)},sR W=true->W.any (dm k)=false->sR (W++[k])=true
 |[],_,_=>rfl
 |e::W,h,h2=>by
  have h:=aa h;have h2:(dm k e||W.any (dm k))=false:=h2;rw[Bool.or_eq_false_iff] at h2;refine aX ?_ (Bd h.2 h2.2);refine gR List.any_append (gR (Bool.not_or ..) ?_);refine aX h.1 (?_:(!(dm e k||false))=true);refine gR (xo ..) (gR h2.1 ?_);rfl
theorem LN{k:Int×Wt}{W:List (Int×Wt)}(h:sR W=true):sR (xm k W)=true:=by
 unfold xm;cases hk:W.any (dm k) with
 |true=>exact h
 |false=>exact Bd h hk
structure Vd(m:Nat)(s:St):Prop where
 d:sR s.W=true
 W:s.W.length<=m
 a0:s.A0.length<=m
 ap:s.Ap.length<=m
 aq:s.Aq.length<=m
 af:s.Af.length<=m
theorem Vd.up{m m':Nat}{s:St}(h:Vd m s)(k:m<=m'):Vd m' s:=⟨h.d,zk h.W k,zk h.a0 k,zk h.ap k,zk h.aq k,zk h.af k⟩
def St.vn(s:St)(k:Int×Wt):St:={s with W:=xm k s.W}
def St.put(s:St)(x:P3)(u:Int):St:=match s.pl with
 |none=>{s with A0:=om x u s.A0}
 |some .p=>{s with Ap:=om x u s.Ap}
 |some .q=>{s with Aq:=om x u s.Aq}
 |some .f=>{s with Af:=om x u s.Af}
theorem Vd.vn{m:Nat}{s:St}(h:Vd m s) k:Vd (m+1) (s.vn k):=⟨LN h.d,zk (H6 k _) (zw h.W),zQ h.a0,zQ h.ap,zQ h.aq,zQ h.af⟩
theorem Vd.put{m:Nat}{s:St}(h:Vd m s) x u:Vd (m+1) (s.put x u):=by
 obtain⟨pl,W,b,A0,Ap,Aq,Af⟩:=s;have w:=zQ h.W;have a:=λ{A:List (P3×Int)} (h:A.length<=m)=>zk (H7 x u A) (zw h)
 match pl with
 |none=>exact⟨h.d,w,a h.a0,zQ h.ap,zQ h.aq,zQ h.af⟩
 |some .p=>exact⟨h.d,w,zQ h.a0,a h.ap,zQ h.aq,zQ h.af⟩
 |some .q=>exact⟨h.d,w,zQ h.a0,zQ h.ap,a h.aq,zQ h.af⟩
 |some .f=>exact⟨h.d,w,zQ h.a0,zQ h.ap,zQ h.aq,a h.af⟩
theorem all_map{f:α->D×AV}{p:D×AV->Bool}(h:∀e,p (f e)=true)(l:List α):(l.map f).all p=true:=zC.mpr λx hx=>by
 refine ze (zH.mp hx) λe j4=>(zg (λ_ xX=>?_) j4);refine gL xX ?_;exact h e
theorem H8(x:P3):isStr x.d=true:=by cases x <;> rfl
theorem aaj k (W:List (Int×Wt)):d6 (wK k) (W.map wD)=true:=zW.mpr (.inr (aX rfl (all_map (λ_=>rfl) W)))
theorem Be(x:P3)(A:List (P3×Int)):d6 x.d (A.map aD)=true:=zW.mpr (.inl (aX (H8 x) (all_map (λe=>H8 e.1) A)))
theorem oo{f:α->D×AV}{m:Nat}{l:List α}(h:l.length<=m)(hm:m<=900):decide ((l.map f).length<lim)=true:=dt (by
 exact gR (zA ..) (zM (zk h hm) (by decide)))
theorem Bf K s {m:Nat} (h:Vd m s) (hm:m<=900) k:E 1 16 [.o 12,.d (.int k.1),.d (.str k.2.s)] (PG K s) (.ok (.d .none,PG K (s.vn k))):=by have e:PG K (s.vn k)=PR K {s.r with W:=dw (wK k) (.d (.bool true)) s.r.W}:=congrArg (λW=>PR K {s.r with W:=W}) (QW k s.W).symm;exact gR e (go (s:=.ret (sn true (d6 (wK k) s.r.W&&(decide (s.r.W.length<lim)&&true))) (rv .none (PR K {s.r with W:=dw (wK k) (.d (.bool true)) s.r.W}))) (by kernel_rfl) ⟨bN rfl (aX (aaj k s.W) (aX (oo h.W hm) rfl)),rfl⟩)
inductive Kv where
 |n
 |o (y:P3) (p:PK)
 |t (y:P3) (p q:PK)
def Kv.l:Kv->List (D×D)
 |.n=>[]
 |.o y p=>[(pnm y 0,kD p)]
 |.t y p q=>[(pnm y 0,kD p),(pnm y 1,kD q)]
def Kv.d(k:Kv):D:=.dict k.l
noncomputable def bT(p q:PK):List Kv:=[.n,.o .p p,.o .q p,.o .f p,.t .p p q,.t .q p q,.t .f p q]
theorem xp{f g:Kv->α}(h:∀p q,(bT p q).map f=(bT p q).map g) k:f k=g k:=by
 cases k with
 |n=>exact bz (h .a .a) (.head _)
 |o y p=>exact bz (h p p) (zy (i:=match y with |.p=>1 |.q=>2 |.f=>3) (by cases y <;> rfl))
 |t y p q=>exact bz (h p q) (zy (i:=match y with |.p=>4 |.q=>5 |.f=>6) (by cases y <;> rfl))
noncomputable def Pm.num:Pm->Nat
 |.n=>0
 |.o _ _=>1
 |.t _ _ _ _=>2
noncomputable def Kx.pm(K:Kx):P3->Pm
 |.p=>K.mp
 |.q=>K.mq
 |.f=>K.mf
noncomputable def Kx.set(K:Kx)(y:P3)(m:Pm):Kx:=match y with
 |.p=>{K with mp:=m}
 |.q=>{K with mq:=m}
 |.f=>{K with mf:=m}
theorem Kx.jh(K:Kx)(y:P3):K.set y (K.pm y)=K:=by cases y <;> rfl
noncomputable def pms(s:Int)(a:N)(u:Int)(b:N):List Pm:=[.n,.o s a,.t s a u b]
theorem QX{f g:Pm->α}(h:∀s a u b,(pms s a u b).map f=(pms s a u b).map g) m:f m=g m:=by
 cases m with
 |n=>exact bz (h 0 (.cH 0) 0 (.cH 0)) (.head _)
 |o s a=>exact bz (h s a s a) (.tail _ (.head _))
 |t s a u b=>exact bz (h s a u b) (.tail _ (.tail _ (.head _)))
section
variable(K:Kx)(s:St)
theorem aak b (kv:Kv):E 5 43 [.o 12,.d (sb b),.d kv.d] (PG K s) (.ok (.d (.int (-1)),PG K s)):=bI λn=>xp (f:=λkv=>aC L.tb (n+5) 43 [.o 12,.d (sb b),.d kv.d] (PG K s)) (g:=λ_=>.ok (.d (.int (-1)),PG K s)) (λp q=>by cases b <;> kernel_rfl) kv
theorem H9 x (kv:Kv):E 5 43 [.o 12,.d x.d,.d kv.d] (PG K s) (.ok (.d (.int ((K.pm x).num)),PG K s)):=bI λn=>by
 have h:=fF (QX (λi a u b=>xp (f:=λkv=>(pms i a u b).map λm=>DG.map λx=>aC L.tb (n+5) 43 [.o 12,.d x.d,.d kv.d] (PG (K.set x m) s)) (g:=λkv=>(pms i a u b).map λm=>DG.map λx=>.ok (.d (.int (m.num)),PG (K.set x m) s)) (λp q=>by kernel_rfl) kv) (K.pm x)) x;rw[K.jh] at h;exact h
def Nq:Sq->D
 |none=>.tuple [S 0,.tuple []]
 |some q=>QJ q.1 (q.2.map N.d)
def bgA(kv:Kv)(m:Nat)(x:P3)(r:Sq):Sp:=.ask 43 [.o 12,.d x.d,.d kv.d] (PG K s) (.cQ (.ok (.d (.int (m:Int)),PG K s)) (.ret true (rv (Nq r) (PG K s))))
def tj(kv:Kv)(n:D)(o:Sq)(t:Sp):Sp:=.ask 44 [.o 12,.d n,.d kv.d] (PG K s) (.cQ (.ok (.d (Nq o),PG K s)) t)
abbrev bgE(kv:Kv)(n n':N)(f:P3->Nat->List N->Sq)(as:List N):Prop:=(DG.map λx=>[0,1,2].map λm=>walk L.tb 44 [.o 12,.d n.d,.d kv.d] (PG K s) (tj K s kv n'.d (some (x,as)) (bgA K s kv m x (f x m as))))=DG.map λx=>[0,1,2].map λm=>tj K s kv n'.d (some (x,as)) (bgA K s kv m x (f x m as))
theorem m2{m:Nat}(h:m<=2):m∈[0,1,2]:=zy (i:=m) (match m,h with
 |0,_=>rfl
 |1,_=>rfl
 |2,_=>rfl
 |_+3,h=>absurd (Za (Za h)) (Z6 _))
variable{w:Ws}(hw:∀x,(K.pm x).num=(w.at x).l.length)(kv:Kv)
include hw
theorem oq{n n':N}{f:P3->Nat->List N->Sq}{o':Sq}(hm:n'.w+1<=n.w)(e:E (n'.w+6) 44 [.o 12,.d n'.d,.d kv.d] (PG K s) (.ok (.d (Nq (n'.st w)),PG K s)))(h0:walk L.tb 44 [.o 12,.d n.d,.d kv.d] (PG K s) (tj K s kv n'.d none (.ret true (rv (Nq none) (PG K s))))=tj K s kv n'.d none (.ret true (rv (Nq none) (PG K s))))
  (k0:bgE K s kv n n' f []) (k1:∀x,bgE K s kv n n' f [x]) (k2:∀x y,bgE K s kv n n' f [x,y]) (ho:o'=(n'.st w).bind λq=>f q.1 (w.at q.1).l.length q.2):E (n.w+6) 44 [.o 12,.d n.d,.d kv.d] (PG K s) (.ok (.d (Nq o'),PG K s)):=by
 refine(?_:E (n'.w+6+1) _ _ _ _).up (zV hm 6);refine gR ho ?_;cases hq:n'.st w with
 |none=>
  replace e:=hq▸e;exact go h0 ⟨e,rfl,rfl⟩
 |some q=>
  rw[hq] at e;have h2:=(H9 K s q.1 kv).up (Zf 5 (n'.w+1));rw[hw] at h2;exact go (bz (fF (HZ k0 k1 k2 q.2 (zk ((qK) _ hq).1 (Pl.len _))) q.1) (m2 (Pl.len (w.at q.1)))) ⟨e,h2,rfl,rfl⟩
theorem u4{n:N}:E (n.w+6) 44 [.o 12,.d n.d,.d kv.d] (PG K s) (.ok (.d (Nq (n.st w)),PG K s)):=by
 have up:∀{m:N} {r},E 1 44 [.o 12,.d m.d,.d kv.d] (PG K s) r->E (m.w+6) 44 [.o 12,.d m.d,.d kv.d] (PG K s) r:=λe=>e.up (zk (zw (zE _)) (Zf 6 _))
 induction n with
 |nm u b=>exact go (s:=.ask 43 [.o 12,.d (sb b),.d kv.d] (PG K s) (.cQ (.ok (.d (.int (-1)),PG K s)) (.ret true (rv (Nq none) (PG K s))))) (by cases b <;> kernel_rfl) ⟨aak K s b kv,rfl,rfl⟩
 |pr u x=>
  have h:=H9 K s x kv;rw[hw] at h;exact(go (bz (fF (f:=λx=>[0,1,2].map λm=>walk L.tb 44 [.o 12,.d (N.pr u x).d,.d kv.d] (PG K s) (bgA K s kv m x (some (x,[])))) (g:=λx=>[0,1,2].map λm=>bgA K s kv m x (some (x,[]))) (by kernel_rfl) x) (m2 (Pl.len (w.at x)))) ⟨h,rfl,rfl⟩).up (Zf 6 _)
 |cH u=>exact up (go (s:=.ret true (rv _ _)) (by kernel_rfl) ⟨rfl,rfl⟩)
 |un u a=>exact up (go (s:=.ret true (rv _ _)) (by kernel_rfl) ⟨rfl,rfl⟩)
 |j6 u a b _ ih=>exact oq K s hw kv (f:=λx m as=>tk (decide (as.length<m)) x (a::as)) (zk (zO (yf _ _)) (zV (Zf 1 a.w) b.w)) ih (by kernel_rfl) (by kernel_rfl) (λ_=>by kernel_rfl) (λ_ _=>by kernel_rfl) (by cases h:b.st w <;> exact(congrArg (stL w a) h))
 |b0 u a ih=>exact oq K s hw kv (f:=λx m as=>tk (decide (0+as.length<=m)) x (as++[])) (zm _) ih (by kernel_rfl) (by kernel_rfl) (λ_=>by kernel_rfl) (λ_ _=>by kernel_rfl) (by cases h:a.st w <;> exact(congrArg (Dj w []) h))
 |b1 u a b ih=>exact oq K s hw kv (f:=λx m as=>tk (decide (1+as.length<=m)) x (as++[b])) (sN a.w b []) ih (by kernel_rfl) (by kernel_rfl) (λ_=>by kernel_rfl) (λ_ _=>by kernel_rfl) (by cases h:a.st w <;> exact(congrArg (Dj w [b]) h))
 |b2 u a b c ih=>exact oq K s hw kv (f:=λx m as=>tk (decide (2+as.length<=m)) x (as++[b,c])) (sN a.w b [c]) ih (by kernel_rfl) (by kernel_rfl) (λ_=>by kernel_rfl) (λ_ _=>by kernel_rfl) (by cases h:a.st w <;> exact(congrArg (Dj w [b,c]) h))
 |b3 u a b c d ih=>exact oq K s hw kv (f:=λx m as=>tk (decide (3+as.length<=m)) x (as++[b,c,d])) (sN a.w b [c,d]) ih (by kernel_rfl) (by kernel_rfl) (λ_=>by kernel_rfl) (λ_ _=>by kernel_rfl) (by cases h:a.st w <;> exact(congrArg (Dj w [b,c,d]) h))
end
noncomputable def lk:N->PK
 |.nm _ b=>cond b .b .a
 |_=>.i
set_option tactic.hygienic true in
theorem ot{n:N}{m:Bool}(h:n.lf m):(lk n).m=some m:=by
 cases n <;> cases m <;> first
  |exact h.elim
  |(rename_i b;cases b <;> rfl)
  |rfl
noncomputable def sT:List PK:=[.a,.b,.i]
theorem aal(h:p.m≠none):p∈sT:=by
 cases p with
 |a=>exact .head _
 |b=>exact .tail _ (.head _)
 |i=>exact .tail _ (.tail _ (.head _))
 |t=>exact absurd rfl h
theorem ou{n:N}{m:Bool}(h:n.lf m):lk n∈sT:=aal λe=>ns (e.symm.trans (ot h))
def wsK(u:Int)(r:KR):KR:=vk r λp=>match p.m with
 |none=>.ck u
 |some _=>.k p
noncomputable def fw(f:Nat)(vs:List AV)(g:G)(r:R (AV×G))(o:R (Fl×Env×G)):Sp:=.ask f vs g (.cQ r (.ret true o))
def kro(K:Kx)(s:St):KR->R (Fl×Env×G)
 |.k p=>rv (kD p) (PG K s)
 |.ck u=>.ex (.int u) (PG K s)
theorem md(K:Kx)(s:St)(r:KR):aR (kro K s r)=bG K s r:=by cases r <;> rfl
section
variable(K:Kx)(s:St)
theorem LO b u (kv:Kv):E 10 37 [.o 12,.d (sb b),.d (.int u),.d kv.d] (PG K s) (.ok (.d (kD (cond b .b .a)),PG K s)):=
 go (s:=.ask 61 [.o 7,.d (sb b)] (PG K s) (.cQ (.ok (.d (.bool true),PG K s)) (fw 17 [.o 12,.d (sb b)] (PG K s) (.ok (.d (kD (cond b .b .a)),PG K s)) (rv (kD (cond b .b .a)) (PG K s)))))
  (xp (f:=λkv=>walk L.tb 37 [.o 12,.d (sb b),.d (.int u),.d kv.d] (PG K s) _) (g:=λ_=>_) (λp q=>by cases b <;> kernel_rfl) kv) ⟨(aai K s b).up (by decide),QV K s b,rfl,rfl⟩
variable{w:Ws}(hw:∀x,(K.pm x).num=(w.at x).l.length)(kv:Kv)
include hw
theorem sU{n:N}{m:Bool}(h:n.lf m):E 11 35 [.o 12,.d n.d,.d kv.d] (PG K s) (.ok (.d (kD (lk n)),PG K s)):=by
 have h1:=(u4 K s hw kv).up (k':=10) (by refine gR (sI h ..) ?_;decide);cases n with
 |nm u b=>exact go (s:=tj K s kv _ none (fw 37 [.o 12,.d (sb b),.d (.int u),.d kv.d] (PG K s) (.ok (.d (kD (cond b .b .a)),PG K s)) (rv (kD (cond b .b .a)) (PG K s)))) (by cases b <;> kernel_rfl) ⟨h1,LO K s b u kv,rfl,rfl⟩
 |cH u=>exact go (s:=tj K s kv _ none (fw 8 [.o 12] (PG K s) (.ok (.d cI,PG K s)) (rv (kD .i) (PG K s)))) (by kernel_rfl) ⟨h1,(H5 K s).up (zN _),rfl,rfl⟩
 |_=>cases m <;> exact h.elim
theorem j0{n:N}{m:Bool}(h:n.lf m):E 13 23 [.o 12,.d n.d,.d kv.d,.d (.bool true)] (PG K s) (.ok (.d (kD (lk n)),PG K s)):=by
 have h2:E 12 24 [.o 12,.d n.d,.d kv.d] (PG K s) (.ok (.d (kD (lk n)),PG K s)):=go (s:=fw 35 [.o 12,.d n.d,.d kv.d] (PG K s) (.ok (.d (kD (lk n)),PG K s)) (rv (kD (lk n)) (PG K s))) (by
  cases n with
  |nm u b=>cases b <;> kernel_rfl
  |cH u=>kernel_rfl
  |_=>cases m <;> exact h.elim) ⟨(sU K s hw kv h),rfl,rfl⟩
 exact go (bz (f:=λp=>walk L.tb 23 [.o 12,.d n.d,.d kv.d,.d (.bool true)] (PG K s) (fw 24 [.o 12,.d n.d,.d kv.d] (PG K s) (.ok (.d (kD p),PG K s)) (rv (kD p) (PG K s)))) (g:=λp=>fw 24 [.o 12,.d n.d,.d kv.d] (PG K s) (.ok (.d (kD p),PG K s)) (rv (kD p) (PG K s))) (by kernel_rfl) (ou h)) ⟨h2,rfl,rfl⟩
end
def txS(K:Kx)(s:St)(p:PK)(u:Int):Sp:=.ask 0 [.d (kD p)] (PG K s) (.cQ (.ok (.d (.str (ktS p)),PG K s)) (.ret true (.ex (.int u) (PG K s))))
def qS(vs:List AV)(f:Nat)(K:Kx)(s s':St)(r:KR)(t:Sp):Sp:=.ask f vs (PG K s) (.cQ (bG K s' r) t)
def wsS(K:Kx)(s':St)(u:Int):KR->Sp
 |.ck t=>.ret true (.ex (.int t) (PG K s'))
 |.k .t=>txS K s' .t u
 |.k p=>.ret true (rv (kD p) (PG K s'))
theorem lg{f g:KR->α}(h:∀t,(KR.ck t::vm.map KR.k).map f=(KR.ck t::vm.map KR.k).map g) r:f r=g r:=by
 cases r with
 |ck t=>exact bz (h t) (.head _)
 |k p=>exact bz (h 0) (.tail _ (ZI (zy (i:=match p with |.a=>0 |.b=>1 |.i=>2 |.t=>3) (by cases p <;> rfl))))
theorem Bg{K:Kx}{s:St}{kv:D}{k:Nat}(hk:1<=k)(n:N){r:KR}(h:E k 35 [.o 12,.d n.d,.d kv] (PG K s) (bG K s' r)):E (k+1) 23 [.o 12,.d n.d,.d kv,.d (.bool false)] (PG K s) (bG K s' (wsK n.s r)):=by
 rw[lS n] at h⊢;refine go (lg (f:=λr=>walk L.tb 23 [.o 12,.d n.rw.d,.d kv,.d (.bool false)] (PG K s) (qS [.o 12,.d n.rw.d,.d kv] 35 K s s' r (wsS K s' n.rw.s r))) (g:=λr=>qS [.o 12,.d n.rw.d,.d kv] 35 K s s' r (wsS K s' n.rw.s r)) (λt=>by kernel_rfl) r) ⟨h,?_⟩;cases r with
 |ck t=>exact⟨rfl,rfl⟩
 |k p=>cases p with
  |t=>exact⟨(u3 .t _).up hk,rfl,rfl⟩
  |_=>exact⟨rfl,rfl⟩
def Nr(K:Kx)(s:St):Option Int->R (AV×G)
 |some u=>.ex (.int u) (PG K s)
 |none=>.ok (.d .none,PG K s)
def wtS(K:Kx)(s':St)(u:Int):KR->Sp
 |.ck t=>.ret true (.ex (.int t) (PG K s'))
 |.k .t=>.ret true (rv .none (PG K s'))
 |.k p=>txS K s' p u
theorem QY{K:Kx}{s:St}{kv:D}{k:Nat}(hk:1<=k)(n:N){r:KR}(h:E k 35 [.o 12,.d n.d,.d kv] (PG K s) (bG K s' r)):E (k+1) 36 [.o 12,.d n.d,.d kv] (PG K s) (Nr K s' (Ba n.s r)):=by
 rw[lS n] at h⊢;refine go (lg (f:=λr=>walk L.tb 36 [.o 12,.d n.rw.d,.d kv] (PG K s) (qS [.o 12,.d n.rw.d,.d kv] 35 K s s' r (wtS K s' n.rw.s r))) (g:=λr=>qS [.o 12,.d n.rw.d,.d kv] 35 K s s' r (wtS K s' n.rw.s r)) (λt=>by kernel_rfl) r) ⟨h,?_⟩;cases r with
 |ck t=>exact⟨rfl,rfl⟩
 |k p=>cases p with
  |t=>exact⟨rfl,rfl⟩
  |_=>exact⟨(u3 _ _).up hk,rfl,rfl⟩
def Pm.kv(y:P3):Pm->Kv
 |.n=>.n
 |.o _ a=>.o y (lk a)
 |.t _ a _ b=>.t y (lk a) (lk b)
def Pm.ks:Pm->List PK
 |.n=>[]
 |.o _ a=>[lk a]
 |.t _ a _ b=>[lk a,lk b]
section
variable(K:Kx)(s:St)
def dcR(y:P3)(kv:Kv)(ks:List PK):R (Fl×Env×G):=rv (.tuple [kv.d,.list (ks.map kD)]) (PG K s)
def dcA(a:N)(kv:Kv)(p:PK)(t:Sp):Sp:=.ask 23 [.o 12,.d a.d,.d kv.d,.d (.bool true)] (PG K s) (.cQ (.ok (.d (kD p),PG K s)) t)
def dc2(a b:N)(y:P3)(p q:PK):Sp:=dcA K s a .n p (dcA K s b (.o y p) q (.ret (sn (sn true (IU (PG K s))) (IU (PG K s))) (dcR K s y (.t y p q) [p,q])))
theorem sV{w:Ws}(hw:∀x,(K.pm x).num=(w.at x).l.length)(hg:IU (PG K s)=true) y {m:Pm} {pl:Pl} (hm:m.ok pl):E 14 40 [.o 12,.d (m.d y),.d (.dict []),.d (.bool false)] (PG K s) (.ok (.d (.tuple [(m.kv y).d,.list (m.ks.map kD)]),PG K s)):=by
 cases m with
 |n=>exact go (s:=.ret true (dcR K s y .n [])) (by kernel_rfl) ⟨rfl,rfl⟩
 |o u a=>cases pl with
  |o m=>exact go (bz (fF (f:=λy=>sT.map λp=>walk L.tb 40 [.o 12,.d (.tuple [decl y 0 u a]),.d (.dict []),.d (.bool false)] (PG K s) (dcA K s a .n p (.ret (sn true (IU (PG K s))) (dcR K s y (.o y p) [p])))) (g:=λy=>sT.map λp=>dcA K s a .n p (.ret (sn true (IU (PG K s))) (dcR K s y (.o y p) [p]))) (by kernel_rfl) y) (ou hm)) ⟨j0 K s hw .n hm,bN rfl hg,rfl⟩
  |_=>exact hm.elim
 |t u a v b=>cases pl with
  |t m m'=>
   have h2:=bz (fF (f:=λy=>sT.map λp=>sT.map λq=>walk L.tb 40 [.o 12,.d (.tuple [decl y 0 u a,decl y 1 v b]),.d (.dict []),.d (.bool false)] (PG K s) (dc2 K s a b y p q)) (g:=λy=>sT.map λp=>sT.map λq=>dc2 K s a b y p q) (by kernel_rfl) y) (ou hm.1);exact go (bz h2 (ou hm.2)) ⟨j0 K s hw .n hm.1,j0 K s hw (.o y (lk a)) hm.2,bN (bN rfl hg) hg,rfl⟩
  |_=>exact hm.elim
end
def Sr.put(r:Sr)(x:P3)(u:Int):Sr:=match r.pl with
 |none=>{r with A0:=dw x.d (.d (.int u)) r.A0}
 |some .p=>{r with Ap:=dw x.d (.d (.int u)) r.Ap}
 |some .q=>{r with Aq:=dw x.d (.d (.int u)) r.Aq}
 |some .f=>{r with Af:=dw x.d (.d (.int u)) r.Af}
noncomputable def Sr.R0(r:Sr):List (D×AV):=match r.pl with
 |none=>r.A0
 |some .p=>r.Ap
 |some .q=>r.Aq
 |some .f=>r.Af
def Sr.bg(r:Sr)(x:P3):Sr:={r with b:=[(x.d,.d (.bool true))]}
def QZ(x:P3)(as:D)(u:Int)(kv:D):Env:=[.v (.o 12),.v (.d x.d),.v (.d as),.v (.d (.int u)),.v (.d kv),.un,.un,.un,.un,.un,.un,.un,.un]
noncomputable def Q0:List (Option P3):=[none,some .p,some .q,some .f]
theorem aam(o:Option P3):o∈Q0:=zy (i:=match o with |none=>0 |some .p=>1 |some .q=>2 |some .f=>3) (by rcases o with _ |_ |_ |_ <;> rfl)
def R2(K:Kx)(r:Sr)(x:P3)(as:D)(u:Int)(kv:D):Sp:=.ret (sn true (d6 x.d r.R0&&(decide (r.R0.length<lim)&&true))) (.ok (.gV,QZ x as u kv,PR K ((r.put x u).bg x)))
theorem LP(K:Kx)(pl:Option P3)(W A0 Ap Aq Af:List (D×AV))(x:P3)(as:D)(u:Int)(kv:D):(aY L.tb (aK.fst 3 oP) (QZ x as u kv) (PR K ⟨pl,W,[],A0,Ap,Aq,Af⟩)).left id true (R2 K ⟨pl,W,[],A0,Ap,Aq,Af⟩ x as u kv)=R2 K ⟨pl,W,[],A0,Ap,Aq,Af⟩ x as u kv:=by exact bz (fF (f:=λx=>Q0.map λpl=>(aY L.tb (aK.fst 3 oP) (QZ x as u kv) (PR K ⟨pl,W,[],A0,Ap,Aq,Af⟩)).left id true (R2 K ⟨pl,W,[],A0,Ap,Aq,Af⟩ x as u kv)) (g:=λx=>Q0.map λpl=>R2 K ⟨pl,W,[],A0,Ap,Aq,Af⟩ x as u kv) (by kernel_rfl) x) (aam pl)
noncomputable def St.bg(s:St)(x:P3):St:={s with b:=some x}
noncomputable def St.nb(s:St):St:={s with b:=none}
structure Ar where
 d:Rw
 r:KR
 f:St->St
 c:Nat
noncomputable def gX:PK->PK->Bool
 |.a,.a |.b,.b |.i,.i=>true
 |_,_=>false
def II(p q:PK):Bool:=decide (p.m=q.m)
def Nt(u:Int)(x:P3)(p q:PK)(s:St):St:=match gX p q with
 |true=>s
 |false=>s.vn (u,.x x)
noncomputable def pQ(x:P3):List Ar->List PK->St->St
 |e::t,q::ks,s=>match e.r with
  |.ck _=>e.f s
  |.k p=>match p.m with
   |none=>e.f s
   |some _=>match II p q with
    |true=>pQ x t ks (Nt e.d.s x p q (e.f s))
    |false=>e.f s
 |_,_,s=>s
section
variable(K:Kx)(x:P3)(kv o:D)
def agW(u:Int)(p q:PK)(s:St)(t:St->Sp):Sp:=match gX p q with
 |true=>t s
 |false=>.ask 16 [.o 12,.d (.int u),.d (.str (Wt.x x).s)] (PG K s) (.cQ (.ok (.d .none,PG K (s.vn (u,.x x)))) (t (s.vn (u,.x x))))
def agC(u:Int)(p q:PK)(s:St)(t:St->Sp):Sp:=match II p q with
 |false=>.ret true (.ex (.int u) (PG K s))
 |true=>.ask 9 [.o 12,.d (u0 p),.d (u0 q)] (PG K s) (.cQ (.ok (.d (mtD p q),PG K s)) (agW K x u p q s t))
def Q3(p:PK)(s:St)(t:Sp):Sp:=.cQ (.ok (.d (kD p),PG K s)) t
def agK(u:Int)(q:PK)(s:St)(t:St->Sp):Sp:=.pO (.fn λz=>.cQ (.ex (.int z.s) (PG K s)) (.ret true (.ex (.int z.s) (PG K s)))) (.pO (Q3 K .a s (agC K x u .a q s t)) (.pO (Q3 K .b s (agC K x u .b q s t)) (Q3 K .i s (agC K x u .i q s t))))
noncomputable def Q4:List Ar->List PK->St->Sp
 |e::t,q::ks,s=>.ask 23 [.o 12,.d e.d.d,.d kv,.d (.bool false)] (PG K s) (agK K x e.d.s q (e.f s) (Q4 t ks))
 |_,_,s=>.ret true (rv o (PG K s))
def tlS(j1:D)(s:St)(t:Sp):Sp:=match x with
 |.f=>.ask 23 [.o 12,.d K.told.d,.d j1,.d (.bool true)] (PG K s) (.cQ (.ok (.d o,PG K s)) t)
 |_=>t
def c2S(j1:D)(s:St)(as:List Ar)(ks:List PK):Sp:=.ask 40 [.o 12,.d ((K.pm x).d x),.d (.dict []),.d (.bool false)] (PG K (s.bg x)) (.cQ (.ok (.d (.tuple [j1,.list (ks.map kD)]),PG K (s.bg x))) (tlS K x o j1 (s.bg x) (Q4 K x kv o as ks s.nb)))
end
def oD(x:P3)(o:D):D:=match x with
 |.f=>o
 |_=>kD .t
abbrev Q5(K:Kx)(kv o j1:D)(u:Int)(s:St)(as:List Ar)(ks:List PK)(x:P3):Sp:=(aY L.tb (aK.off 3 oP) (QZ x (.tuple (as.map (·.d.d))) u kv) (PG K (s.bg x))).left fin true (c2S K x kv (oD x o) j1 s as ks)
abbrev Q6(K:Kx)(kv o j1:D)(s:St)(as:List Ar)(ks:List PK)(x:P3):Sp:=c2S K x kv (oD x o) j1 s as ks
theorem acP(K:Kx)(kv o j1:D)(u:Int)(s:St)(x:P3):Q5 K kv o j1 u s [] [] x=Q6 K kv o j1 s [] [] x:=fF (f:=Q5 K kv o j1 u s [] []) (g:=Q6 K kv o j1 s [] []) (by kernel_rfl) x
theorem acQ(K:Kx)(kv o j1:D)(u:Int)(s:St)(a:Ar)(hp:p∈sT)(x:P3):Q5 K kv o j1 u s [a] [p] x=Q6 K kv o j1 s [a] [p] x:=by have h2:=bz (fF (f:=λx=>sT.map λp=>Q5 K kv o j1 u s [a] [p] x) (g:=λx=>sT.map λp=>Q6 K kv o j1 s [a] [p] x) (by kernel_rfl) x) hp;exact h2
theorem acR(K:Kx)(kv o j1:D)(u:Int)(s:St)(a b:Ar){q:PK}(hp:p∈sT)(hq:q∈sT)(x:P3):Q5 K kv o j1 u s [a,b] [p,q] x=Q6 K kv o j1 s [a,b] [p,q] x:=by have h2:=bz (fF (f:=λx=>sT.map λp=>sT.map λq=>Q5 K kv o j1 u s [a,b] [p,q] x) (g:=λx=>sT.map λp=>sT.map λq=>Q6 K kv o j1 s [a,b] [p,q] x) (by kernel_rfl) x) hp;have h3:=bz h2 hq;exact h3
noncomputable def oG(e:KR):List (Int×KR)->List PK->KR
 |x::t,q::ks=>vk x.2 λp=>match p.m with
  |none=>.ck x.1
  |some _=>match II p q with
   |true=>oG e t ks
   |false=>.ck x.1
 |_,_=>e
theorem Ia{e:KR}:∀{as:List (Int×KR)} {ks:List PK} {ms:List Bool},ks.map PK.m=ms.map some->oG e as ks=k9 e as ms
 |[],_,_,_=>by cases ‹List PK› <;> cases ‹List Bool› <;> rfl
 |_::_,[],[],_=>rfl
 |_::_,[],_::_,h=>nomatch h
 |_::_,_::_,[],h=>nomatch h
 |(u,r)::t,q::ks,m::ms,h=>by
  cases r with
  |ck v=>rfl
  |k p=>
   refine(?_:(match p.m with
    |none=>KR.ck u
    |some _=>match decide (p.m=q.m) with
     |true=>oG e t ks
     |false=>.ck u)=fkK u (QL u m p) (k9 e t ms))
   refine gR (((yy h).1) ..) (gR ((Ia (yy h).2) ..) ?_);cases p <;> cases m <;> rfl
structure KOk(K:Kx):Prop where
 o0:gT K.o0=true
 o1:gT K.o1=true
 o2:gT K.o2=true
 o3:gT K.o3=true
 o4:gT K.o4=true
 o5:gT K.o5=true
 cy:bK K.cy=true
 c:gT (.dict K.aW)=true
theorem Nu(x:P3):(nodict x.d&&true)=true:=by cases x <;> rfl
theorem xq{K:Kx}(h:KOk K) s:IU (PG K s)=true:=by
 have a:=λA:List (P3×Int)=>(all_map (λe=>Nu e.1) A:gT (.dict (A.map aD))=true);have b:gT (.dict (QU s.b))=true:=match s.b with
  |none=>rfl
  |some x=>(Bool.and_true _).trans (Nu x)
 have pl:gT (.inst 4 [(257,.o 7),(276,.o 13),(275,.o 14),(223,.o 15),(151,.o 16),(267,.o 17),(98,.o 19),(126,.d (plD s.pl)),(153,.o 6),(205,.o 20)])=true:=by rcases s.pl with _ |_ |_ |_ <;> rfl
 exact aX h.o0 (aX h.o1 (aX h.o2 (aX h.o3 (aX h.o4 (aX h.o5 (aX h.cy (aX rfl (aX rfl (aX rfl (aX rfl (aX rfl (aX pl (aX rfl (aX rfl (aX (all_map (λ_=>rfl) s.W) (aX h.c (aX b (aX (a _) (aX rfl (aX rfl (aX (a _) (aX (a _) (aX (a _) rfl)))))))))))))))))))))))
theorem aan(s:St) x u:(s.put x u).r=s.r.put x u:=by
 obtain⟨pl,W,b,A0,Ap,Aq,Af⟩:=s;rcases pl with _ |_ |_ |_
 ·exact congrArg (λA=>(⟨none,W.map wD,QU b,A,Ap.map aD,Aq.map aD,Af.map aD⟩:Sr)) (sQ x u A0).symm
 ·exact congrArg (λA=>(⟨some .p,W.map wD,QU b,A0.map aD,A,Aq.map aD,Af.map aD⟩:Sr)) (sQ x u Ap).symm
 ·exact congrArg (λA=>(⟨some .q,W.map wD,QU b,A0.map aD,Ap.map aD,A,Af.map aD⟩:Sr)) (sQ x u Aq).symm
 ·exact congrArg (λA=>(⟨some .f,W.map wD,QU b,A0.map aD,Ap.map aD,Aq.map aD,A⟩:Sr)) (sQ x u Af).symm
theorem Q7{m:Nat}{s:St}(h:Vd m s)(hm:m<=900)(x:P3):(d6 x.d s.r.R0&&(decide (s.r.R0.length<lim)&&true))=true:=by
 obtain⟨pl,W,b,A0,Ap,Aq,Af⟩:=s;rcases pl with _ |_ |_ |_
 ·exact aX (Be x A0) (aX (oo h.a0 hm) rfl)
 ·exact aX (Be x Ap) (aX (oo h.ap hm) rfl)
 ·exact aX (Be x Aq) (aX (oo h.aq hm) rfl)
 ·exact aX (Be x Af) (aX (oo h.af hm) rfl)
theorem Nv{s:St}:(s.put x u).b=s.b:=by obtain⟨pl,W,b,A0,Ap,Aq,Af⟩:=s;rcases pl with _ |_ |_ |_ <;> rfl
def aao(K:Kx)(kv:D)(k:Nat)(e:Ar):Prop:=∀(m:Nat) (s:St),Vd m s->m+e.c<=900->s.b=none->aG (E k 23 [.o 12,.d e.d.d,.d kv,.d (.bool false)] (PG K s) (bG K (e.f s) (wsK e.d.s e.r))) (Vd (m+e.c) (e.f s)) ((e.f s).b=none)
noncomputable def sW:List Ar->Nat
 |[]=>0
 |e::r=>e.c+1+sW r
section
variable{K:Kx}{kv o:D}{k:Nat}(hk:12<=k){p0:PK}
include hk
theorem Nx(ho:o=kD p0):∀{as:List Ar} {ks:List PK} {s:St} {m:Nat} {Z:R (AV×G)->Prop},(∀e∈as,aao K kv k e)->Vd m s->m+sW as<=900->s.b=none->
  Good (E k) (λy=>aR y=bG K (pQ x as ks s) (oG (.k p0) (as.map λe=>(e.d.s,e.r)) ks)) Z (Q4 K x kv o as ks s)
 |[],ks,s,m,Z,_,_,_,_=>⟨rfl,ho▸rfl⟩
 |_::_,[],s,m,Z,_,_,_,_=>⟨rfl,ho▸rfl⟩
 |⟨d,r,f,c⟩::t,q::ks,s,m,Z,ha,hv,hm,hb=>by
  have hm:m+(c+1+sW t)<=900:=hm;have h1:=zk (zk (zu _ 1) (zu _ (sW t))) (zk (zO (gR (Zb m c ..) (gR (Zb m ..) rfl))) hm);obtain⟨e,v,b⟩:=ha _ (.head _) m s hv h1 hb;have ih:=λs' (v':Vd (m+c+1) s') b' Z=>Nx (ks:=ks) (Z:=Z) ho (λe he=>ha e (.tail _ he)) v' (zk (zO (gR (Zb m c ..) (gR (Zb m ..) rfl))) hm) b';have ck:∀u,E k 23 [.o 12,.d d.d,.d kv,.d (.bool false)] (PG K s) (.ex (.int u) (PG K (f s)))->Good (E k) (λy=>aR y=.ex (.int u) (PG K (f s))) Z (.ask 23 [.o 12,.d d.d,.d kv,.d (.bool false)] (PG K s) (agK K x d.s q (f s) (Q4 K x kv o t ks))):=λu e=>.inl ⟨N.xd [] u 0 0 .none [],e,rfl,rfl⟩;cases r with
  |ck u=>exact ck u e
  |k p=>
   have go:∀Z,p.m.isSome=true->Good (E k) (λy=>aR y=bG K (match II p q with
     |true=>pQ x t ks (Nt d.s x p q (f s))
     |false=>f s) (match II p q with
     |true=>oG (.k p0) (t.map λe=>(e.d.s,e.r)) ks
     |false=>.ck d.s)) Z (agC K x d.s p q (f s) (Q4 K x kv o t ks)):=λZ hp=>by
    unfold agC;cases hq:II p q with
    |false=>exact⟨rfl,rfl⟩
    |true=>
     refine⟨(Bc K (f s) p q (aX hp hq)).up hk,?_⟩;unfold agW Nt;cases gX p q with
     |true=>exact ih _ (v.up (zN _)) b _
     |false=>exact⟨(Bf K (f s) v h1 (d.s,.x x)).up (zk (zw (zE _)) hk),ih _ (v.vn _) b _⟩
   cases p with
   |t=>exact ck d.s e
   |a=>exact .inr (.inl ⟨e,go _ rfl⟩)
   |b=>exact .inr (.inr (.inl ⟨e,go _ rfl⟩))
   |i=>exact .inr (.inr (.inr ⟨e,go _ rfl⟩))
end
theorem Q8 K (kv o j1:D) u s x:∀as ks,as.length=ks.length->ks.length<=2->(∀p∈ks,p∈sT)->Q5 K kv o j1 u s as ks x=Q6 K kv o j1 s as ks x
 |[],[],_,_,_=>acP K kv o j1 u s x
 |[a],[p],_,_,h=>acQ K kv o j1 u s a (h p (.head _)) x
 |[a,b],[p,q],_,_,h=>acR K kv o j1 u s a b (h p (.head _)) (h q (.tail _ (.head _))) x
 |_,_::_::_::_,_,h,_=>absurd (Za (Za h)) (Z6 _)
 |[],_::_,h,_,_=>nomatch h
 |_::_,[],h,_,_=>nomatch h
 |[_],_::_::_,h,_,_=>nomatch Yw h
 |_::_::_,[_],h,_,_=>nomatch Yw h
 |_::_::_::_,[_,_],h,_,_=>nomatch Yw (Yw h)
theorem xr(m:Pm):m.ks.length=m.num:=by cases m <;> rfl
theorem aap{m:Pm}{pl:Pl}(h:m.ok pl):∀p∈m.ks,p∈sT:=by
 cases m with
 |n=>exact λ_ h=>nomatch h
 |o s a=>cases pl with
  |o m=>exact λp hp=>zX.mp hp▸ou h
  |_=>exact h.elim
 |t s a u b=>cases pl with
  |t m m'=>
   intro p hp;cases hp with
   |head=>exact ou h.1
   |tail _ hp=>exact zX.mp hp▸ou h.2
  |_=>exact h.elim
theorem Ny{m:Pm}{pl:Pl}(h:m.ok pl):m.ks.map PK.m=pl.l.map some:=by
 cases m <;> cases pl <;> first
  |rfl
  |exact h.elim
  |exact congrArg (λz=>[z]) (ot h)
  |exact congr (congrArg (λz w=>[z,w]) (ot h.1)) (ot h.2)
structure Cx(K:Kx)(w:Ws)(told:N)(res:Bool):Prop where
 ok:KOk K
 pm:∀x,(K.pm x).ok (w.at x)
 td:K.told=told.rw
 lf:N.lf told res
theorem Cx.num{K:Kx}{w:Ws}(h:Cx K w told res) x:(K.pm x).num=(w.at x).l.length:=by have:=congrArg List.length (Ny (h.pm x));rw[zA,zA,xr] at this;exact this
section
variable{K:Kx}{w:Ws}(C:Cx K w told res){kv:Kv}{k:Nat}(hk:15<=k)
include C hk
theorem Du x {as:List Ar} {s:St} {m:Nat} u (hl:as.length=(w.at x).l.length) (ha:∀e∈as,aao K kv.d k e) (hv:Vd m s) (hm:m+1+sW as<=900) (hb:s.b=none):
  E (k+1) 46 [.o 12,.d x.d,.d (.tuple (as.map (·.d.d))),.d (.int u),.d kv.d] (PG K s) (bG K (pQ x as (K.pm x).ks (s.put x u)) (oG (.k (Dm (lk told) x)) (as.map λe=>(e.d.s,e.r)) (K.pm x).ks)):=by
 have hn:=C.num x;have hb2:(s.put x u).b=none:=Nv.trans hb;have hv2:=hv.put x u;have go2:En L.tb k (aK.off 3 oP) (QZ x (.tuple (as.map (·.d.d))) u kv.d) (PR K ((s.put x u).r.bg x)) (bG K (pQ x as (K.pm x).ks (s.put x u)) (oG (.k (Dm (lk told) x)) (as.map λe=>(e.d.s,e.r)) (K.pm x).ks)):=by
  generalize s.put x u=s2 at hv2 hb2;have nb:s2.nb=s2:=by obtain⟨_,_,b,_,_,_,_⟩:=s2;subst hb2;rfl
  have hag:∀o,o=kD (Dm (lk told) x)->∀Z,Good (E k) (λy=>aR y=bG K (pQ x as (K.pm x).ks s2) (oG (.k (Dm (lk told) x)) (as.map λe=>(e.d.s,e.r)) (K.pm x).ks)) Z (Q4 K x kv.d o as (K.pm x).ks s2.nb):=by exact gR nb (λo ho Z=>Nx (zk (by decide) hk) ho ha hv2 hm hb2)
  have htl:∀Z,Good (E k) (λy=>aR y=bG K (pQ x as (K.pm x).ks s2) (oG (.k (Dm (lk told) x)) (as.map λe=>(e.d.s,e.r)) (K.pm x).ks)) Z (tlS K x (oD x (kD (lk told))) ((K.pm x).kv x).d (s2.bg x) (Q4 K x kv.d (oD x (kD (lk told))) as (K.pm x).ks s2.nb)):=by
   cases x with
   |f=>
    refine λZ=>⟨?_,hag _ rfl _⟩;refine gR C.td (gL (lS ..) ?_);exact(j0 K (s2.bg .f) C.num _ C.lf).up (zk (by decide) hk)
   |_=>exact hag _ rfl
  exact HD (Z:=nF) (Q8 K kv.d (kD (lk told)) ((K.pm x).kv x).d u s2 x as (K.pm x).ks (gR hl (gR (xr ..) (gR hn rfl))) (by refine gR (xr ..) (gR hn ?_);exact Pl.len _) (aap (C.pm x))) ⟨(sV K (s2.bg x) C.num (xq C.ok (s2.bg x)) x (C.pm x)).up (zk (zN _) hk),htl _⟩
 rw[(aan s x u)] at go2;have h46:(aK.fst 3 oP).IG (aK.off 3 oP)=oP:=by kernel_rfl
 have fin:∀r:Sr,(aY L.tb (aK.fst 3 oP) (QZ x (.tuple (as.map (·.d.d))) u kv.d) (PR K r)).left id true (R2 K r x (.tuple (as.map (·.d.d))) u kv.d)=R2 K r x (.tuple (as.map (·.d.d))) u kv.d->(d6 x.d r.R0&&(decide (r.R0.length<lim)&&true))=true->En L.tb k (aK.off 3 oP) (QZ x (.tuple (as.map (·.d.d))) u kv.d) (PR K ((r.put x u).bg x)) (bG K (pQ x as (K.pm x).ks (s.put x u)) (oG (.k (Dm (lk told) x)) (as.map λe=>(e.d.s,e.r)) (K.pm x).ks))->
   E (k+1) 46 [.o 12,.d x.d,.d (.tuple (as.map (·.d.d))),.d (.int u),.d kv.d] (PR K r) (bG K (pQ x as (K.pm x).ks (s.put x u)) (oG (.k (Dm (lk told) x)) (as.map λe=>(e.d.s,e.r)) (K.pm x).ks)):=λr hw hc hg=>
  En.ev (np:=5) (ns:=13) (by kernel_rfl) rfl (h46▸(xb (Z:=nF) hw ⟨bN rfl hc,hg⟩):)
 have hr:s.r=⟨s.pl,s.W.map wD,[],s.A0.map aD,s.Ap.map aD,s.Aq.map aD,s.Af.map aD⟩:=congrArg (λb=>(⟨s.pl,s.W.map wD,QU b,s.A0.map aD,s.Ap.map aD,s.Aq.map aD,s.Af.map aD⟩:Sr)) hb;refine fin s.r ?_ (Q7 hv (zk (zu m _) (Zb m 1 _▸hm)) x) go2;exact gR hr (LP K s.pl _ _ _ _ _ x _ u _)
end
def ckS(K:Kx)(s s':St)(x:P3)(as:List D)(u:Int)(kv:D)(r:KR)(m:Nat):Sp:=.ask 43 [.o 12,.d x.d,.d kv] (PG K s) (.cQ (.ok (.d (.int (m:Int)),PG K s)) (match decide (as.length<m) with
 |true=>.ret true (.ex (.int u) (PG K s))
 |false=>.ask 46 [.o 12,.d x.d,.d (.tuple as),.d (.int u),.d kv] (PG K s) (.cQ (bG K s' r) (.ret true (kro K s' r)))))
abbrev ckF(K:Kx)(s s':St)(x:P3)(as:List D)(u:Int)(kv:D)(r:KR)(m:Nat):Sp:=walk L.tb 45 [.o 12,.d x.d,.d (.tuple as),.d (.int u),.d kv] (PG K s) (ckS K s s' x as u kv r m)
abbrev ckE(K:Kx)(s s':St)(u:Int)(kv:D)(as:List D):Prop:=∀t,((KR.ck t::vm.map KR.k).map λr=>[0,1,2].map λm=>DG.map λx=>ckF K s s' x as u kv r m)=(KR.ck t::vm.map KR.k).map λr=>[0,1,2].map λm=>DG.map λx=>ckS K s s' x as u kv r m
theorem LQ K (s s':St) x as (hl:as.length<=2) u kv r {m:Nat} (hm:m<=2):ckF K s s' x as u kv r m=ckS K s s' x as u kv r m:=by have h2:=bz (lg (HZ (P:=ckE K s s' u kv) (λt=>by kernel_rfl) (λ_ t=>by kernel_rfl) (λ_ _ t=>by kernel_rfl) as hl) r) (m2 hm);exact(fF h2 x)
def smP(K:Kx)(s s':St)(n:Rw)(kv:D)(as:List D)(r:KR)(x:P3):Sp:=.ask 44 [.o 12,.d n.d,.d kv] (PG K s) (.cQ (.ok (.d (QJ x as),PG K s)) (.ask 45 [.o 12,.d x.d,.d (.tuple as),.d (.int n.s),.d kv] (PG K s) (.cQ (bG K s' r) (.ret true (kro K s' r)))))
theorem LR K (s s':St) n kv as r x:walk L.tb 35 [.o 12,.d n.d,.d kv] (PG K s) (smP K s s' n kv as r x)=smP K s s' n kv as r x:=by exact fF (lg (f:=λr=>DG.map λx=>walk L.tb 35 [.o 12,.d n.d,.d kv] (PG K s) (smP K s s' n kv as r x)) (g:=λr=>DG.map λx=>smP K s s' n kv as r x) (λt=>by kernel_rfl) r) x
def krP(K:Kx)(s':St)(k:PK->Sp):Sp:=.pO (.fn λx=>.cQ (.ex (.int x.s) (PG K s')) (.ret true (.ex (.int x.s) (PG K s')))) (.pO (Q3 K .a s' (k .a)) (.pO (Q3 K .b s' (k .b)) (.pO (Q3 K .i s' (k .i)) (Q3 K .t s' (k .t)))))
def Q9(K:Kx)(s s':St)(d kv:D)(k:PK->Sp):Sp:=.ask 35 [.o 12,.d d,.d kv] (PG K s) (krP K s' k)
section
variable{An:Nat->List AV->G->R (AV×G)->Prop}{Z:R (AV×G)->Prop}{K:Kx}{s:St}{d kv:D}{r:KR}{k:PK->Sp}
theorem u5{o:R (AV×G)}(e:An 35 [.o 12,.d d,.d kv] (PG K s) (bG K s' r))(h0:∀t,r=.ck t->o=.ex (.int t) (PG K s'))(h1:∀p,r=.k p->∀Z,Good An (λy=>aR y=o) Z (k p)):Good An (λy=>aR y=o) Z (Q9 K s s' d kv k):=by
 cases r with
 |ck t=>exact .inl ⟨N.xd [] t 0 0 .none [],e,rfl,(h0 t rfl).symm⟩
 |k p=>cases p with
  |a=>exact .inr (.inl ⟨e,h1 _ rfl _⟩)
  |b=>exact .inr (.inr (.inl ⟨e,h1 _ rfl _⟩))
  |i=>exact .inr (.inr (.inr (.inl ⟨e,h1 _ rfl _⟩)))
  |t=>exact .inr (.inr (.inr (.inr ⟨e,h1 _ rfl _⟩)))
end
def DH(f:Nat)(vs:List AV)(K:Kx)(s s':St)(r:KR):Sp:=.ask f vs (PG K s) (.cQ (bG K s' r) (.ret true (kro K s' r)))
theorem Bh{An:Nat->List AV->G->R (AV×G)->Prop}{Z:R (AV×G)->Prop}{K:Kx}{s:St}{f:Nat}{r:KR}(e:An f vs (PG K s) (bG K s' r)):Good An (λy=>aR y=bG K s' r) Z (DH f vs K s s' r):=⟨e,rfl,md K s' r⟩
noncomputable def Ib(u:Int):List (KR×(St->St))->KR->St->St
 |(x,f)::l,.k q,s=>Ib u l (vk x λp=>jp p q u) (f s)
 |_,_,s=>s
noncomputable def bxP(K:Kx)(u:Int)(kv:D):List (D×(St->St))->KR->St->Sp
 |(d,f)::l,.k q,s=>Q9 K s (f s) d kv λp=>.ask 30 [.o 12,.d (kD p),.d (kD q),.d (.int u)] (PG K (f s)) (.cQ (bG K (f s) (jp p q u)) (bxP K u kv l (jp p q u) (f s)))
 |_,r,s=>.ret true (kro K s r)
def bx0(K:Kx)(u:Int)(kv:D)(s:St)(d:D)(f:St->St)(l:List (D×(St->St))):Sp:=Q9 K s (f s) d kv λp=>bxP K u kv l (.k p) (f s)
abbrev R3(K:Kx)(u:Int)(kv:D)(s:St)(d:D)(f:St->St)(l:List (D×(St->St))):Prop:=walk L.tb 42 [.o 12,.d (bD u d (l.map (·.1))),.d kv] (PG K s) (bx0 K u kv s d f l)=bx0 K u kv s d f l
theorem aaq K u kv s d f:R3 K u kv s d f []:=by kernel_rfl
theorem aar K u kv s d f a:R3 K u kv s d f [a]:=by kernel_rfl
theorem aas K u kv s d f (a b:D×(St->St)):R3 K u kv s d f [a,b]:=by kernel_rfl
theorem aat K u kv s d f (a b c:D×(St->St)):R3 K u kv s d f [a,b,c]:=by kernel_rfl
def bnP(K:Kx)(u:Int)(kv:D)(s s1 s2:St)(a b:D):Sp:=Q9 K s s1 a kv λp=>Q9 K s1 s2 b kv λq=>DH 30 [.o 12,.d (kD p),.d (kD q),.d (.int u)] K s2 s2 (jp p q u)
theorem LS K u kv (s s1 s2) (a b:D):walk L.tb 38 [.o 12,.d (.tuple [S 52,.int u,S 7,a,b]),.d kv] (PG K s) (bnP K u kv s s1 s2 a b)=bnP K u kv s s1 s2 a b:=by kernel_rfl
structure Mv(c:Nat)(s s':St):Prop where
 v:∀m,Vd m s->Vd (m+c) s'
 b:s'.b=s.b
 pl:s'.pl=s.pl
 A:s.pl=none->aG (s'.Ap=s.Ap) (s'.Aq=s.Aq) (s'.Af=s.Af)
theorem Mv.rf{s:St}:Mv c s s:=⟨λ_ h=>h.up (zu _ _),rfl,rfl,λ_=>⟨rfl,rfl,rfl⟩⟩
theorem Mv.up{c':Nat}{s:St}(h:Mv c s s')(k:c<=c'):Mv c' s s':=⟨λm v=>(h.v m v).up (zG k m),h.b,h.pl,h.A⟩
theorem Mv.tr{c':Nat}{s hJ:St}(h:Mv c s s')(k:Mv c' s' hJ):Mv (c+c') s hJ:=⟨λm v=>Zb m c c'▸k.v _ (h.v m v),k.b.trans h.b,k.pl.trans h.pl,λe=>by
 obtain⟨a1,a2,a3⟩:=h.A e;obtain⟨b1,b2,b3⟩:=k.A (h.pl.trans e);exact⟨b1.trans a1,b2.trans a2,b3.trans a3⟩⟩
theorem Mv.wx u x (p q:PK) s:Mv 1 s (Nt u x p q s):=by
 unfold Nt;cases gX p q with
 |true=>exact .rf
 |false=>exact⟨λm v=>v.vn _,rfl,rfl,λ_=>⟨rfl,rfl,rfl⟩⟩
theorem Mv.put s x u:Mv 1 s (s.put x u):=⟨λm v=>v.put x u,Nv,by
 obtain⟨pl,W,b,A0,Ap,Aq,Af⟩:=s;rcases pl with _ |_ |_ |_ <;> rfl,λe=>by
 obtain⟨pl,W,b,A0,Ap,Aq,Af⟩:=s;subst e;exact⟨rfl,rfl,rfl⟩⟩
theorem Nz:∀{as:List Ar} {ks:List PK} {s:St},(∀e∈as,∀s,Mv e.c s (e.f s))->Mv (sW as) s (pQ x as ks s)
 |[],_,_,_=>.rf
 |_::_,[],_,_=>.rf
 |⟨d,r,f,c⟩::t,q::ks,s,h=>by
  have h1:Mv c s (f s):=h _ (.head _) s;have h2:Mv (c+1+sW t) s (f s):=h1.up (zk (zN _) (zu _ _));cases r with
  |ck u=>exact h2
  |k p=>
   refine(?_:Mv (c+1+sW t) s (match p.m with
    |none=>f s
    |some _=>match II p q with
     |true=>pQ x t ks (Nt d.s x p q (f s))
     |false=>f s))
   cases p.m with
   |none=>exact h2
   |some _=>cases II p q with
    |true=>exact(h1.tr (.wx d.s x p q (f s))).tr (Nz λe he=>h e (.tail _ he))
    |false=>exact h2
section
variable(w:Ws)(fk:PK)(pk:P3->List PK)
def DI(f:N->KR)(g:N->St->St)(b:N):Ar:=⟨b.rw,f b,g b,b.w⟩
noncomputable def nx:Nat->N->St->St
 |0,_,s=>s
 |j+1,n,s=>match n.st w with
  |some q=>match decide (q.2.length<(w.at q.1).l.length) with
   |true=>s
   |false=>pQ q.1 (q.2.map (DI (kd w fk j) (nx j))) (pk q.1) (s.put q.1 n.s)
  |none=>match n with
   |.un _ a=>nx j a s
   |.j6 _ a b=>match kd w fk j a with
    |.ck _=>nx j a s
    |.k _=>nx j b (nx j a s)
   |.b0 _ a=>nx j a s
   |.b1 u a b=>Ib u ([b].map λb=>(kd w fk j b,nx j b)) (kd w fk j a) (nx j a s)
   |.b2 u a b c=>Ib u ([b,c].map λb=>(kd w fk j b,nx j b)) (kd w fk j a) (nx j a s)
   |.b3 u a b c d=>Ib u ([b,c,d].map λb=>(kd w fk j b,nx j b)) (kd w fk j a) (nx j a s)
   |_=>s
variable{w fk pk}
theorem xt{f:N->KR}{g:N->St->St}:∀l:List N,sW (l.map (DI f g))=wsum l
 |[]=>rfl
 |b::l=>congrArg (b.w+1+·) (xt l)
theorem LU{f:N->KR}{g:N->St->St}(h:∀b s,Mv (N.w b) s (g b s)):∀{l:List N} {r:KR} {s:St},Mv (wsum l) s (Ib u (l.map λb=>(f b,g b)) r s)
 |[],_,_=>.rf
 |_::_,.ck _,_=>.rf
 |b::l,.k q,s=>((h b s).up (zN _)).tr (LU h)
theorem u6:∀{j:Nat} {n:N} {s:St},Mv n.w s (nx w fk pk j n s)
 |0,_,_=>.rf
 |j+1,n,s=>by
  have ih:∀b s,Mv (N.w b) s (nx w fk pk j b s):=λb s=>u6;refine(?_:Mv n.w s (match n.st w with
   |some q=>match decide (q.2.length<(w.at q.1).l.length) with
    |true=>s
    |false=>pQ q.1 (q.2.map (DI (kd w fk j) (nx w fk pk j))) (pk q.1) (s.put q.1 n.s)
   |none=>_))
  cases hq:n.st w with
  |some q=>
   refine(?_:Mv n.w s (match decide (q.2.length<(w.at q.1).l.length) with
    |true=>s
    |false=>pQ q.1 (q.2.map (DI (kd w fk j) (nx w fk pk j))) (pk q.1) (s.put q.1 n.s)))
   cases decide (q.2.length<(w.at q.1).l.length) with
   |true=>exact .rf
   |false=>exact((Mv.put s q.1 n.s).tr (Nz λe he=>by
     refine ze (zH.mp he) λb Ms=>(zg (λ_ WQ=>?_) Ms);refine gL WQ ?_;exact ih b)).up (by refine gR (xt ..) (gR (yf ..) ?_);exact((qK _ hq).2))
  |none=>cases n with
   |un u a=>exact(ih a s).up (zN _)
   |j6 u a b=>
    refine(?_:Mv (a.w+1+b.w) s (match kd w fk j a with
     |.ck _=>nx w fk pk j a s
     |.k _=>nx w fk pk j b (nx w fk pk j a s)))
    have h1:=(ih a s).up (zN _);cases kd w fk j a with
    |ck _=>exact h1.up (zu _ _)
    |k _=>exact h1.tr (ih b _)
   |b0 u a=>exact(ih a s).up (zN _)
   |b1 u a b=>exact(ih a s).tr (LU (l:=[b]) ih)
   |b2 u a b c=>exact(ih a s).tr (LU (l:=[b,c]) ih)
   |b3 u a b c d=>exact(ih a s).tr (LU (l:=[b,c,d]) ih)
   |_=>exact .rf
end
abbrev Kd(K:Kx)(kv:Kv)(k c:Nat)(d:D)(r:KR)(f:St->St):Prop:=∀(m:Nat) (s:St),Vd m s->m+c<=900->s.b=none->E k 35 [.o 12,.d d,.d kv.d] (PG K s) (bG K (f s) r)
theorem LV K s kv u a s1:walk L.tb 35 [.o 12,.d (N.un u a).d,.d kv.d] (PG K s) (tj K s kv (N.un u a).d none (Q9 K s s1 a.d kv.d λp=>DH 27 [.o 12,.d (S 75),.d (kD p),.d (.int u)] K s1 s1 (LI u (.k p))))=tj K s kv (N.un u a).d none (Q9 K s s1 a.d kv.d λp=>DH 27 [.o 12,.d (S 75),.d (kD p),.d (.int u)] K s1 s1 (LI u (.k p))):=by kernel_rfl
theorem LW K (s s':St) kv u (a b:D) r:walk L.tb 35 [.o 12,.d (.tuple [S 52,.int u,S 7,a,b]),.d kv.d] (PG K s) (tj K s kv (.tuple [S 52,.int u,S 7,a,b]) none (DH 38 [.o 12,.d (.tuple [S 52,.int u,S 7,a,b]),.d kv.d] K s s' r))=tj K s kv (.tuple [S 52,.int u,S 7,a,b]) none (DH 38 [.o 12,.d (.tuple [S 52,.int u,S 7,a,b]),.d kv.d] K s s' r):=
 lg (f:=λr=>walk L.tb 35 [.o 12,.d (.tuple [S 52,.int u,S 7,a,b]),.d kv.d] (PG K s) (tj K s kv (.tuple [S 52,.int u,S 7,a,b]) none (DH 38 [.o 12,.d (.tuple [S 52,.int u,S 7,a,b]),.d kv.d] K s s' r))) (g:=λr=>tj K s kv (.tuple [S 52,.int u,S 7,a,b]) none (DH 38 [.o 12,.d (.tuple [S 52,.int u,S 7,a,b]),.d kv.d] K s s' r)) (λt=>by kernel_rfl) r
theorem LX K (s s':St) kv u a l r:walk L.tb 35 [.o 12,.d (bD u a l),.d kv.d] (PG K s) (tj K s kv (bD u a l) none (DH 42 [.o 12,.d (bD u a l),.d kv.d] K s s' r))=tj K s kv (bD u a l) none (DH 42 [.o 12,.d (bD u a l),.d kv.d] K s s' r):=
 lg (f:=λr=>walk L.tb 35 [.o 12,.d (bD u a l),.d kv.d] (PG K s) (tj K s kv (bD u a l) none (DH 42 [.o 12,.d (bD u a l),.d kv.d] K s s' r))) (g:=λr=>tj K s kv (bD u a l) none (DH 42 [.o 12,.d (bD u a l),.d kv.d] K s s' r)) (λt=>by kernel_rfl) r
section
variable{K:Kx}{kv:Kv}{k:Nat}(hk:9<=k)
include hk
theorem Bi{f:N->KR}{g:N->St->St}(mv:∀b s,Mv (N.w b) s (g b s)):∀{l:List N} {r:KR} {s:St} {m:Nat} {Z:R (AV×G)->Prop},(∀b∈l,Kd K kv k b.w b.d (f b) (g b))->Vd m s->m+wsum l<=900->s.b=none->
  Good (E k) (λy=>aR y=bG K (Ib u (l.map λb=>(f b,g b)) r s) (jY u r (l.map f))) Z (bxP K u kv.d (l.map λb=>(b.d,g b)) r s)
 |[],r,s,_,_,_,_,_,_=>⟨rfl,md K s r⟩
 |_::_,.ck t,s,_,_,_,_,_,_=>⟨rfl,congrArg (bG K s) (bxb _ _ _).symm⟩
 |b::l,.k q,s,m,Z,h,v,hm,hb=>by
  have hm:m+b.w+(1+wsum l)<=900:=zk (zO ((Zb m b.w _).trans (congrArg (m+·) (Zb b.w 1 _).symm))) hm;refine u5 (k:=λp=>.ask 30 [.o 12,.d (kD p),.d (kD q),.d (.int u)] (PG K (g b s)) (.cQ (bG K (g b s) (jp p q u)) (bxP K u kv.d (l.map λb=>(b.d,g b)) (jp p q u) (g b s)))) (h b (.head _) m s v (zk (zu _ _) hm) hb) (λt ht=>?_) λp hp Z=>⟨(Bb K (g b s) p q u).up hk,?_⟩
  ·refine(?_:bG K (Ib u (l.map λb=>(f b,g b)) (vk (f b) λp=>jp p q u) (g b s)) (jY u (vk (f b) λp=>jp p q u) (l.map f))=_)
   refine gR (ht ..) ?_;exact(congrArg (bG K _) (bxb _ _ _)).trans (congrArg (λs=>R.ex (.int t) (PG K s)) (bxs _ _ _ _))
  ·refine(?_:Good _ (λy=>aR y=bG K (Ib u (l.map λb=>(f b,g b)) (vk (f b) λp=>jp p q u) (g b s)) (jY u (vk (f b) λp=>jp p q u) (l.map f))) _ _)
   refine gR (hp ..) ?_;exact Bi mv (λx hx=>h x (.tail _ hx)) ((mv b s).v m v) (zk (zG (Zf _ 1) _) hm) ((mv b s).b.trans hb)
where
 bxb (u t:Int):∀l:List KR,jY u (.ck t) l=.ck t
  |[]=>rfl
  |_::l=>bxb u t l
 bxs (u t:Int) (l:List (KR×(St->St))) (s:St):Ib u l (.ck t) s=s:=by cases l <;> rfl
end
section
variable{K:Kx}{w:Ws}(C:Cx K w told res){kv:Kv}
def Kx.ks(K:Kx)(x:P3):List PK:=(K.pm x).ks
include C
theorem LY{n:N}{k:Nat}{s:St}{o:R (AV×G)}{t:Sp}(hq:n.st w=none)(hk:n.w+6<=k)(hw:walk L.tb 35 [.o 12,.d n.d,.d kv.d] (PG K s) (tj K s kv n.d none t)=tj K s kv n.d none t)(hg:∀Z,Good (E k) (λy=>aR y=o) Z t):E (k+1) 35 [.o 12,.d n.d,.d kv.d] (PG K s) o:=by have e0:=(u4 K s C.num kv).up hk;rw[hq] at e0;exact go hw ⟨e0,hg _⟩
theorem Ra{k:Nat}(hk:9<=k){a:N}{l:List N}{ra:KR}{fa:St->St}{f:N->KR}{g:N->St->St}(mv:∀b s,Mv (N.w b) s (g b s))(ha:Kd K kv k a.w a.d ra fa)(ma:∀s,Mv a.w s (fa s))(hl:∀b∈l,Kd K kv k b.w b.d (f b) (g b)){m:Nat}{s:St}(v:Vd m s)(hm:m+(a.w+wsum l)<=900)(hb:s.b=none)
  (hw:R3 K u kv.d s a.d fa (l.map λb=>(b.d,g b))):E (k+1) 42 [.o 12,.d (bD u a.d ((l.map λb=>(b.d,g b)).map (·.1))),.d kv.d] (PG K s) (bG K (Ib u (l.map λb=>(f b,g b)) ra (fa s)) (jY u ra (l.map f))):=by
 have hm:=Zb m a.w _▸hm;refine go hw (u5 (k:=λp=>bxP K u kv.d (l.map λb=>(b.d,g b)) (.k p) (fa s)) (ha m s v (zk (zu _ _) hm) hb) (λt ht=>?_) λp hp Z=>?_)
 ·exact gR ht ((congrArg (bG K _) (Bi.bxb _ _ _)).trans (congrArg (λs=>R.ex (.int t) (PG K s)) (Bi.bxs _ _ _ _)))
 ·exact gR hp (Bi hk mv hl ((ma s).v m v) hm ((ma s).b.trans hb))
theorem LZ{k:Nat}(hk:15<=k){n:N}{q:P3×List N}(hq:n.st w=some q)(hn:n.w+6<=k+3){f:N->KR}{g:N->St->St}(mv:∀b s,Mv (N.w b) s (g b s))(hl:∀b∈q.2,Kd K kv k b.w b.d (f b) (g b)){m:Nat}{s:St}(v:Vd m s)(hm:m+n.w<=900)(hb:s.b=none):
  E (k+4) 35 [.o 12,.d n.d,.d kv.d] (PG K s) (bG K (match decide (q.2.length<(w.at q.1).l.length) with
   |true=>s
   |false=>pQ q.1 (q.2.map (DI f g)) (K.ks q.1) (s.put q.1 n.s)) (called w (lk told) q.1 (q.2.map λb=>(b.s,f b)) n.s)):=by
 obtain⟨h1,h2⟩:=qK _ hq;have e0:=(u4 K s C.num kv (n:=n)).up hn;rw[hq] at e0;have hds:(q.2.map (DI f g)).map (·.d.d)=q.2.map N.d:=by refine gR (ye ..) ?_;exact yH λb _=>(lS b).symm
 have hrs:(q.2.map (DI f g)).map (λe=>(e.d.s,e.r))=q.2.map λb=>(b.s,f b):=by refine gR (ye ..) ?_;rfl
 have e43:=H9 K s q.1 kv;rw[C.num] at e43;have e45:∀s' r,(decide (q.2.length<(w.at q.1).l.length)=true->s'=s/\r=.ck n.s)->(decide (q.2.length<(w.at q.1).l.length)=false->E (k+2) 46 [.o 12,.d q.1.d,.d (.tuple (q.2.map N.d)),.d (.int n.s),.d kv.d] (PG K s) (bG K s' r))->E (k+3) 45 [.o 12,.d q.1.d,.d (.tuple (q.2.map N.d)),.d (.int n.s),.d kv.d] (PG K s) (bG K s' r):=λs' r k1 k2=>by
  refine go (LQ K s s' q.1 (q.2.map N.d) (by refine gR (zA ..) ?_;exact zk h1 (Pl.len _)) n.s kv.d r (Pl.len (w.at q.1))) ⟨e43.up (zk (by decide) (zk hk (zu k 2))),?_⟩;refine gR (zA ..) ?_;cases hd:decide (q.2.length<(w.at q.1).l.length) with
  |true=>
   refine zg (λj9 EU=>?_) (k1 hd);refine gR EU ?_;refine gR j9 ?_;exact⟨rfl,rfl⟩
  |false=>exact⟨k2 hd,rfl,md K s' r⟩
 have fin:∀s' r,E (k+3) 45 [.o 12,.d q.1.d,.d (.tuple (q.2.map N.d)),.d (.int n.s),.d kv.d] (PG K s) (bG K s' r)->E (k+4) 35 [.o 12,.d n.d,.d kv.d] (PG K s) (bG K s' r):=λs' r e=>by
  rw[lS n] at e0⊢;exact go (LR K s s' n.rw kv.d (q.2.map N.d) r q.1) ⟨e0,e,rfl,md K s' r⟩
 refine fin _ _ (e45 _ _ (λhd=>?_) λhd=>?_)
 ·unfold called
  refine gR (zA ..) ?_;refine gR (hd ..) ?_;exact⟨rfl,rfl⟩
 ·unfold called
  refine gR (zA ..) ?_;refine gR (hd ..) ?_;have e:=Du C (k:=k+1) (zQ hk) (kv:=kv) q.1 (as:=q.2.map (DI f g)) (s:=s) (m:=m) n.s (by refine gR (zA ..) ?_;exact yS h1 (YK.mp (of_decide_eq_false hd))) (λa ha m s v hm hb=>by
   refine ze (zH.mp ha) λb ia=>?_;obtain⟨hbq,rfl⟩:=ia;have e:=Bg (zk (by decide) hk) b (hl b hbq m s v hm hb);rw[lS b] at e;exact⟨e,(mv b s).v m v,(mv b s).b.trans hb⟩) v (by refine gR (xt ..) ?_;refine gR (Zb ..) ?_;refine gR (yf 1 ..) ?_;exact zk (zG h2 m) hm) hb
  rw[hds,hrs,Ia (Ny (C.pm q.1))] at e;exact e
theorem sX:∀j n,n.w<j->Kd K kv (16+4*j) n.w n.d (kd w (lk told) j n) (nx w (lk told) K.ks j n)
 |0,n,h=>absurd h (Zw _)
 |j+1,n,hj=>λm s v hm hb=>by
  have mv:∀b s,Mv (N.w b) s (nx w (lk told) K.ks j b s):=λb s=>u6;have R4:15<=16+4*j:=zk (zN _) (zu 16 _);have hn3:n.w+6<=16+4*j+3:=zk (zV (zk (Zg hj) (Ym j (by decide:0<4))) 6) (gR (yf 16 (4*j)) (zG (by decide:6<=19) (4*j)));have lt:∀{b:N},b.w+1<=n.w->Kd K kv (16+4*j) b.w b.d (kd w (lk told) j b) (nx w (lk told) K.ks j b):=λh=>(sX j) _ (zF h (Zg hj));refine(?_:E (16+4*j+4) 35 _ _ (bG K (match n.st w with
   |some q=>match decide (q.2.length<(w.at q.1).l.length) with
    |true=>s
    |false=>pQ q.1 (q.2.map (DI (kd w (lk told) j) (nx w (lk told) K.ks j))) (K.ks q.1) (s.put q.1 n.s)
   |none=>_) (match n.st w with
   |some q=>called w (lk told) q.1 (q.2.map λb=>(b.s,kd w (lk told) j b)) n.s
   |none=>_)))
  cases hq:n.st w with
  |some q=>
   have hs:=(qK _ hq).2;exact LZ C R4 hq hn3 mv (λb hb=>lt (zk (sM hb) (Z0 hs))) v hm hb
  |none=>
   have box:∀{u:Int} {a:N} {l:List N},n.d=bD u a.d (l.map N.d)->a.w+wsum l<=n.w->a.w+1<=n.w->R3 K u kv.d s a.d (nx w (lk told) K.ks j a) (l.map λb=>(b.d,nx w (lk told) K.ks j b))->E (16+4*j+4) 35 [.o 12,.d n.d,.d kv.d] (PG K s) (bG K (Ib u (l.map λb=>(kd w (lk told) j b,nx w (lk told) K.ks j b)) (kd w (lk told) j a) (nx w (lk told) K.ks j a s)) (jY u (kd w (lk told) j a) (l.map (kd w (lk told) j)))):=λ{u a l} hd hw ha hx=>by
    have e:=Ra C (zk (by decide) R4) mv (lt ha) (mv a) (λb hb=>lt (zk (sM hb) (zk (Zf _ _) hw))) v (zk (zG hw m) hm) hb hx;rw[ye] at e;have e0:=(u4 K s C.num kv).up hn3;rw[hq,hd] at e0;exact gR hd (go (LX K s _ kv u a.d (l.map N.d) _) ⟨e0,Bh (e.up (zu _ 2))⟩)
   cases n with
   |nm u b=>exact(sU K s C.num kv (n:=.nm u b) (m:=false) trivial).up (zk (by decide) (zk R4 (zu _ 4)))
   |pr u x=>exact ns hq.symm
   |cH u=>exact(sU K s C.num kv (n:=.cH u) (m:=true) trivial).up (zk (by decide) (zk R4 (zu _ 4)))
   |un u a=>
    refine(?_:E (16+4*j+4) 35 _ _ (bG K (nx w (lk told) K.ks j a s) (LI u (kd w (lk told) j a))));refine(λ{o:R (AV×G)} {t:Sp}=>LY C (o:=o) (t:=t) hq hn3) (LV K s kv u a (nx w (lk told) K.ks j a s)) λZ=>u5 ((lt (zm _) m s v (zk (zG (zN _) m) hm) hb).up (zu _ 3)) (λt ht=>?_) λp hp Z=>?_
    ·refine gR ht ?_
     rfl
    ·exact gR hp (Bh ((Dt K _ p u).up (zk (by decide) (zk R4 (zu _ 3)))))
   |j6 u a b=>
    have hm:=zk (zO ((Zb m a.w _).trans (congrArg (m+·) (Zb a.w 1 _).symm))) hm;have e0:=(u4 K s C.num kv).up hn3;rw[hq] at e0;refine(?_:E (16+4*j+4) 35 _ _ (bG K (match kd w (lk told) j a with
     |.ck _=>nx w (lk told) K.ks j a s
     |.k _=>nx w (lk told) K.ks j b (nx w (lk told) K.ks j a s)) (jnA u (kd w (lk told) j a) (kd w (lk told) j b))))
    have e38:E (16+4*j+1) 38 [.o 12,.d (.tuple [S 52,.int u,S 7,a.d,b.d]),.d kv.d] (PG K s) (bG K (match kd w (lk told) j a with
     |.ck _=>nx w (lk told) K.ks j a s
     |.k _=>nx w (lk told) K.ks j b (nx w (lk told) K.ks j a s)) (jnA u (kd w (lk told) j a) (kd w (lk told) j b))):=by
     refine go (LS K u kv.d s _ _ a.d b.d) (u5 (lt (zu _ _) m s v (zk (zu _ _) hm) hb) (λt ht=>?_) λp hp Z=>u5 (lt (zk (zO (yf _ _)) (zV (Zf 1 a.w) b.w)) (m+a.w) _ ((mv a s).v m v) (zk (zG (Zf _ 1) _) hm) ((mv a s).b.trans hb)) (λt ht=>?_) λq hq Z=>?_)
     ·refine gR ht ?_
      rfl
     ·refine gR hp (gR ht ?_)
      rfl
     ·refine gR hp (gR hq ?_)
      exact Bh ((Bb K _ p q u).up (zk (by decide) R4))
    exact go (LW K s _ kv u a.d b.d _) ⟨e0,Bh (e38.up (zu _ 2))⟩
   |b0 u a=>exact box (l:=[]) rfl (zN _) (zm _) (aaq ..)
   |b1 u a b=>exact box rfl (zm _) (sN a.w b []) (aar ..)
   |b2 u a b c=>exact box rfl (zm _) (sN a.w b [c]) (aas ..)
   |b3 u a b c d=>exact box rfl (zm _) (sN a.w b [c,d]) (aat ..)
end
structure Wa where
 d:D
 o:Option Int
 f:St->St
 c:Nat
noncomputable def wa:List Wa->St->Option Int×St
 |[],s=>(none,s)
 |x::l,s=>match x.o with
  |some u=>(some u,x.f s)
  |none=>wa l (x.f s)
noncomputable def Dv:List Wa->Nat
 |[]=>0
 |x::l=>x.c+Dv l
noncomputable def waS(K:Kx)(kv:D):List Wa->St->Sp
 |[],s=>.ret true (rv .none (PG K s))
 |x::l,s=>.ask 36 [.o 12,.d x.d,.d kv] (PG K s) (.pO (.fn λz=>.cQ (.ex (.int z.s) (PG K (x.f s))) (.ret true (.ex (.int z.s) (PG K (x.f s))))) (.cQ (.ok (.d .none,PG K (x.f s))) (waS K kv l (x.f s))))
abbrev waE(K:Kx)(kv:D)(s:St)(l:List Wa):Prop:=walk L.tb 51 [.o 12,.d (.tuple (l.map Wa.d)),.d kv] (PG K s) (waS K kv l s)=waS K kv l s
theorem acS{P:List α->Prop}(h0:P [])(h1:∀a,P [a])(h2:∀a b,P [a,b])(h3:∀a b c,P [a,b,c]):∀l:List α,l.length<=3->P l
 |[],_=>h0
 |[a],_=>h1 a
 |[a,b],_=>h2 a b
 |[a,b,c],_=>h3 a b c
 |_::_::_::_::_,h=>absurd (Za (Za (Za h))) (Z6 _)
theorem L0 K kv s l (h:l.length<=3):waE K kv s l:=acS (by kernel_rfl) (λ_=>by kernel_rfl) (λ_ _=>by kernel_rfl) (λ_ _ _=>by kernel_rfl) l h
def Rb(K:Kx)(kv:D)(k:Nat)(x:Wa):Prop:=∀(m:Nat) (s:St),Vd m s->m+x.c<=900->s.b=none->aF (E k 36 [.o 12,.d x.d,.d kv] (PG K s) (Nr K (x.f s) x.o)) (Mv x.c s (x.f s))
theorem NA{K:Kx}{kv:D}{k:Nat}:∀{l:List Wa} {s:St} {m:Nat} {Z:R (AV×G)->Prop},(∀x∈l,Rb K kv k x)->Vd m s->m+Dv l<=900->s.b=none->Good (E k) (λy=>aR y=Nr K (wa l s).2 (wa l s).1) Z (waS K kv l s)
 |[],_,_,_,_,_,_,_=>⟨rfl,rfl⟩
 |⟨d,o,f,c⟩::l,s,m,Z,h,v,hm,hb=>by
  have lO:=zk (zO (Zb m c (Dv l))) hm;obtain⟨e,mv⟩:=h _ (.head _) m s v (zk (zu _ _) lO) hb;cases o with
  |some u=>exact .inl ⟨N.xd [] u 0 0 .none [],e,rfl,rfl⟩
  |none=>exact .inr ⟨e,NA (λx hx=>h x (.tail _ hx)) (mv.v m v) lO (mv.b.trans hb)⟩
theorem aau{K:Kx}{kv:D}{k:Nat}{l:List Wa}{s:St}{m:Nat}(hl:l.length<=3)(h:∀x∈l,Rb K kv k x)(v:Vd m s)(hm:m+Dv l<=900)(hb:s.b=none):E (k+1) 51 [.o 12,.d (.tuple (l.map Wa.d)),.d kv] (PG K s) (Nr K (wa l s).2 (wa l s).1):=go (L0 K kv s l hl) (NA h v hm hb)
theorem NC:∀{l:List Wa} {s:St},(∀x∈l,∀s,Mv x.c s (x.f s))->Mv (Dv l) s (wa l s).2
 |[],_,_=>.rf
 |⟨d,o,f,c⟩::l,s,h=>by
  have h1:Mv c s (f s):=h _ (.head _) s;cases o with
  |some u=>exact h1.up (zu _ _)
  |none=>exact h1.tr (NC λx hx=>h x (.tail _ hx))
section
variable{K:Kx}{w:Ws}(C:Cx K w told res){kv:Kv}
def pR(K:Kx)(w:Ws)(told n:N):Wa:=⟨n.d,Ba n.s (kd w (lk told) 18 n),nx w (lk told) K.ks 18 n,n.w⟩
include C
theorem Rd{n:N}(hn:n.w<18):Rb K kv.d 89 (pR K w told n):=λm s v hm hb=>⟨QY (zw (zE _)) n (sX C 18 n hn m s v hm hb),u6⟩
end
noncomputable def St.at(s:St)(pl:Option P3):St:={s with pl:=pl}
section
variable(K:Kx)(s s':St)
theorem Rf i (hp:s.pl=none):E 1 50 [.o 12,.d (iy i)] (PG K s) (.ok (.d .none,PG K s)):=by obtain⟨pl,W,b,A0,Ap,Aq,Af⟩:=s;subst hp;exact go (s:=.ret true (rv .none _)) (by kernel_rfl) ⟨rfl,rfl⟩
def ftS(ns:D)(o:Option Int):Sp:=.ask 51 [.o 12,.d ns,.d (.dict [])] (PG K s) (.cQ (Nr K s' o) (match o with
 |some u=>.ret true (.ex (.int u) (PG K s'))
 |none=>.ret true (rv .none (PG K (s'.at none)))))
theorem L1 u (ns:D) W b (A0 Ap Aq Af):∀o,walk L.tb 50 [.o 12,.d (.tuple [S 102,.int u,S 0,ns])] (PG K ⟨none,W,b,A0,Ap,Aq,Af⟩) (ftS K ⟨none,W,b,A0,Ap,Aq,Af⟩ s' ns o)=ftS K ⟨none,W,b,A0,Ap,Aq,Af⟩ s' ns o
 |some v=>by kernel_rfl
 |none=>by kernel_rfl
def pdS(y:P3)(ps ks kv ns:D):Sp:=.ask 40 [.o 12,.d ps,.d (.dict []),.d (.bool false)] (PG K (s.at (some y))) (.cQ (.ok (.d (.tuple [kv,ks]),PG K (s.at (some y)))) (.ask 51 [.o 12,.d ns,.d kv] (PG K (s.at (some y))) (.cQ (.ok (.d .none,PG K s')) (.ret true (rv .none (PG K (s'.at none)))))))
theorem L2 y u (ps ks kv ns:D):walk L.tb 50 [.o 12,.d (dM y u ps ns)] (PG K s) (pdS K s s' y ps ks kv ns)=pdS K s s' y ps ks kv ns:=fF (f:=λy=>walk L.tb 50 [.o 12,.d (dM y u ps ns)] (PG K s) (pdS K s s' y ps ks kv ns)) (g:=λy=>pdS K s s' y ps ks kv ns) (by kernel_rfl) y
def fnS(u:Int)(ps ks kv t b:D)(p q:PK):Sp:=.ask 40 [.o 12,.d ps,.d (.dict []),.d (.bool false)] (PG K (s.at (some .f))) (.cQ (.ok (.d (.tuple [kv,ks]),PG K (s.at (some .f)))) (.ask 23 [.o 12,.d t,.d kv,.d (.bool true)] (PG K (s.at (some .f))) (.cQ (.ok (.d (kD p),PG K (s.at (some .f)))) (.ask 23 [.o 12,.d b,.d kv,.d (.bool false)] (PG K (s.at (some .f))) (.cQ (.ok (.d (kD q),PG K s')) (
 .ask 32 [.o 12,.d (S 9),.d (kD p),.d (kD q),.d (.int u)] (PG K s') (.cQ (.ok (.d (kD .t),PG K (match gX p q with
  |true=>s'
  |false=>s'.vn (u,.e)))) (.ret true (rv .none (PG K ((match gX p q with
  |true=>s'
  |false=>s'.vn (u,.e)).at none)))))))))))
theorem L3 u (ps ks kv t b:D) (p q:PK):walk L.tb 50 [.o 12,.d (.tuple [S 54,.int u,P3.f.d,ps,S 0,t,b])] (PG K s) (fnS K s s' u ps ks kv t b p q)=fnS K s s' u ps ks kv t b p q:=by exact eN (eN (f:=λp=>vm.map λq=>walk L.tb 50 [.o 12,.d (.tuple [S 54,.int u,P3.f.d,ps,S 0,t,b])] (PG K s) (fnS K s s' u ps ks kv t b p q)) (g:=λp=>vm.map λq=>fnS K s s' u ps ks kv t b p q) (by kernel_rfl) p) q
def cpS(u:Int)(p q:PK):Sp:=.ask 28 [.o 12,.d (S 9),.d (kD p),.d (kD q),.d (.int u)] (PG K s) (.cQ (.ok (.d .none,PG K s)) (.ask 9 [.o 12,.d (u0 p),.d (u0 q)] (PG K s) (.cQ (.ok (.d (mtD p q),PG K s)) (match gX p q with
 |true=>.ret true (rv (kD .t) (PG K s))
 |false=>.ask 16 [.o 12,.d (.int u),.d (.str Wt.e.s)] (PG K s) (.cQ (.ok (.d .none,PG K (s.vn (u,.e)))) (.ret true (rv (kD .t) (PG K (s.vn (u,.e))))))))))
def lJ(p q:PK):Bool:=p.m.isSome&&decide (p.m=q.m)
def Ic(p q:PK)(x:Sp):Sp:=match lJ p q with
 |true=>x
 |false=>.ck
theorem L4 u (p q:PK) (h:lJ p q=true):walk L.tb 32 [.o 12,.d (S 9),.d (kD p),.d (kD q),.d (.int u)] (PG K s) (cpS K s u p q)=cpS K s u p q:=by have h2:=eN (eN (f:=λp=>vm.map λq=>Ic p q (walk L.tb 32 [.o 12,.d (S 9),.d (kD p),.d (kD q),.d (.int u)] (PG K s) (cpS K s u p q))) (g:=λp=>vm.map λq=>Ic p q (cpS K s u p q)) (by kernel_rfl) p) q;unfold Ic at h2;replace h2:=h▸h2;exact h2
theorem Rg u (p q:PK) (h:lJ p q=true):E 2 28 [.o 12,.d (S 9),.d (kD p),.d (kD q),.d (.int u)] (PG K s) (.ok (.d .none,PG K s)):=bI λn=>by
 have h2:=eN (eN (f:=λp=>vm.map λq=>match lJ p q with |true=>aC L.tb (n+2) 28 [.o 12,.d (S 9),.d (kD p),.d (kD q),.d (.int u)] (PG K s) |false=>.no) (g:=λp=>vm.map λq=>match lJ p q with |true=>.ok (.d .none,PG K s) |false=>.no) (by kernel_rfl) p) q;replace h2:=h▸h2;exact h2
end
theorem Bj{w:Ws}{fk:PK}{j:Nat}{b:N}{m:Bool}(h:b.lf m):kd w fk (j+1) b=.k (lk b):=by cases b <;> cases m <;> first |rfl |exact h.elim
theorem Bm{w:Ws}{fk:PK}{pk:P3->List PK}{j:Nat}{b:N}{m:Bool}(h:b.lf m) s:nx w fk pk (j+1) b s=s:=by cases b <;> cases m <;> first |rfl |exact h.elim
theorem aav:∀{as:List Ar} {ks:List PK} {s:St},(∀e∈as,∀s,e.f s=s)->∃W,pQ x as ks s={s with W:=W}
 |[],_,s,_=>⟨s.W,rfl⟩
 |_::_,[],s,_=>⟨s.W,rfl⟩
 |⟨d,r,f,c⟩::t,q::ks,s,h=>by
  have h1:f s=s:=h _ (.head _) s;have z:∃W,s={s with W:=W}:=⟨s.W,rfl⟩;cases r with
  |ck u=>exact⟨s.W,h1⟩
  |k p=>
   refine(?_:∃W,(match p.m with
    |none=>f s
    |some _=>match II p q with
     |true=>pQ x t ks (Nt d.s x p q (f s))
     |false=>f s)={s with W:=W})
   refine gR h1 ?_;cases p.m with
   |none=>exact z
   |some _=>cases II p q with
    |true=>
     obtain⟨W,e⟩:=aav λe he=>h e (.tail _ he);refine⟨W,e.trans ?_⟩;unfold Nt;cases gX p q <;> rfl
    |false=>exact z
theorem oH{e:KR}{f:N->KR}(hf:∀b m,N.lf b m->f b=.k (lk b)){b:N}{m:Bool}(h:b.lf m) t ms:k9 e ((b::t).map λb=>(b.s,f b)) (m::ms)=k9 e (t.map λb=>(b.s,f b)) ms:=by
 refine(?_:vk (f b) (λp=>fkK b.s (QL b.s m p) (k9 e (t.map λb=>(b.s,f b)) ms))=_);refine gR (hf b m h ..) (?_:fkK b.s (match(lk b).m with
  |none=>some b.s
  |some m'=>cond (m'==m) none (some b.s)) (k9 e (t.map λb=>(b.s,f b)) ms)=_)
 refine gR (ot h ..) ?_;cases m <;> rfl
theorem ND{w:Ws}{n:N}(h:Rt y n (w.at y)):∃as:List N,eX (n.st w=some (y,as)) (as.length=(w.at y).l.length) (∀b∈as,∃m,b.lf m) (n.w<=3) (∀e (f:N->KR),(∀b m,N.lf b m->f b=.k (lk b))->k9 e (as.map λb=>(b.s,f b)) (w.at y).l=e):=by
 cases hw:w.at y with
 |n=>
  rw[hw] at h;refine ze h λs kh=>(gR kh ?_);exact⟨[],rfl,rfl,λ_ hb=>(nomatch hb),(by decide:1<=3),λ_ _ _=>rfl⟩
 |o m=>
  replace h:=hw▸h;obtain⟨s,u,a,oV,ha⟩:=h;refine gR oV ?_;refine⟨[a],(congrArg (λp:Pl=>tk (decide (1+0<=p.l.length)) y [a]) hw),rfl,λb hb=>zX.mp hb▸⟨m,ha⟩,?_,λe f hf=>oH hf ha [] []⟩;refine(?_:1+(a.w+1)<=3);refine gR (sI ha ..) ?_;decide
 |t m m'=>
  rw[hw] at h;obtain⟨s,u,a,b,kn,ha,hb⟩:=h;refine gR kn ?_;refine⟨[a,b],(congrArg (λp:Pl=>tk (decide (2+0<=p.l.length)) y [a,b]) hw),rfl,λx hx=>?_,?_,λe f hf=>(oH hf ha [b] [m']).trans (oH hf hb [] [])⟩
  ·cases hx with
   |head=>exact⟨m,ha⟩
   |tail _ hx=>exact zX.mp hx▸⟨m',hb⟩
  ·refine(?_:1+(a.w+1+(b.w+1))<=3)
   refine gR (sI ha ..) (gR (sI hb ..) ?_);decide
theorem Bn{w:Ws}{fk:PK}{pk:P3->List PK}{n:N}(h:Rt y n (w.at y)) j s:aF (kd w fk (j+2) n=.k (Dm fk y)) (∃W,nx w fk pk (j+2) n s={s.put y n.s with W:=W}):=by
 refine ze (ND h) λas kL=>?_;obtain⟨hs,hl,hb,_,hc⟩:=kL;have hd:decide (as.length<(w.at y).l.length)=false:=decide_eq_false (gR hl (yv _));constructor
 ·refine(?_:(match n.st w with
   |some q=>called w fk q.1 (q.2.map λb:N=>(b.s,kd w fk (j+1) b)) n.s
   |none=>_)=_)
  refine gR hs (?_:(match decide ((as.map λb=>(b.s,kd w fk (j+1) b)).length<(w.at y).l.length) with
   |true=>KR.ck n.s
   |false=>k9 (.k (Dm fk y)) (as.map λb:N=>(b.s,kd w fk (j+1) b)) (w.at y).l)=_)
  refine gR (zA ..) (gR hd ?_);exact hc _ _ λb m h=>Bj h
 ·have e:nx w fk pk (j+2) n s=pQ y (as.map (DI (kd w fk (j+1)) (nx w fk pk (j+1)))) (pk y) (s.put y n.s):=by
   refine(?_:(match n.st w with
    |some q=>match decide (q.2.length<(w.at q.1).l.length) with
     |true=>s
     |false=>pQ q.1 (q.2.map (DI (kd w fk (j+1)) (nx w fk pk (j+1)))) (pk q.1) (s.put q.1 n.s)
    |none=>_)=_)
   refine gR hs (?_:(match decide (as.length<(w.at y).l.length) with
    |true=>s
    |false=>pQ y (as.map (DI (kd w fk (j+1)) (nx w fk pk (j+1)))) (pk y) (s.put y n.s))=_)
   exact gR hd rfl
  refine gR e (aav λe he s=>(ze (zH.mp he) λb rX=>(zg (λhbm j4=>?_) rX)));refine gL j4 ?_;exact ze (hb b hbm) λm hm=>(Bm hm s)
noncomputable def St.wA(s:St)(y:P3)(A:List (P3×Int))(W:List (Int×Wt)):St:=match y with
 |.p=>{s with pl:=some .p,Ap:=A,W:=W}
 |.q=>{s with pl:=some .q,Aq:=A,W:=W}
 |.f=>{s with pl:=some .f,Af:=A,W:=W}
theorem Ie(s:St) y A W x u:(s.wA y A W).put x u=s.wA y (om x u A) W:=by cases y <;> rfl
theorem aaw(s:St) y A (W W':List (Int×Wt)):{s.wA y A W with W:=W'}=s.wA y A W':=by cases y <;> rfl
theorem NF{w:Ws}{fk:PK}{pk:P3->List PK}{n:N}(h:Rt x n (w.at x)) j (s:St) y A W:∃W',nx w fk pk (j+2) n (s.wA y A W)=s.wA y (om x n.s A) W':=by refine ze ((Bn (fk:=fk) (pk:=pk) h j (s.wA y A W)).2) λW' e=>?_;rw[Ie,aaw] at e;exact⟨W',e⟩
theorem Ig:∀{l r:List Wa} {s:St},(wa l s).1=none->wa (l++r) s=wa r (wa l s).2
 |[],_,_,_=>rfl
 |⟨d,o,f,c⟩::l,r,s,h=>by
  cases o with
  |some u=>exact ns h.symm
  |none=>exact Ig (l:=l) h
section
variable{K:Kx}{w:Ws}{s:St}
def Rh(K:Kx)(w:Ws)(told:N)(s:St)(y:P3)(l:List N)(A A':List (P3×Int)):Prop:=∀W,∃W',wa (l.map (pR K w told)) (s.wA y A W)=(none,s.wA y A' W')
theorem Rh.IG{l r:List N}{A A' A'':List (P3×Int)}(h:Rh K w told s y l A A')(k:Rh K w told s y r A' A''):Rh K w told s y (l++r) A A'':=λW=>by
 refine ze (h W) λW1 e1=>(ze (k W1) λW2 e2=>⟨W2,?_⟩);refine gR yc (gR (Ig (congrArg (·.1) e1) ..) (gR e1 ?_));exact e2
def Ih(x:P3)(o:Option Int)(A:List (P3×Int)):List (P3×Int):=match o with
 |none=>A
 |some u=>om x u A
theorem aax(a b c:Option Int):Ih .f c (Ih .q b (Ih .p a []))=c3 a b c:=by cases a <;> cases b <;> cases c <;> rfl
theorem aay{o:Option N}(hx:Dm (lk told) x=.t)(h:Qv w x o) A:Rh K w told s y (HN o) A (Ih x (o.map N.s) A):=λW=>by
 cases o with
 |none=>exact⟨W,rfl⟩
 |some n=>
  refine ze (NF (fk:=lk told) (pk:=K.ks) (h n rfl) 16 s y A W) λW' e=>⟨W',?_⟩;refine(?_:(match Ba n.s (kd w (lk told) 18 n) with
   |some u=>(some u,nx w (lk told) K.ks 18 n (s.wA y A W))
   |none=>(none,nx w (lk told) K.ks 18 n (s.wA y A W)))=_)
  refine gR ((Bn (pk:=K.ks) (h n rfl) 16 s).1 ..) (gR hx (gR e ?_));rfl
theorem acT{m:Bool}(ht:N.lf told m){o:Option (Int×N)}(h:Qv w .f (o.map (·.2))) A:Rh K w told s y (HN (o.map λx=>.un x.1 x.2)) A (Ih .f (o.map (·.2.s)) A):=λW=>by
 cases o with
 |none=>exact⟨W,rfl⟩
 |some x=>
  refine ze (NF (fk:=lk told) (pk:=K.ks) (h x.2 rfl) 15 s y A W) λW' e=>⟨W',?_⟩;refine(?_:(match Ba x.1 (LI x.1 (kd w (lk told) 17 x.2)) with
   |some v=>(some v,nx w (lk told) K.ks 17 x.2 (s.wA y A W))
   |none=>(none,nx w (lk told) K.ks 17 x.2 (s.wA y A W)))=_)
  refine gR ((Bn (pk:=K.ks) (h x.2 rfl) 15 s).1 ..) (gR e ?_);refine(?_:(match Ba x.1 (match(lk told).m with
   |none=>KR.ck x.1
   |some _=>.k .t) with
   |some v=>_
   |none=>_)=_)
  exact gR (ot ht ..) rfl
theorem aaz{m:Bool}(ht:N.lf told m){b:By}(h:b.ok w):Rh K w told s y b.cZ [] b.aW:=by have e:=(aay (K:=K) (s:=s) (y:=y) rfl h.1 []).IG ((aay rfl h.2 _).IG (acT ht h.3 _));rw[aax] at e;exact e
end
theorem Vd.at_{m:Nat}{s:St}(h:Vd m s) pl:Vd m (s.at pl):=⟨h.d,h.W,h.a0,h.ap,h.aq,h.af⟩
noncomputable def St.A(s:St):P3->List (P3×Int)
 |.p=>s.Ap
 |.q=>s.Aq
 |.f=>s.Af
theorem Bo{s:St}(h:s.A y=[]):s.at (some y)=s.wA y [] s.W:=by obtain⟨pl,W,b,A0,Ap,Aq,Af⟩:=s;cases y <;> (refine gL h ?_;rfl)
theorem aaA{K:Kx}{w:Ws}(l:List N):(l.map (pR K w told)).map Wa.d=l.map N.d:=ye
section
variable{K:Kx}{w:Ws}(C:Cx K w told res)
include C
theorem NG{l:List N}(hl:l.length<=3)(hw:∀n∈l,n.w<18)(hc:Dv (l.map (pR K w told))<=c)(kv:Kv){s:St}{m:Nat}(v:Vd m s)(hm:m+c<=900)(hb:s.b=none):
  aF (E 90 51 [.o 12,.d (.tuple (l.map N.d)),.d kv.d] (PG K s) (Nr K (wa (l.map (pR K w told)) s).2 (wa (l.map (pR K w told)) s).1)) (Mv c s (wa (l.map (pR K w told)) s).2):=by
 have hx:∀x∈l.map (pR K w told),∃n:N,aF (x=pR K w told n) (n.w<18):=λx hx=>by
  refine ze (zH.mp hx) λn tN=>(zg (λhn tR=>?_) tN);refine gL tR ?_;exact⟨n,rfl,hw n hn⟩
 have e:=aau (kv:=kv.d) (gR (zA ..) hl) (λx h=>by
  refine ze (hx x h) λn xK=>(gR xK.1 ?_);exact Rd C xK.2) v (zk (zG hc m) hm) hb
 rw[aaA] at e;exact⟨e,(NC λx h s=>by
  refine ze (hx x h) λn Ec=>?_;obtain⟨aaB,_⟩:=Ec;refine gR aaB ?_;exact u6).up hc⟩
theorem L5{l:List N}(hl:l.length<=2)(hw:∀n∈l,n.w<=17){s:St}{m:Nat}(v:Vd m s)(hm:m+34<=900)(hb:s.b=none)(hp:s.pl=none):
  ∃s',aG (E 91 50 [.o 12,.d (lI u l)] (PG K s) (Nr K s' (wa (l.map (pR K w told)) s).1)) (Mv 34 s s') (s'.pl=none):=by
 have hc:Dv (l.map (pR K w told))<=34:=match l,hl,hw with
  |[],_,_=>zE _
  |[a],_,hw=>zk (hw a (.head _)) (by decide)
  |[a,b],_,hw=>yN (hw a (.head _)) (hw b (.tail _ (.head _)))
  |_::_::_::_,h,_=>absurd (Za (Za h)) (Z6 _)
 obtain⟨e,mv⟩:=NG C (zQ hl) (λn h=>yk (hw n h)) hc .n v hm hb;have hp':=mv.pl.trans hp;refine⟨_,?_,mv,hp'⟩;generalize wa (l.map (pR K w told)) s=r at e mv hp';obtain⟨o,s'⟩:=r;have hs:s'.at none=s':=by obtain⟨pl,W,b,A0,Ap,Aq,Af⟩:=s';exact gL hp' rfl
 obtain⟨pl,W,b,A0,Ap,Aq,Af⟩:=s;subst hp;refine go (L1 K s' u (.tuple (l.map N.d)) W b A0 Ap Aq Af o) ⟨e,?_⟩;cases o with
 |some v=>exact⟨rfl,rfl⟩
 |none=>exact⟨rfl,congrArg (λs=>aR (rv .none (PG K s))) hs⟩
theorem Ii{n:N}(h:Rt y n (w.at y)):n.w<=3:=by refine ze (ND h) λ_ Ho=>?_;obtain⟨_,_,_,h,_⟩:=Ho;exact h
theorem Bp{b:By}(h:b.ok w){s:St}{m:Nat}(v:Vd m s)(hm:m+10<=900)(hb:s.b=none)(hA:s.A y=[]):
  ∃W,aF (E 91 50 [.o 12,.d (dM y u ((K.pm y).d y) (iR b.cZ))] (PG K s) (.ok (.d .none,PG K ((s.wA y b.aW W).at none)))) (Vd (m+10) ((s.wA y b.aW W).at none)):=by
 refine ze (aaz (K:=K) (s:=s) (y:=y) C.lf h s.W) λW hW=>?_;have hn:aG (b.cZ.length<=3) (∀n∈b.cZ,n.w<18) (Dv (b.cZ.map (pR K w told))<=10):=by
  obtain⟨p,q,f⟩:=b;obtain⟨hp,hq,hf⟩:=h;have h1:∀x o,Qv w x o->aG ((HN o).length<=1) (∀n∈HN o,n.w<=3) (Dv ((HN o).map (pR K w told))<=3):=λx o h=>by
   cases o with
   |none=>exact⟨zE _,λ_ h=>(nomatch h),zE _⟩
   |some n=>exact⟨zm _,λa ha=>zX.mp ha▸Ii C (h n rfl),Ii C (h n rfl)⟩
  have h2:aG ((HN (f.map λx=>N.un x.1 x.2)).length<=1) (∀n∈HN (f.map λx=>N.un x.1 x.2),n.w<=4) (Dv ((HN (f.map λx=>N.un x.1 x.2)).map (pR K w told))<=4):=by
   cases f with
   |none=>exact⟨zE _,λ_ h=>(nomatch h),zE _⟩
   |some x=>exact⟨zm _,λa ha=>zX.mp ha▸zw (Ii C (hf x.2 rfl)),zw (Ii C (hf x.2 rfl))⟩
  have cs:∀l r:List N,Dv ((l++r).map (pR K w told))=Dv (l.map (pR K w told))+Dv (r.map (pR K w told)):=λl r=>by
   induction l with
   |nil=>exact(yu _).symm
   |cons x l ih=>exact(congrArg (x.w+·) ih).trans (Zb _ _ _).symm
  obtain⟨a1,a2,a3⟩:=h1 .p p hp;obtain⟨b1,b2,b3⟩:=h1 .q q hq;obtain⟨c1,c2,c3⟩:=h2;refine⟨?_,λn hn=>?_,?_⟩
  ·exact zk (zO (List.length_append.trans (congrArg (_+·) Zr))) (yN a1 (yN b1 c1))
  ·exact(Zi.mp hn).elim (λh=>zM (a2 n h) (by decide)) λh=>(Zi.mp h).elim (λh=>zM (b2 n h) (by decide)) λh=>zM (c2 n h) (by decide)
  ·exact zk (zO ((cs _ _).trans (congrArg (_+·) (cs _ _)))) (yN a3 (yN b3 c3))
 obtain⟨e,mv⟩:=NG C hn.1 hn.2 hn.3 ((K.pm y).kv y) (v.at_ (some y)) hm hb;have e40:=(sV K (s.at (some y)) C.num (xq C.ok _) y (C.pm y)).up (k':=90) (by decide);have v2:=(mv.v _ (v.at_ (some y))).at_ none;rw[Bo hA] at e e40 v2;rw[hW] at e v2;refine⟨W,go (L2 K s (s.wA y b.aW W) y u ((K.pm y).d y) (.list ((K.pm y).ks.map kD)) ((K.pm y).kv y).d (iR b.cZ)) ?_,v2⟩;rewrite [pdS];refine gR (Bo hA ..) ?_;exact⟨e40,e,rfl,rfl⟩
theorem Ri(s:St)(A:List (P3×Int))(W:List (Int×Wt))(u:Int)(p q:PK):∃W',aF ((match gX p q with
  |true=>s.wA .f A W
  |false=>(s.wA .f A W).vn (u,.e))=s.wA .f A W') (∀m,Vd m (s.wA .f A W)->Vd (m+1) (s.wA .f A W')):=by
 cases gX p q with
 |true=>exact⟨W,rfl,λm v=>v.up (zN _)⟩
 |false=>exact⟨_,rfl,λm v=>v.vn (u,.e)⟩
theorem Rj{j:J}(hj:j.ws=w)(hr:j.res=res){b:N}{cf:List (P3×Int)}(h:Fb j b cf){s:St}{m:Nat}(v:Vd m s)(hm:m+4<=900)(hb:s.b=none)(hA:s.Af=[]):
  ∃W,aF (E 91 50 [.o 12,.d (LD u (K.mf.d .f) told b)] (PG K s) (.ok (.d .none,PG K ((s.wA .f cf W).at none)))) (Vd (m+4) ((s.wA .f cf W).at none)):=by
 have v1:=v.at_ (some .f);have hbd:∃q W,dQ (lJ (lk told) q=true) (kd w (lk told) 18 b=.k q) (nx w (lk told) K.ks 18 b (s.at (some .f))=s.wA .f cf W) (b.w<=3):=by
  subst hj hr;rcases h with⟨hl,rfl⟩ |⟨hR,rfl⟩
  ·refine⟨lk b,s.W,?_,Bj hl,(Bm hl _).trans (Bo hA),zk (zO (sI hl)) (zE _)⟩
   unfold lJ;refine gR (ot C.lf ..) (gR (ot hl ..) ?_);exact dt rfl
  ·obtain⟨k1,W,k2⟩:=Bn hR 16 (s.wA .f [] s.W)
   rw[Ie,aaw] at k2;refine⟨lk told,W,?_,k1,(congrArg _ (Bo (y:=.f) hA)).trans k2,Ii C hR⟩;unfold lJ;exact gR (ot C.lf ..) (dt rfl)
 refine ze hbd λq hX=>(ze hX λW kj=>?_);obtain⟨hq,hk,hn,hw⟩:=kj;have mv:=u6 (w:=w) (fk:=lk told) (pk:=K.ks) (j:=18) (n:=b) (s:=s.at (some .f));have e35:=sX C (kv:=K.mf.kv .f) 18 b (zM hw (by decide)) m (s.at (some .f)) v1 (zk (zG (zk hw (zN _)) m) hm) hb;rw[hk,hn] at e35;rw[hn] at mv;have v2:=(mv.v m v1).up (zG hw m);have hqm:q.m≠none:=λe=>by
  have:=(of_decide_eq_true (aa hq).2).symm.trans (ot C.lf);exact ns (e.symm.trans this)
 have e23:=(Bg (zw (zE _)) b e35).up (k':=90) (zN _);have hws:wsK b.s (.k q)=.k q:=by
  refine(?_:(match q.m with
   |none=>KR.ck b.s
   |some _=>.k q)=_)
  cases hm:q.m with
  |none=>exact absurd hm hqm
  |some _=>rfl
 rw[hws] at e23;refine ze (Ri C s cf W u (lk told) q) λW' jx=>⟨W',?_,((jx.2 _ v2).at_ none)⟩;have e32:E 90 32 [.o 12,.d (S 9),.d (kD (lk told)),.d (kD q),.d (.int u)] (PG K (s.wA .f cf W)) (.ok (.d (kD .t),PG K (match gX (lk told) q with
  |true=>s.wA .f cf W
  |false=>(s.wA .f cf W).vn (u,.e)))):=(go (L4 K (s.wA .f cf W) u (lk told) q hq) ⟨(Rg K _ u (lk told) q hq).up (by decide),Bc K _ _ _ hq,by
   cases gX (lk told) q with
   |true=>exact⟨rfl,rfl⟩
   |false=>exact⟨(Bf K _ v2 (zk (zN _) hm) (u,.e)).up (zw (zE _)),rfl,rfl⟩⟩).up (by decide)
 refine go (L3 K s (s.wA .f cf W) u (K.mf.d .f) (.list (K.mf.ks.map kD)) (K.mf.kv .f).d told.d b.d (lk told) q) ⟨((sV K (s.at (some .f)) C.num (xq C.ok _) .f (C.pm .f)).up (k':=90) (by decide)),((j0 K (s.at (some .f)) C.num (K.mf.kv .f) C.lf).up (k':=90) (by decide)),e23,e32,rfl,?_⟩;exact congrArg (λs=>aR (rv .none (PG K (s.at none)))) jx.1
end
def on(x:P3)(l:List (P3×Int)):List P3:=match hs x l with
 |true=>[x]
 |false=>[]
def aaC(l:List (P3×Int)):List P3:=on .f l++(on .p l++on .q l)
noncomputable def pdf(c:Cl):Nat->List P3->List P3->List P3
 |0,s,_=>s
 |_+1,s,[]=>s
 |n+1,s,x::r=>match s.any (P3.beq (c7 x r).1) with
  |true=>pdf c n s (c7 x r).2
  |false=>pdf c n (s++[(c7 x r).1]) ((c7 x r).2++aaC (c.at (c7 x r).1))
def rfD(c:Cl)(x:P3):D:=.list ((pdf c 20 [] (aaC (c.at x))).map P3.d)
noncomputable def stC(c:Cl)(W:List (Int×Wt))(A0:List (P3×Int)):St:=⟨none,W,none,A0,c.p,c.q,c.f⟩
theorem aaD{f g:Option Int->Option Int->Option Int->α}(o1 o2 o3:Option Int)(h:((ops (o1.getD 0)).map λa=>(ops (o2.getD 0)).map λb=>(ops (o3.getD 0)).map λc=>f a b c)=(ops (o1.getD 0)).map λa=>(ops (o2.getD 0)).map λb=>(ops (o3.getD 0)).map λc=>g a b c):f o1 o2 o3=g o1 o2 o3:=all1 o3 (all1 o2 (all1 o1 h))
theorem aaE{f g:Option Int->Option Int->Option Int->Option Int->Option Int->Option Int->α}(o1 o2 o3 o4 o5 o6:Option Int)(h:((ops (o1.getD 0)).map λa=>(ops (o2.getD 0)).map λb=>(ops (o3.getD 0)).map λc=>(ops (o4.getD 0)).map λd=>(ops (o5.getD 0)).map λe=>(ops (o6.getD 0)).map λx=>f a b c d e x)=(ops (o1.getD 0)).map λa=>(ops (o2.getD 0)).map λb=>(ops (o3.getD 0)).map λc=>(ops (o4.getD 0)).map λd=>(ops (o5.getD 0)).map λe=>(ops (o6.getD 0)).map λx=>g a b c d e x):f o1 o2 o3 o4 o5 o6=g o1 o2 o3 o4 o5 o6:=all1 o6 (all1 o5 (all1 o4 (all1 o3 (all1 o2 (all1 o1 h)))))
section
variable(K:Kx)(W:List (Int×Wt))(A0:List (P3×Int))(n:Nat)
def IJ(x:P3)(P Q F:List (P3×Int)):=aC L.tb (n+1) 52 [.o 12,.d x.d] (PG K ⟨none,W,none,A0,P,Q,F⟩)
def IK(x:P3)(P Q F:List (P3×Int)):R (AV×G):=.ok (.d (rfD ⟨P,Q,F⟩ x),PG K ⟨none,W,none,A0,P,Q,F⟩)
theorem acU P Q y:IJ K W A0 n .f P Q (l7 .f y)=IK K W A0 .f P Q (l7 .f y):=all1 (f:=λy=>IJ K W A0 n .f P Q (l7 .f y)) (g:=λy=>IK K W A0 .f P Q (l7 .f y)) y (by kernel_rfl)
theorem aaF a c Q y:IJ K W A0 n .p (c3 a none c) Q (l7 .f y)=IK K W A0 .p (c3 a none c) Q (l7 .f y):=aaD (f:=λa c y=>IJ K W A0 n .p (c3 a none c) Q (l7 .f y)) (g:=λa c y=>IK K W A0 .p (c3 a none c) Q (l7 .f y)) a c y (by kernel_rfl)
theorem aaG t a c d e x y:IJ K W A0 n .p (c3 a (some t) c) (c3 d e x) (l7 .f y)=IK K W A0 .p (c3 a (some t) c) (c3 d e x) (l7 .f y):=aaE (f:=λa c d e x y=>IJ K W A0 n .p (c3 a (some t) c) (c3 d e x) (l7 .f y)) (g:=λa c d e x y=>IK K W A0 .p (c3 a (some t) c) (c3 d e x) (l7 .f y)) a c d e x y (by kernel_rfl)
theorem aaH e x P y:IJ K W A0 n .q P (c3 none e x) (l7 .f y)=IK K W A0 .q P (c3 none e x) (l7 .f y):=aaD (f:=λe x y=>IJ K W A0 n .q P (c3 none e x) (l7 .f y)) (g:=λe x y=>IK K W A0 .q P (c3 none e x) (l7 .f y)) e x y (by kernel_rfl)
theorem aaI t a b c e x y:IJ K W A0 n .q (c3 a b c) (c3 (some t) e x) (l7 .f y)=IK K W A0 .q (c3 a b c) (c3 (some t) e x) (l7 .f y):=aaE (f:=λa b c e x y=>IJ K W A0 n .q (c3 a b c) (c3 (some t) e x) (l7 .f y)) (g:=λa b c e x y=>IK K W A0 .q (c3 a b c) (c3 (some t) e x) (l7 .f y)) a b c e x y (by kernel_rfl)
end
section
variable(K:Kx)(W:List (Int×Wt))(A0:List (P3×Int))(o1 o2 o3 o4 o5 o6 o7:Option Int)
theorem Rk(x:P3):E 1 52 [.o 12,.d x.d] (PG K (stC (jZ o1 o2 o3 o4 o5 o6 o7) W A0)) (.ok (.d (rfD (jZ o1 o2 o3 o4 o5 o6 o7) x),PG K (stC (jZ o1 o2 o3 o4 o5 o6 o7) W A0))):=bI λn=>match x with
 |.p=>match o2 with
  |none=>aaF K W A0 n o1 o3 _ o7
  |some t=>aaG K W A0 n t o1 o3 o4 o5 o6 o7
 |.q=>match o4 with
  |none=>aaH K W A0 n o5 o6 _ o7
  |some t=>aaI K W A0 n t o1 o2 o3 o5 o6 o7
 |.f=>acU K W A0 n _ _ o7
end
def wKs(W:List (Int×Wt)):List D:=(W.map wD).map (·.1)
noncomputable def Rl(c:Cl)(g:G)(W:List (Int×Wt)):List P3->Sp
 |[]=>.ret (sn true (sortable (wKs W)&&decide ((W.map wD).length<64))) (rv (.list (aT (wKs W))) g)
 |x::xs=>.ask 52 [.o 12,.d x.d] g (.cQ (.ok (.d (rfD c x),g)) (match rc c x with
  |true=>.ret true (.ex (.int (mn (c.at x))) g)
  |false=>Rl c g W xs))
def e49(it:D):Env:=[.v (.o 12),.un,.v (.d (S 12)),.un,.un,.un,.un,.v (.d it),.un]
theorem L6(K:Kx)(it:D)(W:List (Int×Wt))(A0:List (P3×Int))(o1 o2 o3 o4 o5 o6 o7:Option Int):(aY L.tb (qU.off 3) (e49 it) (PG K (stC (jZ o1 o2 o3 o4 o5 o6 o7) W A0))).left fin true (Rl (jZ o1 o2 o3 o4 o5 o6 o7) (PG K (stC (jZ o1 o2 o3 o4 o5 o6 o7) W A0)) W [.f,.p,.q])=Rl (jZ o1 o2 o3 o4 o5 o6 o7) (PG K (stC (jZ o1 o2 o3 o4 o5 o6 o7) W A0)) W [.f,.p,.q]:=
 aah (f:=λo1 o2 o3 o4 o5 o6 o7=>(aY L.tb (qU.off 3) (e49 it) (PG K (stC (jZ o1 o2 o3 o4 o5 o6 o7) W A0))).left fin true (Rl (jZ o1 o2 o3 o4 o5 o6 o7) (PG K (stC (jZ o1 o2 o3 o4 o5 o6 o7) W A0)) W [.f,.p,.q]))
  (g:=λo1 o2 o3 o4 o5 o6 o7=>Rl (jZ o1 o2 o3 o4 o5 o6 o7) (PG K (stC (jZ o1 o2 o3 o4 o5 o6 o7) W A0)) W [.f,.p,.q]) o1 o2 o3 o4 o5 o6 o7 (by kernel_rfl)
section
mutual
theorem lh:∀d:D,BD d d=true
 |.none=>rfl
 |.bool b=>dt rfl
 |.int i=>dt rfl
 |.str s=>dt rfl
 |.list l=>gQ l
 |.tuple l=>gQ l
 |.dict l=>oI l
theorem gQ:∀l:List D,jq l l=true
 |[]=>rfl
 |x::r=>aX (lh x) (gQ r)
theorem oI:∀l:List (D×D),xw l l=true
 |[]=>rfl
 |(a,x)::r=>aX (lh a) (aX (lh x) (oI r))
end
noncomputable def R5(l:List D)(b:Bool):Nat->Bool
 |0=>b
 |n+1=>sn (R5 l b n) (jq l l)
theorem oJ{l:List D}(h:b=true):∀n,R5 l b n=true
 |0=>h
 |n+1=>bN (oJ h n) (gQ l)
noncomputable def P7(K:Kx)(r:G):G:=K.o0::K.o1::K.o2::K.o3::K.o4::K.o5::.list K.cy::r
def sg0(K:Kx):G:=P7 K [.inst 5 [(203,.o 8),(183,.o 9),(171,.o 10)],.dict [],.list [],.list []]
def j2(K:Kx)(fs:List (Nat×AV))(r:G):G:=P7 K (.inst 5 ([(203,.o 8),(183,.o 9),(171,.o 10)]++fs)::.dict [(S 11,.d (iy K.s1)),(S 12,.d (iy K.s1))]::.list [S 11,S 12]::.list []::r)
def Ij:List (Nat×AV):=[(197,.d (.list [S 11,S 12]))]
def lj:List (Nat×AV):=Ij++[(255,.d (.list []))]
section
variable(K:Kx)
theorem i54:E 2 54 [.o 7,.d (iy K.s1)] (sg0 K) (.ok (.d .none,j2 K [] [])):=bI λn=>by kernel_rfl
theorem i55 b:E 9 55 [.o 7,.d (sb b)] (j2 K [] []) (.ok (.d .none,j2 K [] [])):=bI λn=>by cases b <;> kernel_rfl
theorem i57:E 9 57 [.o 7] (j2 K [] []) (.ok (.d (.list [S 11,S 12]),j2 K [] [])):=bI λn=>by kernel_rfl
theorem i58:E 9 58 [.o 7] (j2 K Ij []) (.ok (.d (.list []),j2 K Ij [])):=bI λn=>by kernel_rfl
theorem i59:E 9 59 [.o 7] (j2 K lj []) (.ok (.d .none,j2 K lj [.dict []])):=bI λn=>by kernel_rfl
end
noncomputable def qa(f:Nat)(vs:List AV)(g:G)(d:D)(g':G)(t:Sp):Sp:=.ask f vs g (.cQ (.ok (.d d,g')) t)
def Ik(s1 sp sq sf sx:Int)(mp mq mf bp bq t b ns:D):List D:=[iy s1,dM .p sp mp bp,dM .q sq mq bq,.tuple [S 54,.int sf,P3.f.d,mf,S 0,t,b],.tuple [S 102,.int sx,S 0,ns]]
def acV(K:Kx):Sp:=qa 54 [.o 7,.d (iy K.s1)] (sg0 K) .none (j2 K [] []) (qa 55 [.o 7,.d (S 11)] (j2 K [] []) .none (j2 K [] []) (qa 55 [.o 7,.d (S 12)] (j2 K [] []) .none (j2 K [] []) (qa 57 [.o 7] (j2 K [] []) (.list [S 11,S 12]) (j2 K [] []) (qa 58 [.o 7] (j2 K Ij []) (.list []) (j2 K Ij []) (qa 59 [.o 7] (j2 K lj []) .none (j2 K lj [.dict []])
 (.ret (R5 K.cy true 12) (rv .none (j2 K lj [.dict []]))))))))
theorem i53 K {sp sq sf sx:Int} {mp mq mf bp bq t b ns:D} (h:K.cy=Ik K.s1 sp sq sf sx mp mq mf bp bq t b ns):E 10 53 [.o 7,.o 6] (P7 K [.inst 5 []]) (.ok (.d .none,j2 K lj [.dict []])):=
 go (s:=acV K) (by
  obtain⟨o0,o1,o2,o3,o4,o5,cy,s1,kp,kq,kf,td⟩:=K;have h:cy=Ik s1 sp sq sf sx mp mq mf bp bq t b ns:=h;refine gR h ?_
  kernel_rfl) ⟨(i54 K).up (by decide),i55 K false,i55 K true,i57 K,i58 K,i59 K,oJ rfl 12,rfl⟩
def kF0:List (Nat×AV):=[(257,.o 7),(276,.o 13),(275,.o 14),(223,.o 15),(151,.o 16),(267,.o 17),(98,.o 19),(126,.d (S 0))]
def kF1:List (Nat×AV):=kF0++[(153,.o 6),(205,.o 20)]
def kG0(K:Kx):G:=j2 K lj [.dict [],.inst 4 kF0,.dict [],.dict [],.dict [],.dict [],.dict [],.dict [],.dict [(S 0,.o 18)]]
def kG(K:Kx)(cs as:List (D×AV))(r:G):G:=j2 K lj (.dict []::.inst 4 kF1::.dict []::.dict []::.dict []::.dict cs::.dict []::.dict []::.dict ((S 0,.o 18)::as)::.dict []::r)
theorem i34 K:E 9 34 [.o 12,.o 7] (j2 K lj [.dict [],.inst 4 []]) (.ok (.d .none,kG0 K)):=bI λn=>by kernel_rfl
def NH(K:Kx):Nat->List (D×AV)
 |0=>[]
 |1=>[(P3.p.d,.d (.tuple [K.mp.d .p,.none]))]
 |_=>[(P3.p.d,.d (.tuple [K.mp.d .p,.none])),(P3.q.d,.d (.tuple [K.mq.d .q,.none]))]
def NI:Nat->List (D×AV)
 |0=>[]
 |1=>[(S 19,.o 21)]
 |_=>[(S 19,.o 21),(S 20,.o 22)]
noncomputable def NJ:Nat->G
 |0=>[]
 |1=>[.dict []]
 |_=>[.dict [],.dict []]
theorem i48(K:Kx)(u:Int)(x:P3)(i:Nat)(h:i=match x with |.p=>0 |.q=>1 |.f=>2):E 9 48 [.o 12,.d x.d,.o 16,.d (.int u)] (kG K (NH K i) (NI i) (NJ i)) (.ok (.d .none,kG K (NH K i) (NI i) (NJ i))):=bI λn=>by
 subst h;cases x <;> kernel_rfl
noncomputable def vo:St:=⟨none,[],none,[],[],[],[]⟩
def acW(K:Kx)(sp sq sf:Int):Sp:=qa 34 [.o 12,.o 7] (j2 K lj [.dict [],.inst 4 []]) .none (kG0 K) (qa 48 [.o 12,.d P3.p.d,.o 16,.d (.int sp)] (kG K (NH K 0) (NI 0) (NJ 0)) .none (kG K (NH K 0) (NI 0) (NJ 0))
 (qa 48 [.o 12,.d P3.q.d,.o 16,.d (.int sq)] (kG K (NH K 1) (NI 1) (NJ 1)) .none (kG K (NH K 1) (NI 1) (NJ 1)) (qa 48 [.o 12,.d P3.f.d,.o 16,.d (.int sf)] (kG K (NH K 2) (NI 2) (NJ 2)) .none (kG K (NH K 2) (NI 2) (NJ 2))
 (.ret (R5 K.cy true 6) (rv .none (PG K vo))))))
theorem i47 K {sp sq sf sx:Int} {bp bq b ns:D} (h:K.cy=Ik K.s1 sp sq sf sx (K.mp.d .p) (K.mq.d .q) (K.mf.d .f) bp bq K.told.d b ns):E 10 47 [.o 12,.o 7,.o 6] (j2 K lj [.dict [],.inst 4 []]) (.ok (.d .none,PG K vo)):=
 go (s:=acW K sp sq sf) (by
  obtain⟨o0,o1,o2,o3,o4,o5,cy,s1,kp,kq,kf,td⟩:=K;have h:cy=Ik s1 sp sq sf sx (kp.d .p) (kq.d .q) (kf.d .f) bp bq td.d b ns:=h;refine gR h ?_
  kernel_rfl) ⟨i34 K,i48 K sp .p 0 rfl,i48 K sq .q 1 rfl,i48 K sf .f 2 rfl,oJ rfl 6,rfl⟩
theorem i60 K s:E 1 60 [.o 7] (PG K s) (.ok (.d (.list [S 11,S 12]),PG K s)):=bI λn=>by kernel_rfl
theorem i69 K s:E 1 69 [.o 7] (PG K s) (.ok (.d (.list []),PG K s)):=bI λn=>by kernel_rfl
theorem i70 K s b:E 1 70 [.o 7,.d (sb b)] (PG K s) (.ok (.d (.tuple []),PG K s)):=bI λn=>by cases b <;> kernel_rfl
noncomputable def acX:Env:=[.v (.o 12),.un,.un,.un,.un,.un,.un,.un,.un]
def ckI(K:Kx)(i1 i2 i3 i4 i5:D)(s0 s1 s2 s3 s4:St)(o:Option Int):Sp:=qa 69 [.o 7] (PG K s0) (.list []) (PG K s0) (qa 60 [.o 7] (PG K s0) (.list [S 11,S 12]) (PG K s0) (qa 70 [.o 7,.d (S 11)] (PG K s0) (.tuple []) (PG K s0) (qa 70 [.o 7,.d (S 12)] (PG K s0) (.tuple []) (PG K s0)
 (qa 50 [.o 12,.d i1] (PG K s0) .none (PG K s0) (qa 50 [.o 12,.d i2] (PG K s0) .none (PG K s1) (qa 50 [.o 12,.d i3] (PG K s1) .none (PG K s2) (qa 50 [.o 12,.d i4] (PG K s2) .none (PG K s3) (.ask 50 [.o 12,.d i5] (PG K s3) (.cQ (Nr K s4 o) (match o with
 |some u=>.ret (R5 K.cy true 5) (.ex (.int u) (PG K s4))
 |none=>.ret (R5 K.cy true 6) (.ok (.gV,e49 i5,PG K s4))))))))))))
theorem Il K (i1 i2 i3 i4 i5) (h:K.cy=[i1,i2,i3,i4,i5]) (s0 s1 s2 s3 s4) o:(aY L.tb (aK.fst 3 qU) acX (PG K s0)).left id true (ckI K i1 i2 i3 i4 i5 s0 s1 s2 s3 s4 o)=ckI K i1 i2 i3 i4 i5 s0 s1 s2 s3 s4 o:=by obtain⟨o0,o1,o2,o3,o4,o5,cy,u,kp,kq,kf,td⟩:=K;subst h;cases o <;> kernel_rfl
end
noncomputable abbrev oK:=aT.vv
theorem sY{x d:D}:∀{l:List D},d∈oK x l->d=x\/d∈l
 |[],h=>.inl (zX.mp h)
 |y::r,h=>by
  have h:d∈(if d4 y x=true then y::oK x r else x::y::r):=h;by_cases c:d4 y x=true
  ·rw[if_pos c] at h
   cases h with
   |head=>exact .inr (.head _)
   |tail _ h=>exact(sY h).imp id (.tail _)
  ·rw[if_neg c] at h
   cases h with
   |head=>exact .inl rfl
   |tail _ h=>exact .inr h
theorem j3{d:D}:∀{l:List D},d∈aT l->d∈l
 |[],h=>h
 |x::r,h=>(sY h).elim (λe=>e▸.head _) λh=>.tail _ (j3 h)
theorem Bq x:∀r:List D,(oK x r).length=r.length+1
 |[]=>rfl
 |y::r=>by
  refine(?_:(if d4 y x=true then y::oK x r else x::y::r).length=_);by_cases c:d4 y x=true
  ·exact gR (if_pos c ..) (congrArg (·+1) (Bq x r))
  ·exact gR (if_neg c ..) rfl
theorem u7:∀l:List D,(aT l).length=l.length
 |[]=>rfl
 |x::r=>(Bq x (aT r)).trans (congrArg (·+1) (u7 r))
def ap2(x y:D):Bool:=d4 x y||d4 y x
theorem u9{x:D}:∀{l:List D},l.all (ap2 x)=true->eZ l=true->eZ (oK x l)=true
 |[],_,_=>rfl
 |y::r,h,k=>by
  have h:=aa h;have k:=aa k;refine(?_:eZ (if d4 y x=true then y::oK x r else x::y::r)=true);by_cases c:d4 y x=true
  ·refine gR (if_pos c ..) (aX (zC.mpr λz hz=>(sY hz).elim (λe=>?_) λhz=>zC.mp k.1 z hz) (u9 h.2 k.2))
   exact gR e (zW.mpr (.inl c))
  ·exact gR (if_neg c ..) (aX (aX h.1 h.2) (aX k.1 k.2))
theorem qL:∀{l:List D},eZ l=true->eZ (aT l)=true
 |[],_=>rfl
 |x::r,h=>u9 (zC.mpr λy hy=>zC.mp (aa h).1 y (j3 hy)) (qL (aa h).2)
noncomputable def R6(lt:D->D->Bool):List D->Bool
 |[]=>true
 |x::r=>(r.head?.all λy=>!lt y x)&&R6 lt r
theorem Br{x:D}:∀{l:List D},(∀y∈l,d4 y x=true->d4 x y=false)->R6 d4 l=true->R6 d4 (oK x l)=true
 |[],_,_=>rfl
 |y::r,as,h=>by
  refine(?_:R6 d4 (if d4 y x=true then y::oK x r else x::y::r)=true);by_cases c:d4 y x=true
  ·refine gR (if_pos c ..) (aX ?_ (Br (λz hz=>as z (.tail _ hz)) (aa h).2))
   cases r with
   |nil=>exact congrArg (!·) (as y (.head _) c)
   |cons z r=>
    refine(?_:(((if d4 z x=true then z::oK x r else x::z::r).head?.all λz=>!d4 z y)=true));by_cases e:d4 z x=true
    ·exact gR (if_pos e ..) ((aa h).1)
    ·exact gR (if_neg e ..) (congrArg (!·) (as y (.head _) c))
  ·exact gR (if_neg c ..) (aX (by rw[Bool.not_eq_true] at c;exact congrArg (!·) c) h)
theorem vb:∀{l:List D},(∀x∈l,∀y∈l,d4 y x=true->d4 x y=false)->R6 d4 (aT l)=true
 |[],_=>rfl
 |x::r,h=>Br (λy hy=>h x (.head _) y (.tail _ (j3 hy))) (vb λz hz y hy=>h z (.tail _ hz) y (.tail _ hy))
theorem Bs:∀{l:List D},R6 d4 l=true->aT l=l
 |[],_=>rfl
 |x::r,h=>by
  refine(congrArg (oK x) (Bs (aa h).2)).trans ?_;cases r with
  |nil=>rfl
  |cons y r=>
   have h1:(!d4 y x)=true:=(aa h).1;refine(?_:(if d4 y x=true then y::oK x r else x::y::r)=_);exact(if_neg (by rw[Yt,] at h1;exact gR h1 (zi)) ..)
def IL(t u:Wt):Bool:=jr [.str t.s] [.str u.s]
theorem Im(t u:Wt):aF ((IL t u&&IL u t)=false) ((Wt.beq t u||(IL t u||IL u t))=true):=by exact⟨gP (gP (f:=λt=>IH.map λu=>(IL t u&&IL u t)) (g:=λ_=>IH.map λ_=>false) (by kernel_rfl) t) u,gP (gP (f:=λt=>IH.map λu=>(Wt.beq t u||(IL t u||IL u t))) (g:=λ_=>IH.map λ_=>true) (by kernel_rfl) t) u⟩
theorem aaJ(a b:Int):zD (.int a) (.int b)=decide (a=b):=by rw[zD];rfl
theorem Rm(a b:Int)(t u:Wt):d4 (wK (a,t)) (wK (b,u))=if decide (a=b)=true then IL t u else decide (a<b):=by refine(?_:(if zD (.int a) (.int b)=true then IL t u else decide (a<b))=_);exact gR (aaJ ..) rfl
theorem Ro(k e:Int×Wt)(h:d4 (wK k) (wK e)=true):d4 (wK e) (wK k)=false:=by
 obtain⟨a,t⟩:=k;rw[Rm] at h⊢;by_cases c:a=e.1
 ·subst c
  rw[if_pos (dt rfl)] at h⊢;have:=(Im t e.2).1;rw[h] at this;exact this
 ·rw[if_neg λe=>c (of_decide_eq_true e)] at h
  exact gR (if_neg λe=>c (of_decide_eq_true e).symm ..) (decide_eq_false (Int.lt_asymm (of_decide_eq_true h)))
theorem acY{k e:Int×Wt}(h:dm k e=false):ap2 (wK k) (wK e)=true:=by
 obtain⟨a,t⟩:=k;have h:(zD (.int e.1) (.int a)&&Wt.beq e.2 t)=false:=h;rw[aaJ] at h;unfold ap2;refine gR (Rm ..) (gR (Rm ..) ?_);by_cases c:a=e.1
 ·subst c
  refine gR (if_pos (dt rfl) ..) (gR (if_pos (dt rfl) ..) ?_);rw[dt rfl,Bool.true_and] at h;have:=(Im e.2 t).2;rw[h,ad1,Bool.or_comm] at this;exact this
 ·refine gR (if_neg λe=>c (of_decide_eq_true e) ..) (gR (if_neg λe=>c (of_decide_eq_true e).symm ..) ?_)
  exact zW.mpr ((Int.lt_or_gt_of_ne c).imp dt dt)
theorem Io:∀{W:List (Int×Wt)},sR W=true->eZ (wKs W)=true
 |[],_=>rfl
 |k::W,h=>by
  have h:=aa h;refine aX (zC.mpr λd hd=>?_) (Io h.2);refine ze (zH.mp hd) λ_ vZ=>(zg (λh1 jb=>?_) vZ);refine gL jb ?_;obtain⟨e,he,kN⟩:=zH.mp h1;refine gL kN ?_;refine acY ?_;have h1:=h.1;rw[Yt] at h1;exact Bool.not_eq_true _▸λc=>absurd (yM.mpr ⟨e,he,c⟩) (gR h1 (zi))
theorem mh{W:List (Int×Wt)}{d:D}(h:d∈wKs W):∃k,d=wK k:=by refine ze (zH.mp h) λe i9=>(zg (λhe t5=>?_) i9);refine gL t5 ?_;refine ze (zH.mp he) λk j4=>(zg (λ_ wu=>?_) j4);refine gL wu ?_;exact⟨k,rfl⟩
structure acZ(l:List D):Prop where
 s:(sortable l&&decide (l.length<64))=true
 i:aT l=l
 e:qP (.list l) (.list l)=true
 q:zD (.list l) (.list l)=true
theorem NK{W:List (Int×Wt)}(h:sR W=true)(hl:W.length<64):aF ((sortable (wKs W)&&decide ((W.map wD).length<64))=true) (acZ (aT (wKs W))):=by
 have al:∀l:List D,(∀d∈l,∃k,d=wK k)->l.all ml=true:=λl h=>zC.mpr λd hd=>by
  refine ze (h d hd) λk kj=>(gR kj ?_);rfl
 have mem:∀d∈aT (wKs W),∃k,d=wK k:=λd hd=>mh (j3 hd);have so:∀{l:List D},l.all ml=true->eZ l=true->sortable l=true:=λh k=>aX (zW.mpr (.inr h)) k;have hd:=Io h;refine⟨aX (so (al _ λd hd=>mh hd) hd) (dt (gR (zA ..) hl)),⟨aX (so (al _ mem) (qL hd)) (dt (by refine gR (u7 ..) (gR (((zA _).trans (zA _)) ..) ?_);exact hl)),Bs (vb λx hx y hy=>?_),?_,?_⟩⟩
 ·refine ze (mh hx) λa hX=>(gR hX ?_)
  refine ze (mh hy) λb o9=>(gR o9 ?_);exact Ro b a
 ·generalize aT (wKs W)=l at mem
  have nd:bK l=true:=by
   induction l with
   |nil=>rfl
   |cons x l ih=>
    refine ze (mem x (.head _)) λk e=>?_;subst e;exact ih λd hd=>mem d (.tail _ hd)
  have dp:adu l<=2:=by
   induction l with
   |nil=>exact zE _
   |cons x l ih=>
    refine ze (mem x (.head _)) λk e=>?_;subst e;exact Nat.max_le.mpr ⟨(yd (by kernel_rfl)),ih (λd hd=>mem d (.tail _ hd)) nd⟩
  exact aX (aX nd nd) (zW.mpr (.inl (dt (zk (zw dp) (by decide)))))
 ·generalize aT (wKs W)=l at mem
  refine(?_:YG l l=true)
  induction l with
  |nil=>rfl
  |cons x l ih=>
   refine ze (mem x (.head _)) λk e=>?_;subst e;refine aX ?_ (ih λd hd=>mem d (.tail _ hd));obtain⟨a,t⟩:=k;refine gR (Nn ..) (gR (gx ..) ?_);exact gP (f:=λt=>true&&Wt.beq t t) (g:=λ_=>true) rfl t
noncomputable def Rp(c:Cl):List P3->Option Int
 |[]=>none
 |x::xs=>match rc c x with
  |true=>some (mn (c.at x))
  |false=>Rp c xs
theorem Ip c:∀l:List P3,QO c l=(Rp c l).getD (-1)
 |[]=>rfl
 |x::xs=>by
  refine(?_:cond (rc c x) (mn (c.at x)) (QO c xs)=(match rc c x with
   |true=>some (mn (c.at x))
   |false=>Rp c xs).getD (-1))
  cases rc c x with
  |true=>rfl
  |false=>exact Ip c xs
theorem Iq{K:Kx}{w:Ws}{told:N} z:∀(l:List N) s,RZ z (l.map λb=>(b.s,kd w (lk told) 18 b))=(wa (l.map (pR K w told)) s).1.getD z
 |[],_=>rfl
 |n::l,s=>by
  refine(?_:(match Ba n.s (kd w (lk told) 18 n) with
   |some u=>u
   |none=>RZ z (l.map λb=>(b.s,kd w (lk told) 18 b)))=(match Ba n.s (kd w (lk told) 18 n) with
   |some u=>(some u,nx w (lk told) K.ks 18 n s)
   |none=>wa (l.map (pR K w told)) (nx w (lk told) K.ks 18 n s)).1.getD z)
  cases Ba n.s (kd w (lk told) 18 n) with
  |some u=>rfl
  |none=>exact Iq z l _
def L7(K:Kx)(s:St):Option Int->R (AV×G)
 |some u=>.ex (.int u) (PG K s)
 |none=>.ok (.d (.list (aT (wKs s.W))),PG K s)
theorem NL{An:Nat->List AV->G->R (AV×G)->Prop}{K:Kx}{s:St}{c:Cl}{W:List (Int×Wt)}(hW:s.W=W)(hs:(sortable (wKs W)&&decide ((W.map wD).length<64))=true)(e:∀x,An 52 [.o 12,.d x.d] (PG K s) (.ok (.d (rfD c x),PG K s))):∀{xs:List P3} {Z:R (AV×G)->Prop},Good An (λy=>aR y=L7 K s (Rp c xs)) Z (Rl c (PG K s) W xs)
 |[],_=>⟨bN rfl hs,hW▸rfl⟩
 |x::xs,_=>by
  refine⟨e x,?_⟩;refine(?_:Good An (λy=>aR y=L7 K s (match rc c x with
   |true=>some (mn (c.at x))
   |false=>Rp c xs)) _ (match rc c x with
   |true=>.ret true (.ex (.int (mn (c.at x))) (PG K s))
   |false=>Rl c (PG K s) W xs))
  cases rc c x with
  |true=>exact⟨rfl,rfl⟩
  |false=>exact NL hW hs e
def tdS(K:Kx)(r:R (AV×G))(t:Sp):Sp:=qa 53 [.o 7,.o 6] (P7 K [.inst 5 []]) .none (j2 K lj [.dict []]) (qa 47 [.o 12,.o 7,.o 6] (j2 K lj [.dict [],.inst 4 []]) .none (PG K vo) (.ask 49 [.o 12] (PG K vo) (.cQ r t)))
def tdL(ws:List D)(g:G):Sp:=.br 761 true (.br 761 (zD (.list ws) (.list (aT ws))) (tdR ws g (-1)) (tdR ws g (-2))) (.br 761 false (.ret true (rv (.int (-1)) g)) (.ret true (rv (.int (-2)) g)))
where tdR (ws:List D) (g:G) (i:Int):Sp:=.ret (sn (sn true (sortable ws&&decide (ws.length<64))) (qP (.list ws) (.list (aT ws)))) (rv (.int i) g)
theorem aaK K u g:walk L.tb 86 [.o 6] (P7 K []) (tdS K (.ex (.int u) g) (.ret true (rv (.int u) g)))=tdS K (.ex (.int u) g) (.ret true (rv (.int u) g)):=by kernel_rfl
theorem aaL K (ws:List D) g:walk L.tb 86 [.o 6] (P7 K []) (tdS K (.ok (.d (.list ws),g)) (tdL ws g))=tdS K (.ok (.d (.list ws),g)) (tdL ws g):=by kernel_rfl
def Sc.K(x:Sc)(a:Nat)(l:Int):Kx:=⟨wd x.j.ws,A7,.dict ([(S 152,.d (.list x.j.cells)),(S 40,.d (.int a)),(S 110,.d (.int l)),(S 156,.o 0),(S 151,.o 1)]++X7 (some x.j.res)),.list (x.cl.p.map cd),.list (x.cl.q.map cd),.list (x.cl.f.map cd),x.items,x.s1,x.mp,x.mq,x.mf,x.told.rw⟩
theorem Bt:∀l:List (P3×Int),bK (l.map cd)=true
 |[]=>rfl
 |(x,u)::r=>aX (by cases x <;> rfl) (Bt r)
theorem Bu:∀l:List Bool,bK (l.map λb=>.int (two b))=true
 |[]=>rfl
 |_::r=>Bu r
theorem qM y (m:Pm):nodict (m.d y)=true:=by
 have d:∀k s a,nodict (decl y k s a)=true:=λk s a=>aX HF rfl;cases m with
 |n=>rfl
 |o s a=>exact aX (d 0 s a) rfl
 |t s a u b=>exact aX (d 0 s a) (aX (d 1 u b) rfl)
theorem xu(l:List N):nodict (iR l)=true:=nds l
theorem Ir:∀{l:List D},(∀x∈l,isInt x=true)->bK l=true
 |[],_=>rfl
 |.int i::l,h=>Ir (l:=l) λx hx=>h x (.tail _ hx)
 |.none::_,h |.bool _::_,h |.str _::_,h |.list _::_,h |.tuple _::_,h |.dict _::_,h=>absurd (h _ (.head _)) zi
theorem ac0(x:Sc) a l:KOk (x.K a l) where
 o0:=aX (Bu _) (aX (Bu _) (aX (Bu _) rfl))
 o1:=rfl
 o2:=aX (b:=true) (Ir x.j.ok.2) rfl
 o3:=Bt _
 o4:=Bt _
 o5:=Bt _
 cy:=aX rfl (aX (aX (qM .p x.mp) (aX (xu _) rfl)) (aX (aX (qM .q x.mq) (aX (xu _) rfl)) (aX (aX (qM .f x.mf) (aX rfl (aX HF (aX HF rfl)))) (aX (aX (xu _) rfl) rfl))))
 c:=aX (aX rfl (aX (qM .p x.mp) rfl)) (aX (aX rfl (aX (qM .q x.mq) rfl)) (aX (aX rfl (aX (qM .f x.mf) (aX ((congrArg nodict (lS x.told)).symm.trans HF) rfl))) rfl))
theorem ac1(x:Sc)(h:x.ok) a l:Cx (x.K a l) x.j.ws x.told x.j.res:=⟨ac0 x a l,λy=>by
 obtain⟨⟨h1,h2,h3,_⟩,_⟩:=h;cases y
 ·exact h1
 ·exact h2
 ·exact h3,rfl,by
 obtain⟨⟨_,_,_,_,_,h6,_⟩,_⟩:=h;exact h6⟩
theorem NM{x:Sc}(h:x.ok):∃o,x.cl=jZ (x.bp.p.map N.s) (x.bp.q.map N.s) (x.bp.f.map (·.2.s)) (x.bq.p.map N.s) (x.bq.q.map N.s) (x.bq.f.map (·.2.s)) o:=by
 obtain⟨⟨_,_,_,_,_,_,hb⟩,_⟩:=h;rcases hb with⟨_,e⟩ |⟨_,e⟩
 ·exact⟨none,congrArg (Cl.mk x.bp.aW x.bq.aW) e⟩
 ·exact⟨some x.body.s,congrArg (Cl.mk x.bp.aW x.bq.aW) e⟩
def sA(x:Sc)(W:List (Int×Wt)):St:=(vo.wA .p x.bp.aW W).at none
def sB(x:Sc)(W W':List (Int×Wt)):St:=((sA x W).wA .q x.bq.aW W').at none
def sC(x:Sc)(W W' W'':List (Int×Wt)):St:=((sB x W W').wA .f x.cf W'').at none
theorem aaM{s:St}{A B C:List (P3×Int)}(hp:s.pl=none)(hb:s.b=none)(h1:s.Ap=A)(h2:s.Aq=B)(h3:s.Af=C):s=stC ⟨A,B,C⟩ s.W s.A0:=by subst h1 h2 h3;obtain⟨pl,W,b,A0,Ap,Aq,Af⟩:=s;subst hp;subst hb;rfl
theorem aaN{K:Kx}{it:D}{s:St}{c:Cl}{W:List (Int×Wt)}{A0:List (P3×Int)}{o1 o2 o3 o4 o5 o6 o7:Option Int}(e:s=stC c W A0)(h:c=jZ o1 o2 o3 o4 o5 o6 o7)(hs:(sortable (wKs W)&&decide ((W.map wD).length<64))=true):En L.tb 91 (qU.off 3) (e49 it) (PG K s) (L7 K s (Rp c [.f,.p,.q])):=by subst e h;exact HD (Z:=nF) (L6 K _ W A0 _ _ _ _ _ _ _) (NL rfl hs λy=>(Rk K W A0 _ _ _ _ _ _ _ y).up (Zf 1 90))
def CkG(x:Sc)(a:Nat)(l:Int):Prop:=∃s' o,dQ (sR s'.W=true) (s'.W.length<64) (E 92 49 [.o 12] (PG (x.K a l) vo) (L7 (x.K a l) s' o)) (o.getD (-1)=due x.j.ws (lk x.told) x.cl x.ns)
theorem It x (h:x.ok) a l:CkG x a l:=by
 have C:=ac1 x h a l;refine ze (NM h) λo7 hcl=>?_;obtain⟨⟨_,_,_,hp,hq,_,hf⟩,hl,hw⟩:=h;have v0:Vd 0 vo:=⟨rfl,zm _,zm _,zm _,zm _,zm _⟩;refine ze (Bp C (y:=.p) (u:=x.sp) hp v0 (by decide) rfl rfl) λW1 aaO=>?_;obtain⟨e1,v1⟩:=aaO;refine ze (Bp C (y:=.q) (u:=x.sq) (s:=sA x W1) hq v1 (by decide) rfl rfl) λW2 jN=>?_;obtain⟨W3,e3,v3⟩:=Rj C rfl rfl (s:=sB x W1 W2) hf jN.2 (by decide) rfl rfl;have e0:=(Rf (x.K a l) vo x.s1 rfl).up (k':=91) (by decide);refine ze (L5 C (u:=x.sx) (s:=sC x W1 W2 W3) hl hw v3 (by decide) rfl rfl) λs4 q9=>?_;obtain⟨e4,mv,hp4⟩:=q9;have v4:=mv.v _ v3;have hd:=Iq (K:=x.K a l) (w:=x.j.ws) (told:=x.told) (QO x.cl [.f,.p,.q]) x.ns (sC x W1 W2 W3);obtain⟨hA1,hA2,hA3⟩:=mv.A rfl;generalize (wa (x.ns.map (pR (x.K a l) x.j.ws x.told)) (sC x W1 W2 W3)).1=o at e4 hd;have i1:=(i69 (x.K a l) vo).up (k':=91) (by decide);have i2:=(i60 (x.K a l) vo).up (k':=91) (by decide);have i3:=(i70 (x.K a l) vo false).up (k':=91) (by decide);have i4:=(i70 (x.K a l) vo true).up (k':=91) (by decide);have st:∀out,Good (E 91) (EnB L.tb 91 (qU.off 3) out) nF (ckI (x.K a l) (iy x.s1) (dM .p x.sp (x.mp.d .p) (iR x.bp.cZ)) (dM .q x.sq (x.mq.d .q) (iR x.bq.cZ)) (LD x.sf (x.mf.d .f) x.told x.body) (lI x.sx x.ns) vo (sA x W1) (sB x W1 W2) (sC x W1 W2 W3) s4 o)->E 92 49 [.o 12] (PG (x.K a l) vo) out:=λout g=>by
  have e1:=xb (Il (x.K a l) _ _ _ _ _ rfl vo (sA x W1) (sB x W1 W2) (sC x W1 W2 W3) s4 o) g;have h49:(aK.fst 3 qU).IG (aK.off 3 qU)=qU:=by kernel_rfl
  replace e1:=h49▸e1;exact En.ev (np:=1) (ns:=9) (by kernel_rfl) rfl e1
 have hWl:s4.W.length<64:=zM v4.W (by decide);cases o with
 |some u=>exact⟨s4,some u,v4.d,hWl,st _ ⟨i1,i2,i3,i4,e0,e1,jN.1,e3,e4,oJ rfl 5,rfl⟩,hd.symm⟩
 |none=>
  refine⟨s4,Rp x.cl [.f,.p,.q],v4.d,hWl,st _ ⟨i1,i2,i3,i4,e0,e1,jN.1,e3,e4,oJ rfl 6,?_⟩,(Ip x.cl _).symm.trans hd.symm⟩;exact aaN (aaM hp4 (mv.b) hA1 hA2 hA3) hcl (NK v4.d hWl).1
theorem L8(x:Sc)(h:x.ok) a l:∃rest,E 93 86 [.o 6] (x.g [] a l) (.ok (.d (.int (due x.j.ws (lk x.told) x.cl x.ns)),x.g rest a l)):=by
 refine ze (It x h a l) λs' Ea=>(ze Ea λo aaP=>?_);obtain⟨hd,hl,e,hz⟩:=aaP;have e53:=(i53 (x.K a l) rfl).up (k':=92) (by decide);have e47:=(i47 (x.K a l) (ns:=iR x.ns) (congrArg (Ik _ _ _ _ _ _ _ _ _ _ · _ _) (lS x.told))).up (k':=92) (by decide);refine⟨(PG (x.K a l) s').drop 7,?_⟩;refine(?_:E 93 86 [.o 6] (P7 (x.K a l) []) (.ok (_,PG (x.K a l) s')));refine gL hz ?_;cases o with
 |some u=>exact go (aaK (x.K a l) u (PG (x.K a l) s')) ⟨e53,e47,e,rfl,rfl⟩
 |none=>
  obtain⟨_,w⟩:=NK hd hl;have e:E 92 49 [.o 12] (PG (x.K a l) vo) (.ok (.d (.list (aT (wKs s'.W))),PG (x.K a l) s')):=e;generalize aT (wKs s'.W)=ws at e w;have k1:zD (.list ws) (.list (aT ws))=true:=w.i.symm▸w.q;exact go (aaL (x.K a l) ws (PG (x.K a l) s')) ⟨e53,e47,e,λ_=>⟨λ_=>⟨bN (bN rfl w.s) (w.i.symm▸w.e),rfl⟩,λf=>absurd (k1.symm.trans f) (λh=>zi h.symm)⟩,λf=>absurd f (λh=>zi h.symm)⟩
theorem aaQ:∀xs:List Int,xs.length<=63->∃n g',n<=200/\aC L.tb n eE [.d (.list (xs.map .int))] []=.ok (.d (.bool true),g'):=
 QH λx h a l=>by
  refine ze (L8 x h a l) λrest e=>(ze (NM h) λo hcl=>?_);obtain⟨⟨_,_,_,_,_,ht,_⟩,hl,hw⟩:=h;refine⟨_,rest,e.up (by decide),?_⟩;have d:=QT x.j (.list x.items::rest) (ot ht) hl (λn hn=>yk (hw n hn)) (a:=a) (l:=l) (x.bp.p.map N.s) (x.bp.q.map N.s) (x.bp.f.map (·.2.s)) (x.bq.p.map N.s) (x.bq.q.map N.s) (x.bq.f.map (·.2.s)) o;rw[←hcl] at d;exact d.up (by decide)
end aZ
theorem PySem.Challenge.cw_nz0398_01_holds : PySem.Challenge.rw_nz0398_01.Holds :=
 aZ.XU aZ.aaQ
