import PyProof.Rows.All
import Wide.All
import Open.Line
import Open.Boot
import OpenK.KWalk
import PySem.Syntax
import Wide.WTab
import KE.KxBytes
import KE.KBytesCut
import KE.BytesMake
import OpenK.KMore
import OpenK.KCell
import KE.KRevSl
import KE.KIsBytes
import KE.KDictLaws
import PyProof.EnumStmt
import PyProof.EnumMake
import PyProof.RangeFor
import PyProof.Rows.Range3
import PyProof.RulesDelMore
import PyProof.CompFree
import PyProof.ExcClass3
import PyProof.ExcBaseAll.Exception
import PyProof.InstStoreFacts
import PyProof.ExcAttrAll.Exception
import Lean
import PySem.Challenge.RW_nt0300_01
set_option autoImplicit true
set_option relaxedAutoImplicit true
set_option linter.all false
set_option maxRecDepth 100000
set_option genSizeOf false
set_option genInjectivity false
noncomputable section
open And renaming intro→i5
open Array renaming length_toList→mD,toList→nP,toList_inj→vY,getElem?_toList→vZ,toList_push→D1,toList_pop→NJ,toList_extract→NK,toList_append→NL,toArray_toList→NN,getElem_toList→NO,getElem?_eq_some_iff→NP,getElem?_eq_none_iff→NQ,getElem?_eq_getElem→NR,foldl_toList→NT,any_toList→NU
open Bool renaming noConfusion→aV,and_eq_true_iff→ef,and_eq_true→lu,eq_iff_iff→nO,or_eq_false_iff→qS,and_false→sY,true_and→vT,or_eq_true_iff→vU,not_eq_true'→vV,not_eq_false'→vW,false_ne_true→vX,false_eq_true→y4,or_true→NG,or_eq_true→NH,and_eq_false_iff→NI
open Decidable renaming em→mA
open Eq renaming symm→cc,refl→mz
open Exists renaming elim→Nj
open ForInStep renaming yield→pg
open Function renaming comp→MV
open Int renaming natCast_nonneg→f9,toNat_of_nonneg→g7,natAbs_of_nonneg→iI,ofNat_inj→i4,add_zero→ka,not_lt→nN,toNat_natCast→pa,ofNat_le→pb,ofNat→qP,add_sub_cancel→qQ,ofNat_sub→sS,not_le→sT,le_total→sU,add_assoc→sV,toNat→vO,self_le_toNat→vP,natCast_add→vQ,zero_add→yL,sub_self→yM,ofNat_lt→yN,ne_of_gt→yO,mul_zero→yP,min_eq_left→yQ,le_refl→yR,eq_ofNat_of_zero_le→yS,ediv_le_self→yT,add_mul→yU,sub_zero→DM,natAbs_neg→DN,min_eq_right→DO,max_eq_right→DP,max_eq_left→DQ,le_trans→DR,le_of_lt→DS,ediv_one→DT,zero_mul→My,toNat_of_nonpos→Mz,toNat_lt→MA,sub_eq_zero_of_eq→MB,ofNat_natAbs_of_nonpos→MC,neg_one_mul→ME,natCast_pos→MF,min_le_left→MG,lt_or_le→MH,lt_of_lt_of_le→MI,le_natAbs→MJ,le_max_left→MK,ediv_nonneg→ML,ediv_lt_of_lt_mul→MM,add_mul_ediv_right→MN,add_left_comm→MO
open Int.ofNat renaming inj→MD
open List renaming length_map→bx,length_append→bZ,map_append→cz,mem_singleton→dm,replicate→dC,not_mem_nil→dM,getElem?_eq_some_iff→et,mem_append→fM,range→fV,append_assoc→f7,getElem?_map→gh,mem_cons→gH,mem_append_right→gI,append_nil→gJ,mem_cons_self→gZ,getElem?_eq_getElem→hU,take_length→il,mem_map→iG,length_replicate→iH,nodup_cons→i1,lookup_cons→jw,getElem?_append_left→jx,length_cons→j8,getD_eq_getElem?_getD→j9,zip_cons_cons→lp,mem_cons_of_mem→lq,map_map→lr,size_toArray→mi,mem_range→mj,mem_of_getElem?→mm,length_set→mn,length_drop→mq,getElem?_eq_none→mr,drop→mw,all_eq_true→my,take→nI,mem_append_left→nJ,length_take→nK,getElem?_append_right→nL,cons_ne_nil→nM,take_append_drop→oV,reverse_cons→oW,lookup→oX,drop_eq_getElem_cons→oY,append_eq_nil_iff→oZ,length_pos_iff→qL,length→qM,getElem?_set→qN,drop_of_length_le→qO,zip_eq_zipWith→sG,toList_toArray→sH,pairwise_append→sI,mem_reverse→sJ,map_reverse→sL,map_cons→sM,map_congr_left→sN,getElem?_drop→sO,foldl_cons→sP,find?_cons→sQ,ext_getElem?→sR,take_of_length_le→vu,take_add_one→vv,nil_append→vy,mem_of_mem_take→vz,map_take→vA,map→vB,length_range→vC,length_filter_le→vD,getLast?_concat→vE,getElem_mem→vF,getElem?_replicate→vG,getElem?_cons_succ→vH,flatten_cons→vI,filter_cons→vJ,filter_append→vK,drop_zero→vL,drop_length→vM,contains_iff_mem→vN,map_set→yD,length_reverse→yE,length_nil→yF,isEmpty_iff→yG,head_mem→yH,getLast?_eq_some_getLast→yI,getLast?_eq_getElem?→yJ,dropLast_eq_take→yK,sum_append→Dj,reverse_eq_nil_iff→Dl,reverse_append→Dm,range_succ→Dp,pairwise_singleton→Dq,pairwise_map→Dr,of_mem_zip→Ds,mem_filterMap→Dt,mem_filter→Du,map_drop→Dv,getLast?_eq_some_iff→Dw,getElem?_take→Dx,getElem?_nil→Dy,getElem?_inj→Dz,forIn_cons→DA,flatten_append→DB,find?_eq_none→DC,find?_append→DD,filter_eq_nil_iff→DE,drop_drop→DF,any_eq_true→DG,take_succ_eq_append_getElem→L8,take_sublist→L9,sublist_flatten_of_mem→Ma,replicate_succ→Mb,range_succ_eq_map→Mc,range'_succ→Md,mem_of_mem_drop→Me,mem_iff_getElem→Mf,map_replicate→Mg,map_fst_zip→Mh,length_zipIdx→Mi,length_zip→Mj,length_pos_of_mem→Ml,length_eq_zero_iff→Mm,getLast?_eq_none_iff→Mn,getElem?_zip_eq_some→Mo,getElem?_zipIdx→Mp,getElem?_range→Mq,foldl_append→Mr,findIdx?_cons→Ms,filter_nil→Mt,eq_nil_of_length_eq_zero→Mu,dropLast_concat→Mv,any_eq_false→Mw
open List.Pairwise renaming nil→DI,imp_of_mem→ado,cons→adp
open List.Sublist renaming length_le→Mx
open List.cons renaming inj→i3
open Nat renaming le_trans→aE,le_of_eq→bb,le_add_right→bj,le_refl→bN,lt_of_lt_of_le→bX,add_assoc→bY,sub_add_cancel→cb,zero_add→cy,zero_le→cB,add_right_comm→cG,lt_of_le_of_lt→cH,le_of_lt→cI,le_add_left→cW,succ_le_succ→c7,not_lt→dj,lt_irrefl→dk,le_antisymm→dB,add_lt_add_left→dR,lt_succ_self→ec,add_le_add→ed,sub_le→eE,add_sub_cancel'→eT,add_le_add_left→ff,add_comm→fh,min_eq_left→fB,succ_pos→fU,ne_of_lt→f5,le_of_lt_succ→f6,lt_trans→gg,beq→gG,le_succ_of_le→gY,lt_or_ge→hO,add_le_add_right→hS,succ_lt_succ→ij,exists_eq_add_of_le→ik,lt_add_of_pos_right→i0,min_eq_right→ju,le_total→jv,mul_le_mul_left→j5,min_le_right→j6,lt_of_succ_lt→j7,succ_ne_self→kX,pos_of_ne_zero→kY,one_pos→kZ,not_lt_zero→lh,lt_succ_of_lt→lj,add_left_cancel→ll,sub_lt→l9,ne_of_gt→ma,lt_succ_iff_lt_or_eq→mf,le_succ→mg,add_zero→mh,sub_self→nB,lt_succ_of_le→nC,lt_of_le_of_ne→nF,le_of_succ_le_succ→nG,eq_zero_or_pos→nH,noConfusion→oP,min_le_left→oQ,lt_of_succ_lt_succ→oR,lt_of_add_lt_add_left→oS,succ_ne_zero→qF,pos_of_lt_add_right→qG,not_le→qH,le_of_sub_eq_zero→qI,eq_zero_of_add_eq_zero_right→qJ,eq_zero_of_add_eq_zero_left→qK,max_eq_left→sy,lt_asymm→sA,le_zero→sC,le_of_succ_le→sD,add_sub_assoc→sE,zero_mul→u6,sub_eq_zero_of_le→u7,not_succ_le_zero→u9,max_eq_right→vd,lt_or_eq_of_le→ve,lt_of_sub_pos→vj,le_sub_one_of_lt→vk,exists_eq_add_of_lt→vm,eq_of_beq_eq_true→vn,add_sub_cancel_left→vo,two_mul→yr,sub_pos_of_lt→yu,lt_one_iff→yv,lt_of_succ_le→yw,lt_add_of_pos_left→yx,le_of_add_le_add_right→yy,le_max_right→yz,eq_zero_of_not_pos→yA,add_right_cancel→yB,add_lt_of_lt_sub'→yC,zero_min→Dc,succ→Dd,sub_zero→De,sub_add_sub_cancel→Df,not_succ_le_self→Dg,le_max_left→Dh,mul_succ→LX,mul_le_mul_right→LY,min_self→LZ,le_sub_of_add_le→L0,le_of_ble_eq_true→L1,le_of_add_le_add_left→L2,add_sub_add_left→L4,add_lt_add_right→L5,add_lt_add_of_le_of_lt→L6,add_add_add_comm→L7
open Nat.succ renaming inj→fL
open Ne renaming symm→gr
open Option renaming none→aY,some→qD,map_eq_some_iff→qE,map→sx,isNone_iff_eq_none→C9,map_eq_none_iff→LO,isSome_iff_exists→LQ,isSome→LR,bind_eq_some_iff→LS
open Option.some renaming inj→bz,injEq→LN
open Or renaming elim→bq
open Prod renaming fst→yp,ext→C8
open Prod.mk renaming injEq→LM
open PyProof renaming noPylong_of_log2→LH
open PyProof.Rows renaming neg_int→LI,lt_int→LJ,eq_str→LK,IntsAre→LL,sub_int→ac7,ne_str→ac8,ne_int→ac9,mul_int→ada,mod_int→adb,le_int→ade,isub_int→adf,iadd_int→adg,gt_int→adh,getItem_tuple→adi,ge_int→adj,floordiv_int→adk,eq_int→adl,call_abs_int→adm,add_int→adn
open PySem renaming wpAny_bind→aN,wpAny_pure→br,wpAny→bw,Value→bI,model→bM,Shared→bU,wpAny_mono→cS,Around→di,mainGlobals→d9,World→el,wpAny_standAt→eN,wpAny_holding→e5,Params→fe,isTrue→fA,sizeLine_eq→fT,standAt→gF,bootBuiltins→gX,holding→iE,compEnvC→iF,starEach→iY,execs→iZ,wpAny_ite_split→jr,sizeLine→jY,pyIter→jZ,backTo→j1,Program→j4,mem_of_lookup→kM,getItem→kN,compareOp→kO,codeAny→kP,call_meets→kQ,callWith→kR,atKey→kS,assign→kT,treeTable→l5,operate→l6,OsState→l8,swapsWith→nq,swappedStores→nr,isSubtype_type→nw,intKind→ny,assignEach→nz,wpAny_rule→oF,wpAny_of_eq→oG,wpAny_loadPart_at→oH,typeOf→oI,typeLookup_type→oJ,putAt→oK,builtinLookup_eq_fast→oM,Scope→oN,strKind→oO,FuncData→pf,wpAny_truthy_bool→qo,wpAny_mkInt→qp,wpAny_call→qq,typeLookup→qr,subscripted→qt,spliced→qu,signature?_of→qw,entryFor_of_tree→qy,entryFor→qz,attributeBase→qA,argsOk→qB,Str→qC,wpAny_isSubtype_exc→se,wpAny_assign_Name→sf,truthy→sh,storedH→si,relabel→sj,letTemporaryGo→sm,foldedSetIterable→so,cellsFrom→sq,builtinType_eq_fast→sr,wpAny_mkBytes→uT,setItem→uU,codeAny_mono→uW,call_gives→uX,arm_exec_Assign→uZ,Operator→u5,NameKind→vq,wpAny_seqItems→yc,wpAny_release→yd,wpAny_newObj_type→ye,wpAny_loadName_local→yf,wpAny_field→yg,wpAny_bindName→yh,markedBehindIn→yk,excClassObj→yl,evalPart→ym,builtinsNs→yn,behindInMarks→yo,GenState→yX,wpAny_forIn_list→CN,wpAny_Name→CR,tupleKind_room_in1→CS,sysModules→CT,swapsWithSole→CU,slot_list_getitem→CV,slot_dict_contains→CW,letOwnedTupleGo→CX,eval_Subscript→CZ,call_meetsIn→C1,seqIndex_of→C6,wpAny_storeName_local→K9,wpAny_setSeqItemAt→La,wpAny_setItem_pairs→Lb,wpAny_pyIter_enum→Lc,wpAny_lookBehind→Ld,wpAny_loadName_cell→Le,wpAny_letTemporaryGo→Lf,wpAny_isNot_other→Lg,wpAny_getItem_list_slice→Lh,wpAny_comprehension_free→Li,wpAny_call_entry→Lj,wpAny_Dict_pairs→Lk,wpAny_Constant_str→Ll,slot_list_setitem→Lm,slot_dict_getitem→Ln,pastItsLine_dict→Lp,kt_meets_setdefault→Lq,codeAny_call_builtin→Lr,beq_builtin_none→Ls,wpAt_of_wpAny→LA,wpAt_bind→LB,seqIndex_neg→LC
open PySem.Builtin.Bytes renaming tooLong→y0,literal→y3,joined→DX,literalAsked→D0,window→Nm,takeBufferQuiet?→Nn,takeBuffer?→Np,stripM→Nq,splitM→Nr,searchArgs→Nt,payload→Nu,occurrences→Nv,isSpace→Nw,find?→Ny,bytesLike→Nz,bound?→NA,between→NB,tooLong→NF
open PySem.Builtin.Bytes.Kind renaming same→DY
open PySem.Builtin.List renaming listFitsIndex→DZ,listTooLong→ND,listSubscript?→adu
open PySem.Builtin.Range renaming rangeSize→mB,small→NC,rangeFitsLong→adt
open PySem.Builtin.Tuple renaming tupleCompareSizes→ads
open PySem.Calls renaming spliced_cons→ph,spliced_nil→vR,evalArgs_plain→vS,Name_function_global→Nl
open PySem.Challenge renaming rw_nt0300_01→nA,pw_nt0300_01→LG
open PySem.Code renaming quiet_builtin→Nk
open PySem.Data renaming noConfusion→su
open PySem.ExceptHandler renaming ExceptHandler→adr
open PySem.Expr renaming Call→yZ,Slice→DV,UnaryOp→Nh,Attribute→Ni
open PySem.F renaming store_object→u4,plainAttrs_list→yY,excBase_Exception→C7,slot_dict_setdefault→DU,attr_Exception→LF,sub_bool_bytes→M0,slot_list_reverse→M1,slot_list_pop→M3,slot_list_extend→M4,slot_list_append→M5,slot_int_rmul→M6,slot_int_index→M7,slot_dict_get→M8,slot_bool_eq_refl→M9,slot_bool_eq→Na,plainAttrs_dict→Nb,entry_int_eq→Nc,entry_dict_setdefault→Nd,args_int_eq_2→Nf,args_dict_setdefault_3→Ng
open PySem.Heap renaming get?_push_of_some→fC,get?_push_size→kb,lt_size→pd,get?_none_of_le→pe,SameBut→sW,get?_update_self→yV,get?_update_other→yW,size_push→MP,get?_update_ne→MQ
open PySem.Heap.DictOf renaming new→MU
open PySem.Heap.DictOfH renaming new→adq
open PySem.Heap.IsSliceOf renaming new→MT
open PySem.Heap.Ns1 renaming of_empty→MS
open PySem.Heap.SameBut renaming update→MR
open PySem.IsRange renaming new→DL
open PySem.NameKind renaming free→sF
open PySem.Obj renaming data→yq,mapFields→LU,isFreed_of_fields→LV,data_mapFields→LW
open PySem.SeqAt renaming rc_eq_decline_or→Lo
open PySem.SeqAt.EqAt renaming bool_bool→DW
open PySem.Stmt renaming Assign→C5
open PySem.Str renaming ofString→eH,ofString→j3
open PySem.Value renaming bool→jt,ref→kU,int→C3,notImplemented→Lv,none→Lw,builtin→Lx
open PySem.Value.ref renaming inj→u0
open PySem.W renaming findIn→fb,typeIs_bytes→iD,keepIn→js,boot_heap→j0,typeIn→l4,boot_drawn→l7,Looks→oU,topFrame→qs,hasDictIn→qx,lookIn→sk,looks_findIn→uV,callWith_of→uY,piecesOf→yi,piece_app→yj,kitx_bytes→CY,check_slot→C0,less?→LD
open PySem.W.FB renaming owner_bytes→qR,plainAttrs_bytes→sX,slot_bytes_getitem→MW,slot_bytes_eq→MX,entry_bytes_eq→MY,args_bytes_eq_2→MZ
open PySem.W.KBy renaming buffer_eq→DJ
open PySem.W.Looks renaming ld→Di
open PySem.W.RowW renaming records→Lz
open PySem.W.WData renaming bool→C2
open PySem.Within renaming cons→Lu
open Std.Legacy.Range renaming size→Ly,forIn_eq_forIn_range'→ac6
open Subtype renaming val→C4
open True renaming intro→kW
open Option renaming some→Y,none→O
namespace bc
theorem V.{u}{α:Sort u}{a:α}:a=a:=rfl
end bc
open bc (V)
section
namespace bc
@[elab_as_elim] def U{a b}{P:α->Prop}(e:a=b)(h:P b):P a:=Eq.subst e.symm h
@[elab_as_elim] def aP{a b}{P:α->Prop}(e:a=b)(h:P a):P b:=Eq.subst e h
section
variable {α β γ δ ε ζ:Sort _}{G:Prop}
variable {p0 p1 p2 p3 p4 p5:Prop}
variable {q0 q1 q2 q3:α->Prop}
variable {r0 r1 r2 r3 r4:α->β->Prop}
variable {s0 s1 s2 s3 s4 s5:α->β->γ->Prop}
variable {t0 t1 t2 t3 t4 t5 t6 t7 t8:α->β->γ->δ->Prop}
variable {m0 m1 m2 m3 m4 m5 m6 m7:α->β->γ->δ->ε->Prop}
variable {n0 n1 n2 n3 n4 n5 n6 n7 n8 n9 w0:α->β->γ->δ->ε->ζ->Prop}
def bp(h:p0/\p1)(k:p0->p1->G):G:=h.elim k
def aF(h:∃x,q0 x)(k:∀x,q0 x->G):G:=h.elim k
def dN(h:p0/\p1/\p2)(k:p0->p1->p2->G):G:=h.elim λa h=>bp h<|k a
def Ji(h:p0/\∃x,q0 x)(k:p0->∀x,q0 x->G):G:=h.elim λa h=>aF h<|k a
def aH(h:∃x,q0 x/\q1 x)(k:∀x,q0 x->q1 x->G):G:=h.elim λa h=>bp h<|k a
def gR(h:∃x y,r0 x y)(k:∀x y,r0 x y->G):G:=h.elim λa h=>aF h<|k a
def fG(h:p0/\p1/\p2/\p3)(k:p0->p1->p2->p3->G):G:=h.elim λa h=>dN h<|k a
def cw(h:∃x,q0 x/\q1 x/\q2 x)(k:∀x,q0 x->q1 x->q2 x->G):G:=h.elim λa h=>dN h<|k a
def xB(h:∃x,q0 x/\∃y,r0 x y)(k:∀x,q0 x->∀y,r0 x y->G):G:=h.elim λa h=>h.elim λa1 h=>aF h<|k a a1
def fY(h:∃x y,r0 x y/\r1 x y)(k:∀x y,r0 x y->r1 x y->G):G:=h.elim λa h=>aH h<|k a
def Jf(h:∃x y z,s0 x y z)(k:∀x y z,s0 x y z->G):G:=h.elim λa h=>gR h<|k a
def jO(h:p0/\p1/\p2/\p3/\p4)(k:p0->p1->p2->p3->p4->G):G:=h.elim λa h=>fG h<|k a
def rQ(h:p0/\∃x,q0 x/\q1 x/\q2 x)(k:p0->∀x,q0 x->q1 x->q2 x->G):G:=h.elim λa h=>cw h<|k a
def rP(h:p0/\∃x y,r0 x y/\r1 x y)(k:p0->∀x y,r0 x y->r1 x y->G):G:=h.elim λa h=>fY h<|k a
def kC(h:∃x,q0 x/\q1 x/\q2 x/\q3 x)(k:∀x,q0 x->q1 x->q2 x->q3 x->G):G:=h.elim λa h=>fG h<|k a
def um(h:∃x,q0 x/\q1 x/\∃y,r0 x y)(k:∀x,q0 x->q1 x->∀y,r0 x y->G):G:=h.elim λa h=>h.elim λa1 h=>h.elim λa2 h=>aF h<|k a a1 a2
def BB(h:∃x,q0 x/\∃y,r0 x y/\r1 x y)(k:∀x,q0 x->∀y,r0 x y->r1 x y->G):G:=h.elim λa h=>h.elim λa1 h=>aH h<|k a a1
def cj(h:∃x y,r0 x y/\r1 x y/\r2 x y)(k:∀x y,r0 x y->r1 x y->r2 x y->G):G:=h.elim λa h=>cw h<|k a
def gA(h:∃x y z,s0 x y z/\s1 x y z)(k:∀x y z,s0 x y z->s1 x y z->G):G:=h.elim λa h=>fY h<|k a
def YT(h:∃x y z u,t0 x y z u)(k:∀x y z u,t0 x y z u->G):G:=h.elim λa h=>h.elim λa1 h=>gR h<|k a a1
def Jj(h:p0/\p1/\p2/\p3/\p4/\p5)(k:p0->p1->p2->p3->p4->p5->G):G:=h.elim λa h=>jO h<|k a
def xC(h:p0/\∃x y,r0 x y/\r1 x y/\r2 x y)(k:p0->∀x y,r0 x y->r1 x y->r2 x y->G):G:=h.elim λa h=>cj h<|k a
def eh(h:∃x y,r0 x y/\r1 x y/\r2 x y/\r3 x y)(k:∀x y,r0 x y->r1 x y->r2 x y->r3 x y->G):G:=h.elim λa h=>kC h<|k a
def BA(h:∃x y,r0 x y/\r1 x y/\∃z,s0 x y z)(k:∀x y,r0 x y->r1 x y->∀z,s0 x y z->G):G:=h.elim λa h=>um h<|k a
def ia(h:∃x y z,s0 x y z/\s1 x y z/\s2 x y z)(k:∀x y z,s0 x y z->s1 x y z->s2 x y z->G):G:=h.elim λa h=>cj h<|k a
def rO(h:∃x y z u,t0 x y z u/\t1 x y z u)(k:∀x y z u,t0 x y z u->t1 x y z u->G):G:=h.elim λa h=>gA h<|k a
def YS(h:∃x y z u v,m0 x y z u v)(k:∀x y z u v,m0 x y z u v->G):G:=h.elim λa h=>h.elim λa1 h=>h.elim λa2 h=>gR h<|k a a1 a2
def Jh(h:p0/\∃x y,r0 x y/\r1 x y/\r2 x y/\r3 x y)(k:p0->∀x y,r0 x y->r1 x y->r2 x y->r3 x y->G):G:=h.elim λa h=>eh h<|k a
def iv(h:∃x y,r0 x y/\r1 x y/\r2 x y/\r3 x y/\r4 x y)(k:∀x y,r0 x y->r1 x y->r2 x y->r3 x y->r4 x y->G):G:=h.elim λa h=>h.elim λa1 h=>jO h<|k a a1
def xA(h:∃x y,r0 x y/\r1 x y/\∃z,s0 x y z/\s1 x y z)(k:∀x y,r0 x y->r1 x y->∀z,s0 x y z->s1 x y z->G):G:=h.elim λa h=>h.elim λa1 h=>h.elim λa2 h=>h.elim λb h=>aH h<|k a a1 a2 b
def fw(h:∃x y z,s0 x y z/\s1 x y z/\s2 x y z/\s3 x y z)(k:∀x y z,s0 x y z->s1 x y z->s2 x y z->s3 x y z->G):G:=h.elim λa h=>eh h<|k a
def Bz(h:∃x y z u,t0 x y z u/\t1 x y z u/\t2 x y z u)(k:∀x y z u,t0 x y z u->t1 x y z u->t2 x y z u->G):G:=h.elim λa h=>ia h<|k a
def YR(h:∃x y z u v w,n0 x y z u v w)(k:∀x y z u v w,n0 x y z u v w->G):G:=h.elim λa h=>h.elim λa1 h=>h.elim λa2 h=>h.elim λb h=>gR h<|k a a1 a2 b
def ib(h:p0/\∃x y,r0 x y/\r1 x y/\r2 x y/\r3 x y/\r4 x y)(k:p0->∀x y,r0 x y->r1 x y->r2 x y->r3 x y->r4 x y->G):G:=h.elim λa h=>iv h<|k a
def lP(h:∃x y z,s0 x y z/\s1 x y z/\s2 x y z/\s3 x y z/\s4 x y z)(k:∀x y z,s0 x y z->s1 x y z->s2 x y z->s3 x y z->s4 x y z->G):G:=h.elim λa h=>iv h<|k a
def YU(h:∃x y z,s0 x y z/\s1 x y z/\s2 x y z/\∃u,t0 x y z u)(k:∀x y z,s0 x y z->s1 x y z->s2 x y z->∀u,t0 x y z u->G):G:=h.elim λc h=>h.elim λa1 h=>h.elim λa2 h=>h.elim λd h=>h.elim λb h=>h.elim λa h=>aF h<|k c a1 a2 d b a
def uk(h:∃x y z u,t0 x y z u/\t1 x y z u/\t2 x y z u/\t3 x y z u)(k:∀x y z u,t0 x y z u->t1 x y z u->t2 x y z u->t3 x y z u->G):G:=h.elim λa h=>fw h<|k a
def Bw(h:∃x y z u v,m0 x y z u v/\m1 x y z u v/\m2 x y z u v)(k:∀x y z u v,m0 x y z u v->m1 x y z u v->m2 x y z u v->G):G:=h.elim λa h=>h.elim λa1 h=>ia h<|k a a1
def YV(h:∃x,q0 x/\∃y z,s0 x y z/\s1 x y z/\s2 x y z/\s3 x y z/\s4 x y z)(k:∀x,q0 x->∀y z,s0 x y z->s1 x y z->s2 x y z->s3 x y z->s4 x y z->G):G:=h.elim λa h=>ib h<|k a
def lO(h:∃x y z,s0 x y z/\s1 x y z/\s2 x y z/\s3 x y z/\s4 x y z/\s5 x y z)(k:∀x y z,s0 x y z->s1 x y z->s2 x y z->s3 x y z->s4 x y z->s5 x y z->G):G:=h.elim λa h=>h.elim λa1 h=>h.elim λa2 h=>h.elim λb h=>jO h<|k a a1 a2 b
def By(h:∃x y z u,t0 x y z u/\t1 x y z u/\t2 x y z u/\t3 x y z u/\t4 x y z u)(k:∀x y z u,t0 x y z u->t1 x y z u->t2 x y z u->t3 x y z u->t4 x y z u->G):G:=h.elim λa h=>lP h<|k a
def Bx(h:∃x y z u,t0 x y z u/\t1 x y z u/\t2 x y z u/\t3 x y z u/\t4 x y z u/\t5 x y z u)(k:∀x y z u,t0 x y z u->t1 x y z u->t2 x y z u->t3 x y z u->t4 x y z u->t5 x y z u->G):G:=h.elim λa h=>lO h<|k a
def YQ(h:∃x y z u v w,n0 x y z u v w/\n1 x y z u v w/\n2 x y z u v w/\n3 x y z u v w/\n4 x y z u v w/\n5 x y z u v w)(k:∀x y z u v w,n0 x y z u v w->n1 x y z u v w->n2 x y z u v w->n3 x y z u v w->n4 x y z u v w->n5 x y z u v w->G):G:=h.elim λa h=>h.elim λa1 h=>h.elim λa2 h=>lO h<|k a a1 a2
def Jg(h:∃x,q0 x/\q1 x/\∃y z u v,m0 x y z u v/\m1 x y z u v/\m2 x y z u v/\m3 x y z u v/\m4 x y z u v/\m5 x y z u v)(k:∀x,q0 x->q1 x->∀y z u v,m0 x y z u v->m1 x y z u v->m2 x y z u v->m3 x y z u v->m4 x y z u v->m5 x y z u v->G):G:=h.elim λa h=>h.elim λa1 h=>h.elim λa2 h=>h.elim λb h=>lO h<|k a a1 a2 b
def Je(h:∃x y z u,t0 x y z u/\t1 x y z u/\t2 x y z u/\t3 x y z u/\t4 x y z u/\t5 x y z u/\t6 x y z u/\t7 x y z u/\t8 x y z u)(k:∀x y z u,t0 x y z u->t1 x y z u->t2 x y z u->t3 x y z u->t4 x y z u->t5 x y z u->t6 x y z u->t7 x y z u->t8 x y z u->G):G:=h.elim λe h=>h.elim λa1 h=>h.elim λa2 h=>h.elim λf h=>h.elim λd h=>h.elim λa h=>h.elim λc h=>h.elim λb h=>jO h<|k e a1 a2 f d a c b
def uj(h:∃x y z u v,m0 x y z u v/\m1 x y z u v/\m2 x y z u v/\m3 x y z u v/\m4 x y z u v/\m5 x y z u v/\m6 x y z u v/\m7 x y z u v)(k:∀x y z u v,m0 x y z u v->m1 x y z u v->m2 x y z u v->m3 x y z u v->m4 x y z u v->m5 x y z u v->m6 x y z u v->m7 x y z u v->G):G:=h.elim λe h=>h.elim λa1 h=>h.elim λa2 h=>h.elim λf h=>h.elim λd h=>h.elim λa h=>h.elim λc h=>h.elim λb h=>jO h<|k e a1 a2 f d a c b
def ui{P:α->β->γ->δ->ε->ζ->η->θ->ι->κ->C->p->o->r->Prop}(h:∃x y z u v w g b l c j d f e,P x y z u v w g b l c j d f e)(k:∀x y z u v w g b l c j d f e,P x y z u v w g b l c j d f e->G):G:=h.elim λq h=>h.elim λa1 h=>h.elim λa2 h=>h.elim λs h=>h.elim λD h=>h.elim λm h=>h.elim λA h=>h.elim λt h=>h.elim λn h=>h.elim λB h=>h.elim λa h=>h.elim λi h=>gR h<|k q a1 a2 s D m A t n B a i
def YP(h:∃x y z u v w,n0 x y z u v w/\n1 x y z u v w/\n2 x y z u v w/\n3 x y z u v w/\n4 x y z u v w/\n5 x y z u v w/\n6 x y z u v w/\n7 x y z u v w/\n8 x y z u v w/\n9 x y z u v w/\w0 x y z u v w)(k:∀x y z u v w,n0 x y z u v w->n1 x y z u v w->n2 x y z u v w->n3 x y z u v w->n4 x y z u v w->n5 x y z u v w->n6 x y z u v w->n7 x y z u v w->n8 x y z u v w->n9 x y z u v w->w0 x y z u v w->G):G:=h.elim λj h=>h.elim λa1 h=>h.elim λa2 h=>h.elim λl h=>h.elim λi h=>h.elim λc h=>h.elim λf h=>h.elim λe h=>h.elim λd h=>h.elim λg h=>h.elim λa h=>h.elim λb h=>jO h<|k j a1 a2 l i c f e d g a b
def bW(h:p0)(a:p1)(b:p2):p0/\p1/\p2:=⟨h,a,b⟩
def UL(h:p0)x(a:q0 x):p0/\∃x,q0 x:=⟨h,x,a⟩
def aO x(h:q0 x)(a:q1 x):∃x,q0 x/\q1 x:=⟨x,h,a⟩
def pQ x y(h:r0 x y):∃x y,r0 x y:=⟨x,y,h⟩
def e8(a:p0)(b:p1)(c:p2)(h:p3):p0/\p1/\p2/\p3:=⟨a,b,c,h⟩
def tO(a:p0)x(b:q0 x)(h:q1 x):p0/\∃x,q0 x/\q1 x:=⟨a,x,b,h⟩
def cq x(a:q0 x)(b:q1 x)(h:q2 x):∃x,q0 x/\q1 x/\q2 x:=⟨x,a,b,h⟩
def gc x y(a:r0 x y)(h:r1 x y):∃x y,r0 x y/\r1 x y:=⟨x,y,a,h⟩
def kq x y z(h:s0 x y z):∃x y z,s0 x y z:=⟨x,y,z,h⟩
def UM(h:p0)(c:p1)(d:p2)(b:p3)(a:p4):p0/\p1/\p2/\p3/\p4:=⟨h,c,d,b,a⟩
def pR(a:p0)x(c:q0 x)(h:q1 x)(b:q2 x):p0/\∃x,q0 x/\q1 x/\q2 x:=⟨a,x,c,h,b⟩
def jH x(a:q0 x)(c:q1 x)(h:q2 x)(b:q3 x):∃x,q0 x/\q1 x/\q2 x/\q3 x:=⟨x,a,c,h,b⟩
def As x(h:q0 x)(b:q1 x)y(a:r0 x y):∃x,q0 x/\q1 x/\∃y,r0 x y:=⟨x,h,b,y,a⟩
def bQ x y(b:r0 x y)(h:r1 x y)(a:r2 x y):∃x y,r0 x y/\r1 x y/\r2 x y:=⟨x,y,b,h,a⟩
def je x y z(h:s0 x y z)(a:s1 x y z):∃x y z,s0 x y z/\s1 x y z:=⟨x,y,z,h,a⟩
def ry(b:p0)x y(a:r0 x y)(c:r1 x y)(h:r2 x y):p0/\∃x y,r0 x y/\r1 x y/\r2 x y:=⟨b,x,y,a,c,h⟩
def eX x y(c:r0 x y)(a:r1 x y)(b:r2 x y)(h:r3 x y):∃x y,r0 x y/\r1 x y/\r2 x y/\r3 x y:=⟨x,y,c,a,b,h⟩
def lK x y z(a:s0 x y z)(b:s1 x y z)(h:s2 x y z):∃x y z,s0 x y z/\s1 x y z/\s2 x y z:=⟨x,y,z,a,b,h⟩
def Aq x y z u(a:t0 x y z u)(h:t1 x y z u):∃x y z u,t0 x y z u/\t1 x y z u:=⟨x,y,z,u,a,h⟩
def kr x y(d:r0 x y)(b:r1 x y)(h:r2 x y)(c:r3 x y)(a:r4 x y):∃x y,r0 x y/\r1 x y/\r2 x y/\r3 x y/\r4 x y:=⟨x,y,d,b,h,c,a⟩
def dG x y z(a:s0 x y z)(b:s1 x y z)(h:s2 x y z)(c:s3 x y z):∃x y z,s0 x y z/\s1 x y z/\s2 x y z/\s3 x y z:=⟨x,y,z,a,b,h,c⟩
def w7 x y z u(a:t0 x y z u)(h:t1 x y z u)(b:t2 x y z u):∃x y z u,t0 x y z u/\t1 x y z u/\t2 x y z u:=⟨x,y,z,u,a,h,b⟩
def jI(h:p0)x y(d:r0 x y)(b:r1 x y)(e:r2 x y)(c:r3 x y)(a:r4 x y):p0/\∃x y,r0 x y/\r1 x y/\r2 x y/\r3 x y/\r4 x y:=⟨h,x,y,d,b,e,c,a⟩
def pP x y z(c:s0 x y z)(a:s1 x y z)(d:s2 x y z)(b:s3 x y z)(h:s4 x y z):∃x y z,s0 x y z/\s1 x y z/\s2 x y z/\s3 x y z/\s4 x y z:=⟨x,y,z,c,a,d,b,h⟩
def Ao x y z u(a:t0 x y z u)(h:t1 x y z u)(b:t2 x y z u)(c:t3 x y z u):∃x y z u,t0 x y z u/\t1 x y z u/\t2 x y z u/\t3 x y z u:=⟨x,y,z,u,a,h,b,c⟩
def lJ x y z(c:s0 x y z)(a:s1 x y z)(d:s2 x y z)(b:s3 x y z)(h:s4 x y z)(e:s5 x y z):∃x y z,s0 x y z/\s1 x y z/\s2 x y z/\s3 x y z/\s4 x y z/\s5 x y z:=⟨x,y,z,c,a,d,b,h,e⟩
def rt x y z u(a:t0 x y z u)(c:t1 x y z u)(b:t2 x y z u)(h:t3 x y z u)(d:t4 x y z u):∃x y z u,t0 x y z u/\t1 x y z u/\t2 x y z u/\t3 x y z u/\t4 x y z u:=⟨x,y,z,u,a,c,b,h,d⟩
def w6 x y z u(a:t0 x y z u)(c:t1 x y z u)(b:t2 x y z u)(h:t3 x y z u)(d:t4 x y z u)(e:t5 x y z u):∃x y z u,t0 x y z u/\t1 x y z u/\t2 x y z u/\t3 x y z u/\t4 x y z u/\t5 x y z u:=⟨x,y,z,u,a,c,b,h,d,e⟩
def w5 x y z u(d:t0 x y z u)(f:t1 x y z u)(e:t2 x y z u)(c:t3 x y z u)(g:t4 x y z u)(i:t5 x y z u)(a:t6 x y z u)(b:t7 x y z u)(h:t8 x y z u):∃x y z u,t0 x y z u/\t1 x y z u/\t2 x y z u/\t3 x y z u/\t4 x y z u/\t5 x y z u/\t6 x y z u/\t7 x y z u/\t8 x y z u:=⟨x,y,z,u,d,f,e,c,g,i,a,b,h⟩
def w4 x y z u v(e:m0 x y z u v)(d:m1 x y z u v)(c:m2 x y z u v)(f:m3 x y z u v)(g:m4 x y z u v)(a:m5 x y z u v)(b:m6 x y z u v)(h:m7 x y z u v):∃x y z u v,m0 x y z u v/\m1 x y z u v/\m2 x y z u v/\m3 x y z u v/\m4 x y z u v/\m5 x y z u v/\m6 x y z u v/\m7 x y z u v:=⟨x,y,z,u,v,e,d,c,f,g,a,b,h⟩
def An x y z u v w(i:n0 x y z u v w)(g:n1 x y z u v w)(j:n2 x y z u v w)(k:n3 x y z u v w)(c:n4 x y z u v w)(f:n5 x y z u v w)(b:n6 x y z u v w)(a:n7 x y z u v w)(d:n8 x y z u v w)(e:n9 x y z u v w)(h:w0 x y z u v w):∃x y z u v w,n0 x y z u v w/\n1 x y z u v w/\n2 x y z u v w/\n3 x y z u v w/\n4 x y z u v w/\n5 x y z u v w/\n6 x y z u v w/\n7 x y z u v w/\n8 x y z u v w/\n9 x y z u v w/\w0 x y z u v w:=⟨x,y,z,u,v,w,i,g,j,k,c,f,b,a,d,e,h⟩
end
set_option genCtorIdx false in
inductive L where
 |v (i:Nat)|n (k:Nat)|a (x y:L)|m (k:Nat) (x:L)
noncomputable def xW:List Nat->Nat->Nat
 |x::_,0=>x
 |_::t,i+1=>xW t i
 |[],_=>0
noncomputable def L.d(c:List Nat):L->Nat
 |.v i=>xW c i
 |.n k=>k
 |.a x y=>x.d c+y.d c
 |.m k x=>k*x.d c
noncomputable def pJ:List Nat->List Nat->List Nat
 |[],q=>q
 |a::p,[]=>a::p
 |a::p,b::q=>(a+b)::pJ p q
noncomputable def tJ(k:Nat):List Nat->List Nat
 |[]=>[]
 |a::p=>(k*a)::tJ k p
noncomputable def tm:Nat->List Nat
 |0=>[1]
 |i+1=>0::tm i
noncomputable def L.c:L->List Nat
 |.v i=>0::tm i
 |.n k=>[k]
 |.a x y=>pJ x.c y.c
 |.m k x=>tJ k x.c
noncomputable def ev:List Nat->List Nat->Nat
 |x::c,a::p=>a*x+ev c p
 |_,_=>0
noncomputable def xG:List Nat->List Nat->Bool
 |[],_=>true
 |a::p,[]=>Nat.ble a 0&&xG p []
 |a::p,b::q=>Nat.ble a b&&xG p q
def oh c:ev c []=0:=by cases c<;>rfl
theorem xD:∀c p q,ev c (pJ p q)=ev c p+ev c q
 |c,[],q=>(cy _).symm.trans<|congrArg (·+ev c q) (oh c).symm
 |c,a::p,[]=>(congrArg (ev c (a::p)+·)<|oh c).symm
 |[],_::_,_::_=>rfl
 |x::c,a::p,b::q=>by show(a+b)*x+ev c (pJ p q)=a*x+ev c p+(b*x+ev c q);rw[xD c p q,Nat.add_mul,L7]
theorem Jn k:∀c p,ev c (tJ k p)=k*ev c p
 |c,[]=>(oh c).trans (congrArg (k*·)<|oh c).symm
 |[],_::_=>rfl
 |x::c,a::p=>by show k*a*x+ev c (tJ k p)=k*(a*x+ev c p);rw[Jn k c p,Nat.mul_add,Nat.mul_assoc]
theorem Jm:∀c i,ev c (tm i)=xW c i
 |[],0=>rfl
 |[],_+1=>rfl
 |x::c,0=>by show 1*x+ev c []=x;rw[oh,Nat.one_mul];rfl
 |x::c,i+1=>by show 0*x+ev c (tm i)=xW c i;rw[u6,cy];exact Jm c i
theorem oi c:∀x:L,ev (1::c) x.c=x.d c
 |.v i=>by show 0*1+ev c (tm i)=_;rw[u6,cy];exact Jm c i
 |.n k=>by show k*1+ev c []=k;rw[oh,Nat.mul_one];rfl
 |.a x y=>by show ev (1::c) (pJ x.c y.c)=x.d c+y.d c;rw[xD,oi c x,oi c y]
 |.m k x=>by show ev (1::c) (tJ k x.c)=k*x.d c;rw[Jn,oi c x]
theorem BC:∀c p q,xG p q=true->ev c p<=ev c q
 |c,[],q,_=>(oh c).symm▸cB _
 |[],_::_,_,_=>cB _
 |x::c,a::p,[],h=>by have h:=ef.mp h;have e:=sC.mp<|L1 h.1;have:=BC c p [] h.2;rw[oh]at this;show a*x+ev c p<=0;rw[e,u6,cy];exact this
 |x::c,a::p,b::q,h=>have h:=ef.mp h;ed (LY x<|L1 h.1) (BC c p q h.2)
noncomputable def qh(c:List Nat)(G:Prop):List (L×L)->Prop
 |[]=>G
 |h::t=>h.1.d c<=h.2.d c->qh c G t
noncomputable def B6:List (L×L)->List Nat->List Nat->Bool
 |[],p,q=>xG p q
 |h::t,p,q=>B6 t (pJ p h.2.c)<|pJ q h.1.c
theorem Cs(k:G->G'):∀t,qh c G t->qh c G' t
 |[],h=>k h
 |_::t,h=>λx=>Cs k t<|h x
theorem Kh c:∀t p q,B6 t p q=true->qh c (ev (1::c) p<=ev (1::c) q) t
 |[],p,q,h=>BC _ p q h
 |h::t,p,q,k=>λx=>Cs (λl=>by rw[xD,xD,oi,oi]at l;exact yy (aE l (ff x _))) t (Kh c t _ _ k)
def aW c(l r:L)t(h:B6 t l.c r.c=true):qh c (l.d c<=r.d c) t:=
 Cs (λa=>by rw[oi,oi]at a;exact a) t (Kh c t _ _ h)
set_option genCtorIdx false in
inductive Z where
 |v (i:Nat)|c (e:L)|n (k:Int)|a (x y:Z)|s (x y:Z)|m (k:Int) (x:Z)|g (x:Z)
noncomputable def xX:List Int->Nat->Int
 |x::_,0=>x
 |_::t,i+1=>xX t i
 |[],_=>0
noncomputable def Z.d(a:List Nat)(c:List Int):Z->Int
 |.v i=>xX c i
 |.c e=>(e.d a:Nat)
 |.n k=>k
 |.a x y=>x.d a c+y.d a c
 |.s x y=>x.d a c-y.d a c
 |.m k x=>k*x.d a c
 |.g x=>-x.d a c
noncomputable def jK:List Int->List Int->List Int
 |[],q=>q
 |a::p,[]=>a::p
 |a::p,b::q=>(a+b)::jK p q
noncomputable def iS(k:Int):List Int->List Int
 |[]=>[]
 |a::p=>(k*a)::iS k p
noncomputable def AZ:Nat->List Int
 |0=>[1]
 |i+1=>0::AZ i
noncomputable def Z.b:Z->List Int
 |.v _=>[]
 |.c e=>e.c.map qP
 |.n k=>[k]
 |.a x y=>jK x.b y.b
 |.s x y=>jK x.b<|iS (-1) y.b
 |.m k x=>iS k x.b
 |.g x=>iS (-1) x.b
noncomputable def Z.f:Z->List Int
 |.v i=>AZ i
 |.c _=>[]
 |.n _=>[]
 |.a x y=>jK x.f y.f
 |.s x y=>jK x.f<|iS (-1) y.f
 |.m k x=>iS k x.f
 |.g x=>iS (-1) x.f
noncomputable def fx:List Int->List Int->Int
 |x::c,a::p=>a*x+fx c p
 |_,_=>0
def qb c:fx c []=0:=by cases c<;>rfl
def Jp c p q:fx c (jK p q)=fx c p+fx c q:=by
 induction c generalizing p q with
 |nil=>rcases p with _|⟨a,p⟩<;>rcases q with _|⟨b,q⟩<;>rfl
 |cons x c i=>
  rcases p with _|⟨a,p⟩;·exact(yL _).symm
  ·rcases q with _|⟨b,q⟩;·exact(ka _).symm
   ·show(a+b)*x+fx c _=a*x+fx c p+(b*x+fx c q);rw[i,yU,sV,sV,MO<|b*x]
def Jo k c p:fx c (iS k p)=k*fx c p:=by
 induction c generalizing p with
 |nil=>rcases p with _|⟨a,p⟩<;>exact(yP _).symm
 |cons x c i=>
  rcases p with _|⟨a,p⟩;·exact(yP _).symm
  ·show k*a*x+fx c _=k*(a*x+fx c p);rw[i,Int.mul_add,Int.mul_assoc]
def YX c i:fx c (AZ i)=xX c i:=by
 induction c generalizing i with
 |nil=>cases i<;>rfl
 |cons x c a=>cases i with
  |zero=>show 1*x+fx c []=x;rw[qb,Int.one_mul,ka]
  |succ i=>show 0*x+fx c _=xX c i;rw[My,yL];exact a i
def YY c p:fx (c.map qP) (p.map qP)=(ev c p):=by
 induction c generalizing p with
 |nil=>cases p<;>rfl
 |cons x c i=>cases p with
  |nil=>rfl
  |cons a p=>exact congrArg _<|i p
noncomputable def cx1(c:List Nat):List Int:=(1::c).map qP
noncomputable def iW(c:List Nat)(a p q:List Int):Int:=fx (cx1 c) p+fx a q
def xE c b p q a d:iW c b (jK p a) (jK q d)=iW c b p q+iW c b a d:=by unfold iW;rw[Jp,Jp,sV,sV,MO<|fx _ a]
def uo k c a p q:iW c a (iS k p) (iS k q)=k*iW c a p q:=by unfold iW;rw[Jo,Jo,Int.mul_add]
def BD b f(x:Z):iW b f x.b x.f=x.d b f:=by
 induction x with
 |v i=>exact(congrArg (·+_)<|qb _).trans<|(yL _).trans<|YX f i
 |c e=>exact(congrArg _<|qb _).trans<|(ka _).trans<|(YY _ _).trans<|congrArg qP<|oi b e
 |n k=>
  show k*1+fx _ []+fx f []=k;rw[qb,qb,Int.mul_one,ka,ka]
 |a x y d h=>exact(xE ..).trans<|d▸h▸V
 |s x y d h=>
  refine(xE ..).trans ?_;rw[uo,d,h,ME];rfl
 |m k x d=>exact(uo ..).trans<|d▸V
 |g x d=>exact(uo ..).trans<|d▸ME _
noncomputable def np:List Int->Bool
 |[]=>true
 |a::p=>decide (a<=0)&&np p
noncomputable def zp:List Int->Bool
 |[]=>true
 |a::p=>decide (a=0)&&zp p
def Ti(c:List Nat)p(h:np p=true):fx (c.map qP) p<=0:=by
 induction c generalizing p with
 |nil=>cases p<;>exact yR 0
 |cons x c i=>cases p with
  |nil=>exact yR 0
  |cons a p=>
   have h:=ef.mp h;exact Int.add_nonpos (Int.mul_nonpos_of_nonpos_of_nonneg (of_decide_eq_true h.1)<|f9 x)<|i p h.2
def y5 c p(h:zp p=true):fx c p=0:=by
 induction c generalizing p with
 |nil=>cases p<;>rfl
 |cons x c i=>cases p with
  |nil=>rfl
  |cons a p=>
   have h:=ef.mp h;show a*x+fx c p=0;rw[of_decide_eq_true h.1,i p h.2,My];rfl
noncomputable def KD:List Int->Bool
 |[]=>false
 |a::p=>decide (a<0)&&np p
def aa7 c b p q(h:KD p=true)(k:zp q=true):iW c b p q<0:=by
 cases p with
 |nil=>exact aV h
 |cons a p=>
  have h:=ef.mp h;unfold iW;rw[y5 b q k,ka];show a*1+fx _ p<0;rw[Int.mul_one];exact MI (Int.add_lt_add_of_lt_of_le (of_decide_eq_true h.1)<|Ti c p h.2)<|yR 0
set_option genCtorIdx false in
inductive F where
 |l (k:Nat) (x y:Z)|e (k:Int) (x y:Z)
noncomputable def F.d(a:List Nat)(c:List Int):F->Prop
 |.l _ x y=>x.d a c<=y.d a c
 |.e _ x y=>x.d a c=y.d a c
noncomputable def F.k:F->Int
 |.l k _ _=>k
 |.e k _ _=>k
noncomputable def F.z:F->Z
 |.l _ x y=>.s y x
 |.e _ x y=>.s y x
noncomputable def F.q:F->Bool
 |.l _ _ _=>false
 |.e _ _ _=>true
noncomputable def uH(c:List Nat)(a:List Int)(G:Prop):List F->Prop
 |[]=>G
 |h::t=>h.d c a->uH c a G t
noncomputable def B5:List F->List Int->List Int->Bool
 |[],p,q=>KD p&&zp q
 |h::t,p,q=>B5 t (jK p<|iS h.k h.z.b)<|jK q<|iS h.k h.z.f
def F.g{a:List Nat}{c:List Int}(f:F)(h:f.d a c):0<=f.k*f.z.d a c:=by
 cases f with
 |l k x y=>exact Int.mul_nonneg (f9 _)<|Int.sub_nonneg_of_le h
 |e k x y=>exact Int.le_of_eq ((congrArg (k*·)<|MB h.symm).trans<|yP _).symm
def F.b{a:List Nat}{c:List Int}(f:F)(h:f.d a c)(q:f.q=true):f.k*f.z.d a c=0:=by
 cases f with
 |l k x y=>exact aV q
 |e k x y=>exact(congrArg (k*·)<|MB h.symm).trans<|yP _
def aay c a t p q(h:B5 t p q=true)(l:0<=iW c a p q):uH c a False t:=by
 induction t generalizing p q with
 |nil=>have h:=ef.mp h;exact nN.mpr l<|aa7 c a p q h.1 h.2
 |cons f t i=>
  intro x;refine i _ _ h ?_;rw[xE,uo,BD];exact Int.add_nonneg l<|f.g x
def aJ c a t(h:B5 t [] []=true):uH c a False t:=
 aay c a t [] [] h (by unfold iW;rw[qb,qb];exact yR 0)
noncomputable def B7:List F->List Int->List Int->Bool
 |[],p,q=>zp p&&zp q
 |h::t,p,q=>h.q&&B7 t (jK p<|iS h.k h.z.b) (jK q<|iS h.k h.z.f)
def aaz c d t p q(h:B7 t p q=true)(l:iW c d p q=a-b):uH c d (a=b) t:=by
 induction t generalizing p q with
 |nil=>
  have h:=ef.mp h;unfold iW at l;rw[y5 _ p h.1,y5 _ q h.2]at l;exact Int.eq_of_sub_eq_zero l.symm
 |cons f t i=>
  intro x;have h:=ef.mp h;refine i _ _ h.2 ?_;rw[xE,uo,BD,f.b x h.1,ka];exact l
def cA c a x y t(h:B7 t (Z.s x y).b (Z.s x y).f=true):uH c a (x.d c a=y.d c a) t:=
 aaz c a t _ _ h (BD c a _)
noncomputable def bo:L:=.v 0
noncomputable def aZ:L:=.v 1
noncomputable def bA:L:=.v 2
noncomputable def bK:L:=.v 3
noncomputable def cX:L:=.v 4
noncomputable def dy:L:=.v 5
noncomputable def aX:L:=.n 1
noncomputable def af:Z:=.c<|.v 0
noncomputable def aG:Z:=.c<|.v 1
noncomputable def bf:Z:=.c<|.v 2
noncomputable def cM:Z:=.c<|.v 3
noncomputable def dA:Z:=.c<|.v 4
noncomputable def jS:Z:=.c<|.v 5
noncomputable def aI:Z:=.v 0
noncomputable def bS:Z:=.v 1
noncomputable def eO:Z:=.v 2
noncomputable def D3:Z:=.v 3
noncomputable def bJ:Z:=.n 0
noncomputable def aM:Z:=.n 1
def nl{a b:Nat}(h:a<=b):(a:Int)<=b:=pb.mpr h
def nE{a b:Nat}(h:a=b):(a:Int)=b:=congrArg qP h
def cN{a b:Nat}(h:(a:Int)=b):a=b:=i4.mp h
def b8{a:Nat}(h:(b+1:Nat)<=(a:Int)->False):a<=b:=dj.mp λk=>h<|nl k
def b9{a b:Int}(h:b+1<=a->False):a<=b:=nN.mp h
def fR{a b:Int}(h:b<=a->False):a<b:=sT.mp h
def fZ{b:Int}(h:a+1<=b->False)(k:b+1<=a->False):a=b:=Int.le_antisymm (b9 k)<|b9 h
def i7(a b:Nat){G:Prop}(h:(b:Int)<=a->((a-b+b:Nat):Int)=a->G)(k:(a:Int)<=b->((a-b:Nat):Int)=0->G):G:=
 (jv b a).elim (λl=>h (nl l)<|nE<|cb l) λl=>k (nl l)<|nE<|u7 l
def ow x{G:Prop}(h:0<=x->x.natAbs=x->G)(k:x<=0->x.natAbs=-x->G):G:=
 (sU 0 x).elim (λl=>h l<|iI l) λl=>k l<|MC l
def pB(x:Int){G:Prop}(h:0<=x->(x.toNat:Int)=x->G)(k:x<=0->(x.toNat:Int)=0->G):G:=
 (sU 0 x).elim (λl=>h l<|g7 l) λl=>k l<|nE<|Mz l
def GJ(a b:Nat){G:Prop}(h:(a:Int)<=b->((min a b:Nat):Int)=a->G)(k:(b:Int)<=a->((min a b:Nat):Int)=b->G):G:=
 (jv a b).elim (λl=>h (nl l)<|nE<|fB l) λl=>k (nl l)<|nE<|ju l
def GQ(a b:Nat){G:Prop}(h:(a:Int)<=b->((max a b:Nat):Int)=b->G)(k:(b:Int)<=a->((max a b:Nat):Int)=a->G):G:=
 (jv a b).elim (λl=>h (nl l)<|nE<|vd l) λl=>k (nl l)<|nE<|sy l
def Au(a b:Int){G:Prop}(h:a<=b->min a b=a->G)(k:b<=a->min a b=b->G):G:=
 (sU a b).elim (λl=>h l<|yQ l) λl=>k l<|DO l
def Ax(a b:Int){G:Prop}(h:a<=b->max a b=b->G)(k:b<=a->max a b=a->G):G:=
 (sU a b).elim (λl=>h l<|DP l) λl=>k l<|DQ l
def BO(x k:Int)(a:0<k){G:Prop}(h:k*(x/k)<=x->x+1<=k*(x/k)+k->G):G:=
 h (Int.mul_ediv_self_le<|yO a) (Int.lt_mul_ediv_self_add a)
def jR x k(a:0<k){G:Prop}(h:((k*(x/k):Nat):Int)<=x->((x+1:Nat):Int)<=(k*(x/k)+k:Nat)->G):G:=
 h (nl<|Nat.mul_div_le x k) (nl<|Nat.lt_mul_div_succ x a)
def fJ(x:Int):x<=x.natAbs:=MJ
def fK x:-x<=x.natAbs:=DN x▸MJ
def JI{b:Int}{G:Prop}(e:a≠b)(h:a+1<=b->G)(k:b+1<=a->G):G:=(Int.lt_or_gt_of_ne e).elim h k
def Zp{b}{G:Prop}(e:a≠b)(h:((a+1:Nat):Int)<=b->G)(k:((b+1:Nat):Int)<=a->G):G:=(Nat.lt_or_gt_of_ne e).elim (λl=>h<|nl l) λl=>k<|nl l
def Gw{a b:Int}(h:¬a<=b):b+1<=a:=sT.mp h
def pN{a b:Int}(h:¬a<b):b<=a:=nN.mp h
def Gv(h:¬a<=b):((b+1:Nat):Int)<=a:=nl<|qH.mp h
def tN{a b:Nat}(h:¬a<b):(b:Int)<=a:=nl<|dj.mp h
end bc
end
section
set_option Elab.async false
open PySem PySem.W
namespace bc.Hd
abbrev gk:j4:=LG
section
noncomputable def eB(i:Nat):Stmt:=(gk.main.body[i]?).getD default
noncomputable def JL:DefRec:={name:="law",params:=default,body:=[],scope:=default,pos:=default}
set_option backward.match.sparseCases false in
noncomputable def dr(st:Stmt):DefRec×List Stmt:=match st with
 |.FunctionDef name args body _ _ _ scope _ _ pos=>({name,params:=args,body,scope,pos},[])
 |.ClassDef _ _ _ b ..=>(JL,b)
 |_=>(JL,[])
noncomputable def dK(i j:Nat):Stmt:=((dr<|eB i).2[j]?).getD default
noncomputable def sv(x:String)(t:Tok):bI:=.str (j3 x) t
noncomputable def de(P:fe)(x:String)(t:Tok)(v:bI):DictEntry:=⟨PyData.keyHash P<|j3 x,.str (j3 x) t,v⟩
noncomputable def Bo(st:Stmt)(q:String)(dV kV pm cd:bI)(gl bi:Addr):pf:=
 {name:=(dr st).1.name,qualname:=j3 q,params:=(dr st).1.params,body:=.stmts (dr st).1.body,scope:=(dr st).1.scope,globals:=gl,closure:=[],defaults:=dV,kwdefaults:=kV,pyModule:=pm,code:=cd,builtins:=bi}
noncomputable def kF(n:String)(bases mro:List bI)(ns:Addr)(q:String)(hd:Bool)(sl:List String)(sub:List bI)(ab:Bool)(co:Option Bool)(dl:Bool):ClassData:=
 {name:=j3 n,bases,mro,ns,qualname:=j3 q,hasDict:=hd,slotNames:=sl.map j3,subclasses:=sub,abstract:=ab,collection:=co,hasDel:=dl}
noncomputable def z9(l:List Obj):List (Nat×Obj)->List Obj
 |[]=>l
 |p::r=>z9 (l.set p.1 p.2) r
noncomputable def vi(i:Int):bI:=.int i 0
noncomputable def vr(a:Nat):bI:=.ref a
noncomputable def vt(s:String):bI:=.type s
noncomputable def vb(s:String):bI:=.builtin s
noncomputable def vf(t:Tok):bI:=sv "/claim/cut.py" t
noncomputable def i8:bI:=sv "law_nt0300_01" 1052
noncomputable def iM:bI:=sv "gitcore.base" 194
noncomputable def cT:bI:=sv "gitcore.linediff" 284
noncomputable def eU:bI:=sv "gitcore.patches" 775
noncomputable def ob(c:bI)(d:Data):Obj:=⟨c,O,d,[].toArray⟩
noncomputable def tp(l:List bI):Obj:=ob (vt "tuple")<|.seq l.toArray 0
noncomputable def nf(l:List bI):Obj:=ob .none<|.fields l.toArray
noncomputable def ty(s:String)(l:List bI):Obj:=ob (vt s)<|.fields l.toArray
noncomputable def dc(l:List DictEntry)(n:Nat):Obj:=ob (vt "dict")<|.dict l.toArray n
noncomputable def Gu:List String->Nat->List bI
 |[],_=>[]
 |x::l,t=>sv x t::Gu l (t+1)
noncomputable def fc(b t:Nat)(q nm:String)(ln ac:Int)(X A Z:bI)(u:Nat):Obj:=ty "code" [sv nm t,sv q<|t+1,vf<|t+2,vi ln,vi ac,vi 0,vi 0,vi 3,vr b,.bool true,vi 181,vr<|b+1,.none,X,A,Z,vi u,vi ln,vf<|u+1]
noncomputable def fo(st:Stmt)(q:String):Obj:=ob .none<|.func<|Bo st q .none .none .none .none 0 0
noncomputable def fg(b t:Nat)(st:Stmt)(q nm:String)(ln ac:Int)(vs:List String)(dV md:bI):List Obj:=
 match vs with
 |[]=>[tp [],nf [],fo st q,fc b t q nm ln ac .none .none (vr<|b+2)<|t+3,ob (vt "function")<|.func<|Bo st q dV .none md (vr<|b+3) 3 0]
 |x::r=>[tp [],nf [],tp<|Gu (x::r)<|t+3,tp [],fo st q,fc b t q nm ln ac (vr<|b+2) (vr<|b+3) (vr<|b+4)<|t+4+r.length,ob (vt "function")<|.func<|Bo st q dV .none md (vr<|b+5) 3 0]
noncomputable def gl(P:fe):List DictEntry:=[de P "__name__" 165 i8,de P "__doc__" 166 .none,de P "__package__" 167 .none,de P "__loader__" 168<|vb "__main__.__loader__#opaque",de P "__spec__" 169 .none,de P "__annotations__" 170<|vr 6,de P "__builtins__" 171<|vr 4,de P "__file__" 173<|vf 172,de P "__cached__" 174 .none,de P "_wall" 193<|vr 21,de P "GitError" 225<|vr 39,de P "BadPatch" 241<|vr 52,de P "PatchRejected" 257<|vr 64,de P "BadState" 273<|vr 76,de P "lines_of" 283<|vr 85,de P "BLANKS" 287<|.bytes #[32,9,10,13,11,12] 286,de P "Change" 343<|vr 123,de P "LineNumbers" 390<|vr 156,de P "LineSheet" 590<|vr 254,de P "line_further" 598<|vr 265,de P "line_rising" 613<|vr 272,de P "myers" 622<|vr 279,de P "patience" 631<|vr 286,de P "histogram" 642<|vr 294,de P "by" 651<|vr 301,de P "LineGaps" 761<|vr 374,de P "slid" 774<|vr 385,de P "KEPT" 778<|.bytes #[32] 777,de P "OUT" 780<|.bytes #[45] 779,de P "IN" 782<|.bytes #[43] 781,de P "FEED" 784<|.bytes #[10] 783,de P "Hunk" 858<|vr 429,de P "FilePatch" 913<|vr 459,de P "heading_of" 923<|vr 470,de P "hunk_around" 929<|vr 475,de P "hunks_of" 938<|vr 481,de P "HunkImage" 998<|vr 513,de P "image_place" 1011<|vr 524,de P "hunk_ways" 1023<|vr 531,de P "apply_hunks" 1045<|vr 539,de P "reversed_patch" 1051<|vr 544,de P "_law_deck" 1059<|vr 549,de P "_law_draw" 1067<|vr 556,de P "_law_letter" 1074<|vr 563,de P "_law_text" 1080<|vr 568,de P "_law_turned" 1086<|vr 573,de P "_law_moved" 1096<|vr 580,de P "_law_octets" 1105<|vr 587,de P "_law_last" 1113<|vr 594,de P "_law_place" 1119<|vr 599,de P "_law_applied" 1125<|vr 604,de P "_law_heard" 1136<|vr 611,de P "law" 1142<|vr 616]
noncomputable def li:List bI:=[vi 1,vi 0,vr 20,vi 5,vi 0,vr 27,vi 9,vi 0,vr 48,vi 11,vi 0,vr 60,vi 13,vi 0,vr 72,vi 15,vi 0,vr 84,vi 26,vi 0,vr 91,vi 42,vi 0,vr 133,vi 65,vi 0,vr 166,vi 218,vi 0,vr 264,vi 224,vi 0,vr 271,vi 246,vi 0,vr 278,vi 250,vi 0,vr 285,vi 254,vi 0,vr 293,vi 258,vi 0,vr 300,vi 266,vi 0,vr 307,vi 334,vi 0,vr 384,vi 350,vi 0,vr 391,vi 388,vi 0,vr 439,vi 404,vi 0,vr 469,vi 410,vi 0,vr 474,vi 424,vi 0,vr 480,vi 433,vi 0,vr 487,vi 461,vi 0,vr 523,vi 470,vi 0,vr 530,vi 483,vi 0,vr 538,vi 499,vi 0,vr 543,vi 510,vi 0,vr 548,vi 515,vi 0,vr 555,vi 520,vi 0,vr 562,vi 522,vi 0,vr 567,vi 524,vi 0,vr 572,vi 530,vi 0,vr 579,vi 538,vi 0,vr 586,vi 541,vi 0,vr 593,vi 544,vi 0,vr 598,vi 565,vi 0,vr 603,vi 576,vi 0,vr 610,vi 583,vi 0,vr 615]
noncomputable def full(P:fe):List Obj:=
 [boot_o_0 P,
 boot_o_1 P,
 ⟨.none,O,.dict [de P "type.__subclasses__.Exception.0" 222<|.int 39 0,de P "type.__subclasses__.Exception.n" 223<|.int 1 0].toArray 2,[].toArray⟩,
 dc (gl P) 53,
 boot_o_4 P,
 boot_o_5 P,
 boot_o_6 P,
 boot_o_7 P,
 boot_o_8 P,
 boot_o_9 P,
 boot_o_10 P,
 tp [],
 nf li,
 ty "code" [sv "<module>" 182,sv "<module>" 183,vf 184,vi 1,vi 0,vi 0,vi 0,vi 0,vr 11,.bool false,vi 181,vr 12,.none,.none,.none,.none,vi 185,vi 1,vf 186],
 ⟨vt "frame",O,.plain,[Y (vr 13),Y (vr 3),Y (vr 3),O,Y (sv "__main__" 164),O,Y (vr 0)].toArray⟩]++(
 fg 15 187 (eB 0) "_wall" "_wall" 1 1 ["k"] .none (sv "__main__" 164)++(
 [tp [vt "Exception"],
 ty "builtin_function_or_method" [vb "type.__prepare__",vt "type"],
 dc [de P "__module__" 203 iM,de P "__qualname__" 205<|sv "GitError" 204,de P "__firstlineno__" 207<|.int 5 206,de P "__init__" 216<|vr 36,de P "__static_attributes__" 218<|vr 37] 5,
 tp [],
 nf [vi 7,vi 4,vr 35],
 ty "code" [sv "GitError" 198,sv "GitError" 199,vf 200,vi 5,vi 0,vi 0,vi 0,vi 0,vr 25,.bool false,vi 181,vr 26,.none,.none,.none,.none,vi 201,vi 5,vf 202],
 ⟨vt "frame",O,.plain,[Y<|vr 27,Y<|vr 3,Y<|vr 24,O,Y iM,O,Y<|vr 0].toArray⟩,
 tp [sv "" 208]]++(
 fg 30 209 (dK 2 0) "GitError.__init__" "__init__" 7 2 ["self","told"] (vr 29) iM++(
 [tp [sv "told" 217],
 dc [de P "__module__" 203 iM,de P "__firstlineno__" 207<|.int 5 206,de P "__init__" 216<|vr 36,de P "__static_attributes__" 218<|vr 37,de P "__weakref__" 220<|vr 40,de P "__doc__" 221 .none] 3,
 ⟨vt "type",O,.cls<|kF "GitError" [vt "Exception"] [vr 39,vt "Exception",vt "BaseException",vt "object"] 38 "GitError" true [] [vr 52,vr 64,vr 76] false O false,[Y<|vr 22,O,Y<|sv "GitError" 196,Y<|sv "GitError" 204,Y<|vb "Exception.__new__",Y<|.bool true].toArray⟩,
 ty "getset_descriptor" [sv "__weakref__" 219,vr 39,vb "ExceptionGroup.__weakref__",.none],
 ty "super" [vr 39,vr 39,vr 39],
 ty "builtin_function_or_method" [vb "object.__init_subclass__",vr 39],
 tp [vr 39],
 ty "builtin_function_or_method" [vb "type.__prepare__",vt "type"],
 dc [de P "__module__" 233 iM,de P "__qualname__" 235<|sv "BadPatch" 234,de P "__firstlineno__" 237<|.int 9 236,de P "__static_attributes__" 238<|vr 50] 4,
 tp [],
 nf [],
 ty "code" [sv "BadPatch" 228,sv "BadPatch" 229,vf 230,vi 9,vi 0,vi 0,vi 0,vi 0,vr 46,.bool false,vi 181,vr 47,.none,.none,.none,.none,vi 231,vi 9,vf 232],
 ⟨vt "frame",O,.plain,[Y<|vr 48,Y<|vr 3,Y<|vr 45,O,Y iM,O,Y<|vr 0].toArray⟩,
 tp [],
 dc [de P "__module__" 233 iM,de P "__firstlineno__" 237<|.int 9 236,de P "__static_attributes__" 238<|vr 50,de P "__doc__" 239 .none] 2,
 ⟨vt "type",O,.cls<|kF "BadPatch" [vr 39] [vr 52,vr 39,vt "Exception",vt "BaseException",vt "object"] 51 "BadPatch" true [] [] false O false,[Y<|vr 43,O,Y<|sv "BadPatch" 226,Y<|sv "BadPatch" 234,Y<|vb "Exception.__new__",Y<|.bool true].toArray⟩,
 ty "super" [vr 52,vr 52,vr 52],
 ty "builtin_function_or_method" [vb "object.__init_subclass__",vr 52],
 tp [vr 39],
 ty "builtin_function_or_method" [vb "type.__prepare__",vt "type"],
 dc [de P "__module__" 249 iM,de P "__qualname__" 251<|sv "PatchRejected" 250,de P "__firstlineno__" 253<|.int 11 252,de P "__static_attributes__" 254<|vr 62] 4,
 tp [],
 nf [],
 ty "code" [sv "PatchRejected" 244,sv "PatchRejected" 245,vf 246,vi 11,vi 0,vi 0,vi 0,vi 0,vr 58,.bool false,vi 181,vr 59,.none,.none,.none,.none,vi 247,vi 11,vf 248],
 ⟨vt "frame",O,.plain,[Y<|vr 60,Y<|vr 3,Y<|vr 57,O,Y iM,O,Y<|vr 0].toArray⟩,
 tp [],
 dc [de P "__module__" 249 iM,de P "__firstlineno__" 253<|.int 11 252,de P "__static_attributes__" 254<|vr 62,de P "__doc__" 255 .none] 2,
 ⟨vt "type",O,.cls<|kF "PatchRejected" [vr 39] [vr 64,vr 39,vt "Exception",vt "BaseException",vt "object"] 63 "PatchRejected" true [] [] false O false,[Y<|vr 55,O,Y<|sv "PatchRejected" 242,Y<|sv "PatchRejected" 250,Y<|vb "Exception.__new__",Y<|.bool true].toArray⟩,
 ty "super" [vr 64,vr 64,vr 64],
 ty "builtin_function_or_method" [vb "object.__init_subclass__",vr 64],
 tp [vr 39],
 ty "builtin_function_or_method" [vb "type.__prepare__",vt "type"],
 dc [de P "__module__" 265 iM,de P "__qualname__" 267<|sv "BadState" 266,de P "__firstlineno__" 269<|.int 13 268,de P "__static_attributes__" 270<|vr 74] 4,
 tp [],
 nf [],
 ty "code" [sv "BadState" 260,sv "BadState" 261,vf 262,vi 13,vi 0,vi 0,vi 0,vi 0,vr 70,.bool false,vi 181,vr 71,.none,.none,.none,.none,vi 263,vi 13,vf 264],
 ⟨vt "frame",O,.plain,[Y<|vr 72,Y<|vr 3,Y<|vr 69,O,Y iM,O,Y<|vr 0].toArray⟩,
 tp [],
 dc [de P "__module__" 265 iM,de P "__firstlineno__" 269<|.int 13 268,de P "__static_attributes__" 270<|vr 74,de P "__doc__" 271 .none] 2,
 ⟨vt "type",O,.cls<|kF "BadState" [vr 39] [vr 76,vr 39,vt "Exception",vt "BaseException",vt "object"] 75 "BadState" true [] [] false O false,[Y<|vr 67,O,Y<|sv "BadState" 258,Y<|sv "BadState" 266,Y<|vb "Exception.__new__",Y<|.bool true].toArray⟩,
 ty "super" [vr 76,vr 76,vr 76],
 ty "builtin_function_or_method" [vb "object.__init_subclass__",vr 76]]++(
 fg 79 274 (eB 6) "lines_of" "lines_of" 15 1 ["octets","found","begun","ended"] .none iM++(
 [tp [],
 ty "builtin_function_or_method" [vb "type.__prepare__",vt "type"],
 dc [de P "__module__" 295 cT,de P "__qualname__" 297<|sv "Change" 296,de P "__firstlineno__" 299<|.int 26 298,de P "__init__" 310<|vr 99,de P "many_out" 317<|vr 106,de P "many_in" 324<|vr 113,de P "places" 331<|vr 120,de P "__static_attributes__" 336<|vr 121] 8,
 tp [],
 nf [vi 28,vi 4,vr 98,vi 34,vi 4,vr 105,vi 37,vi 4,vr 112,vi 40,vi 4,vr 119],
 ty "code" [sv "Change" 290,sv "Change" 291,vf 292,vi 26,vi 0,vi 0,vi 0,vi 0,vr 89,.bool false,vi 181,vr 90,.none,.none,.none,.none,vi 293,vi 26,vf 294],
 ⟨vt "frame",O,.plain,[Y (vr 91),Y (vr 3),Y (vr 88),O,Y cT,O,Y (vr 0)].toArray⟩]++(
 fg 93 300 (dK 9 0) "Change.__init__" "__init__" 28 5 ["self","a_from","a_to","b_from","b_to"] .none cT++(
 fg 100 311 (dK 9 1) "Change.many_out" "many_out" 34 1 ["self"] .none cT++(
 fg 107 318 (dK 9 2) "Change.many_in" "many_in" 37 1 ["self"] .none cT++(
 fg 114 325 (dK 9 3) "Change.places" "places" 40 1 ["self"] .none cT++(
 [tp [sv "a_from" 332,sv "a_to" 333,sv "b_from" 334,sv "b_to" 335],
 dc [de P "__module__" 295 cT,de P "__firstlineno__" 299<|.int 26 298,de P "__init__" 310<|vr 99,de P "many_out" 317<|vr 106,de P "many_in" 324<|vr 113,de P "places" 331<|vr 120,de P "__static_attributes__" 336<|vr 121,de P "__dict__" 338<|vr 124,de P "__weakref__" 340<|vr 125,de P "__doc__" 341 .none] 4,
 ⟨vt "type",O,.cls<|kF "Change" [vt "object"] [vr 123,vt "object"] 122 "Change" true [] [] false O false,[O,O,Y<|sv "Change" 288,Y<|sv "Change" 296,Y<|vb "object.__new__",Y<|.bool true].toArray⟩,
 ty "getset_descriptor" [sv "__dict__" 337,vr 123,vb "function.__dict__",vb "function.__dict__#set"],
 ty "getset_descriptor" [sv "__weakref__" 339,vr 123,vb "ExceptionGroup.__weakref__",.none],
 ty "super" [vr 123,vr 123,vr 123],
 ty "builtin_function_or_method" [vb "object.__init_subclass__",vr 123],
 tp [],
 ty "builtin_function_or_method" [vb "type.__prepare__",vt "type"],
 dc [de P "__module__" 351 cT,de P "__qualname__" 353<|sv "LineNumbers" 352,de P "__firstlineno__" 355<|.int 42 354,de P "__init__" 362<|vr 141,de P "number_of" 373<|vr 148,de P "numbers_of" 379<|vr 153,de P "__static_attributes__" 383<|vr 154] 7,
 tp [],
 nf [vi 44,vi 4,vr 140,vi 49,vi 4,vr 147,vi 63,vi 4,vr 152],
 ty "code" [sv "LineNumbers" 346,sv "LineNumbers" 347,vf 348,vi 42,vi 0,vi 0,vi 0,vi 0,vr 131,.bool false,vi 181,vr 132,.none,.none,.none,.none,vi 349,vi 42,vf 350],
 ⟨vt "frame",O,.plain,[Y (vr 133),Y (vr 3),Y (vr 130),O,Y cT,O,Y (vr 0)].toArray⟩]++(
 fg 135 356 (dK 10 0) "LineNumbers.__init__" "__init__" 44 1 ["self"] .none cT++(
 fg 142 363 (dK 10 1) "LineNumbers.number_of" "number_of" 49 2 ["self","line","key","number","other"] .none cT++(
 fg 149 374 (dK 10 2) "LineNumbers.numbers_of" "numbers_of" 63 2 [] .none cT++(
 [tp [sv "count" 380,sv "known" 381,sv "strange" 382],
 dc [de P "__module__" 351 cT,de P "__firstlineno__" 355<|.int 42 354,de P "__init__" 362<|vr 141,de P "number_of" 373<|vr 148,de P "numbers_of" 379<|vr 153,de P "__static_attributes__" 383<|vr 154,de P "__dict__" 385<|vr 157,de P "__weakref__" 387<|vr 158,de P "__doc__" 388 .none] 4,
 ⟨vt "type",O,.cls<|kF "LineNumbers" [vt "object"] [vr 156,vt "object"] 155 "LineNumbers" true [] [] false O false,[O,O,Y<|sv "LineNumbers" 344,Y<|sv "LineNumbers" 352,Y<|vb "object.__new__",Y<|.bool true].toArray⟩,
 ty "getset_descriptor" [sv "__dict__" 384,vr 156,vb "function.__dict__",vb "function.__dict__#set"],
 ty "getset_descriptor" [sv "__weakref__" 386,vr 156,vb "ExceptionGroup.__weakref__",.none],
 ty "super" [vr 156,vr 156,vr 156],
 ty "builtin_function_or_method" [vb "object.__init_subclass__",vr 156],
 tp [],
 ty "builtin_function_or_method" [vb "type.__prepare__",vt "type"],
 dc [de P "__module__" 398 cT,de P "__qualname__" 400<|sv "LineSheet" 399,de P "__firstlineno__" 402<|.int 65 401,de P "__init__" 412<|vr 174,de P "whole" 419<|vr 181,de P "trimmed" 431<|vr 188,de P "mark" 444<|vr 195,de P "changes" 456<|vr 202,de P "halved" 476<|vr 209,de P "mark_fewest" 491<|vr 216,de P "lone_pairs" 507<|vr 223,de P "mark_patience" 523<|vr 230,de P "rare_stretch" 546<|vr 237,de P "is_led_up_to" 559<|vr 244,de P "mark_histogram" 578<|vr 251,de P "__static_attributes__" 583<|vr 252] 16,
 tp [],
 nf [vi 67,vi 4,vr 173,vi 74,vi 4,vr 180,vi 77,vi 4,vr 187,vi 87,vi 4,vr 194,vi 94,vi 4,vr 201,vi 110,vi 4,vr 208,vi 132,vi 4,vr 215,vi 143,vi 4,vr 222,vi 156,vi 4,vr 229,vi 172,vi 4,vr 236,vi 195,vi 4,vr 243,vi 200,vi 4,vr 250],
 ty "code" [sv "LineSheet" 393,sv "LineSheet" 394,vf 395,vi 65,vi 0,vi 0,vi 0,vi 0,vr 164,.bool false,vi 181,vr 165,.none,.none,.none,.none,vi 396,vi 65,vf 397],
 ⟨vt "frame",O,.plain,[Y (vr 166),Y (vr 3),Y (vr 163),O,Y cT,O,Y (vr 0)].toArray⟩]++(
 fg 168 403 (dK 11 0) "LineSheet.__init__" "__init__" 67 3 ["self","a","b","numbers"] .none cT++(
 fg 175 413 (dK 11 1) "LineSheet.whole" "whole" 74 1 ["self"] .none cT++(
 fg 182 420 (dK 11 2) "LineSheet.trimmed" "trimmed" 77 2 ["self","part","a_low","a_high","b_low","b_high"] .none cT++(
 fg 189 432 (dK 11 3) "LineSheet.mark" "mark" 87 2 ["self","part","a_low","a_high","b_low","b_high","place"] .none cT++(
 fg 196 445 (dK 11 4) "LineSheet.changes" "changes" 94 1 ["self","found","at","far","a_from","b_from"] .none cT++(
 fg 203 457 (dK 11 5) "LineSheet.halved" "halved" 110 2 ["self","part","a_low","a_high","b_low","b_high","wide","tall","slant","ahead","behind","many","lane","at"] .none cT++(
 fg 210 477 (dK 11 6) "LineSheet.mark_fewest" "mark_fewest" 132 2 ["self","part","waiting","a_low","a_high","b_low","b_high","at","far"] .none cT++(
 fg 217 492 (dK 11 7) "LineSheet.lone_pairs" "lone_pairs" 143 2 ["self","part","a_low","a_high","b_low","b_high","a_places","b_places","place","found"] .none cT++(
 fg 224 508 (dK 11 8) "LineSheet.mark_patience" "mark_patience" 156 2 ["self","part","waiting","a_low","a_high","b_low","b_high","held","at","far"] .none cT++(
 fg 231 524 (dK 11 9) "LineSheet.rare_stretch" "rare_stretch" 172 3 ["self","part","most","a_low","a_high","b_low","b_high","places","place","row","best","is_alike","far","at","size","rarest","key"] .none cT++(
 fg 238 547 (dK 11 10) "LineSheet.is_led_up_to" "is_led_up_to" 195 7 ["self","at","far","a_low","b_low","places","most"] .none cT++(
 fg 245 560 (dK 11 11) "LineSheet.mark_histogram" "mark_histogram" 200 3 ["self","part","most","waiting","a_low","a_high","b_low","b_high","stretch","is_alike","at","far","size"] .none cT++(
 [tp [sv "a" 579,sv "b" 580,sv "come" 581,sv "gone" 582],
 dc [de P "__module__" 398 cT,de P "__firstlineno__" 402<|.int 65 401,de P "__init__" 412<|vr 174,de P "whole" 419<|vr 181,de P "trimmed" 431<|vr 188,de P "mark" 444<|vr 195,de P "changes" 456<|vr 202,de P "halved" 476<|vr 209,de P "mark_fewest" 491<|vr 216,de P "lone_pairs" 507<|vr 223,de P "mark_patience" 523<|vr 230,de P "rare_stretch" 546<|vr 237,de P "is_led_up_to" 559<|vr 244,de P "mark_histogram" 578<|vr 251,de P "__static_attributes__" 583<|vr 252,de P "__dict__" 585<|vr 255,de P "__weakref__" 587<|vr 256,de P "__doc__" 588 .none] 4,
 ⟨vt "type",O,.cls<|kF "LineSheet" [vt "object"] [vr 254,vt "object"] 253 "LineSheet" true [] [] false O false,[O,O,Y<|sv "LineSheet" 391,Y<|sv "LineSheet" 399,Y<|vb "object.__new__",Y<|.bool true].toArray⟩,
 ty "getset_descriptor" [sv "__dict__" 584,vr 254,vb "function.__dict__",vb "function.__dict__#set"],
 ty "getset_descriptor" [sv "__weakref__" 586,vr 254,vb "ExceptionGroup.__weakref__",.none],
 ty "super" [vr 254,vr 254,vr 254],
 ty "builtin_function_or_method" [vb "object.__init_subclass__",vr 254]]++(
 fg 259 591 (eB 12) "line_further" "line_further" 218 2 ["reach","lane"] .none cT++(
 fg 266 599 (eB 13) "line_rising" "line_rising" 224 1 ["pairs","piles","ahead","number","pair","low","high","middle","found"] .none cT++(
 fg 273 614 (eB 14) "myers" "myers" 246 2 ["a","b","sheet"] .none cT++(
 fg 280 623 (eB 15) "patience" "patience" 250 2 ["a","b","sheet"] .none cT++(
 [tp [.int 64 632]]++(
 fg 288 633 (eB 16) "histogram" "histogram" 254 3 ["a","b","most","sheet"] (vr 287) cT++(
 fg 295 643 (eB 17) "by" "by" 258 3 ["how","a","b"] .none cT++(
 [tp [],
 ty "builtin_function_or_method" [vb "type.__prepare__",vt "type"],
 dc [de P "__module__" 659 cT,de P "__qualname__" 661<|sv "LineGaps" 660,de P "__firstlineno__" 663<|.int 266 662,de P "__init__" 674<|vr 315,de P "start" 682<|vr 322,de P "can_go_up" 691<|vr 329,de P "can_go_down" 700<|vr 336,de P "put" 709<|vr 343,de P "ends_blank" 718<|vr 350,de P "marks" 728<|vr 357,de P "settled" 741<|vr 364,de P "settle" 750<|vr 371,de P "__static_attributes__" 754<|vr 372] 13,
 tp [],
 nf [vi 268,vi 4,vr 314,vi 278,vi 4,vr 321,vi 281,vi 4,vr 328,vi 285,vi 4,vr 335,vi 289,vi 4,vr 342,vi 294,vi 4,vr 349,vi 298,vi 4,vr 356,vi 304,vi 4,vr 363,vi 328,vi 4,vr 370],
 ty "code" [sv "LineGaps" 654,sv "LineGaps" 655,vf 656,vi 266,vi 0,vi 0,vi 0,vi 0,vr 305,.bool false,vi 181,vr 306,.none,.none,.none,.none,vi 657,vi 266,vf 658],
 ⟨vt "frame",O,.plain,[Y (vr 307),Y (vr 3),Y (vr 304),O,Y cT,O,Y (vr 0)].toArray⟩]++(
 fg 309 664 (dK 18 0) "LineGaps.__init__" "__init__" 268 4 ["self","numbers","marks","lines","mark"] .none cT++(
 fg 316 675 (dK 18 1) "LineGaps.start" "start" 278 2 ["self","gap"] .none cT++(
 fg 323 683 (dK 18 2) "LineGaps.can_go_up" "can_go_up" 281 2 ["self","gap","start"] .none cT++(
 fg 330 692 (dK 18 3) "LineGaps.can_go_down" "can_go_down" 285 2 ["self","gap","start"] .none cT++(
 fg 337 701 (dK 18 4) "LineGaps.put" "put" 289 3 ["self","gap","other"] .none cT++(
 fg 344 710 (dK 18 5) "LineGaps.ends_blank" "ends_blank" 294 2 ["self","gap","line"] .none cT++(
 fg 351 719 (dK 18 6) "LineGaps.marks" "marks" 298 1 ["self","found","gap","size"] .none cT++(
 fg 358 729 (dK 18 7) "LineGaps.settled" "settled" 304 3 ["self","gap","others","size","top","beside","low"] .none cT++(
 fg 365 742 (dK 18 8) "LineGaps.settle" "settle" 328 2 ["self","others","gap"] .none cT++(
 [tp [sv "lines" 751,sv "numbers" 752,sv "sizes" 753],
 dc [de P "__module__" 659 cT,de P "__firstlineno__" 663<|.int 266 662,de P "__init__" 674<|vr 315,de P "start" 682<|vr 322,de P "can_go_up" 691<|vr 329,de P "can_go_down" 700<|vr 336,de P "put" 709<|vr 343,de P "ends_blank" 718<|vr 350,de P "marks" 728<|vr 357,de P "settled" 741<|vr 364,de P "settle" 750<|vr 371,de P "__static_attributes__" 754<|vr 372,de P "__dict__" 756<|vr 375,de P "__weakref__" 758<|vr 376,de P "__doc__" 759 .none] 4,
 ⟨vt "type",O,.cls<|kF "LineGaps" [vt "object"] [vr 374,vt "object"] 373 "LineGaps" true [] [] false O false,[O,O,Y<|sv "LineGaps" 652,Y<|sv "LineGaps" 660,Y<|vb "object.__new__",Y<|.bool true].toArray⟩,
 ty "getset_descriptor" [sv "__dict__" 755,vr 374,vb "function.__dict__",vb "function.__dict__#set"],
 ty "getset_descriptor" [sv "__weakref__" 757,vr 374,vb "ExceptionGroup.__weakref__",.none],
 ty "super" [vr 374,vr 374,vr 374],
 ty "builtin_function_or_method" [vb "object.__init_subclass__",vr 374]]++(
 fg 379 762 (eB 19) "slid" "slid" 334 3 ["changes","a","b","sheet","change","near","far"] .none cT++(
 [tp [],
 ty "builtin_function_or_method" [vb "type.__prepare__",vt "type"],
 dc [de P "__module__" 792 eU,de P "__qualname__" 794<|sv "Hunk" 793,de P "__firstlineno__" 796<|.int 350 795,de P "__init__" 810<|vr 400,de P "start" 817<|vr 407,de P "side" 823<|vr 412,de P "context" 832<|vr 419,de P "turned" 844<|vr 426,de P "__static_attributes__" 851<|vr 427] 9,
 tp [],
 nf [vi 352,vi 4,vr 399,vi 360,vi 4,vr 406,vi 363,vi 4,vr 411,vi 366,vi 4,vr 418,vi 375,vi 4,vr 425],
 ty "code" [sv "Hunk" 787,sv "Hunk" 788,vf 789,vi 350,vi 0,vi 0,vi 0,vi 0,vr 389,.bool false,vi 181,vr 390,.none,.none,.none,.none,vi 790,vi 350,vf 791],
 ⟨vt "frame",O,.plain,[Y<|vr 391,Y<|vr 3,Y<|vr 388,O,Y eU,O,Y<|vr 0].toArray⟩,
 tp [.bytes #[] 797]]++(
 fg 394 798 (dK 25 0) "Hunk.__init__" "__init__" 352 7 ["self","old_from","old_many","new_from","new_many","rows","heading"] (vr 393) eU++(
 fg 401 811 (dK 25 1) "Hunk.start" "start" 360 1 ["self"] .none eU++(
 fg 408 818 (dK 25 2) "Hunk.side" "side" 363 2 [] .none eU++(
 fg 413 824 (dK 25 3) "Hunk.context" "context" 366 1 ["self","ahead","behind"] .none eU++(
 fg 420 833 (dK 25 4) "Hunk.turned" "turned" 375 1 ["self","rows","gone","come","sign","line"] .none eU++(
 [tp [sv "heading" 845,sv "new_from" 846,sv "new_many" 847,sv "old_from" 848,sv "old_many" 849,sv "rows" 850],
 dc [de P "__module__" 792 eU,de P "__firstlineno__" 796<|.int 350 795,de P "__init__" 810<|vr 400,de P "start" 817<|vr 407,de P "side" 823<|vr 412,de P "context" 832<|vr 419,de P "turned" 844<|vr 426,de P "__static_attributes__" 851<|vr 427,de P "__dict__" 853<|vr 430,de P "__weakref__" 855<|vr 431,de P "__doc__" 856 .none] 4,
 ⟨vt "type",O,.cls<|kF "Hunk" [vt "object"] [vr 429,vt "object"] 428 "Hunk" true [] [] false O false,[O,O,Y<|sv "Hunk" 785,Y<|sv "Hunk" 793,Y<|vb "object.__new__",Y<|.bool true].toArray⟩,
 ty "getset_descriptor" [sv "__dict__" 852,vr 429,vb "function.__dict__",vb "function.__dict__#set"],
 ty "getset_descriptor" [sv "__weakref__" 854,vr 429,vb "ExceptionGroup.__weakref__",.none],
 ty "super" [vr 429,vr 429,vr 429],
 ty "builtin_function_or_method" [vb "object.__init_subclass__",vr 429],
 tp [],
 ty "builtin_function_or_method" [vb "type.__prepare__",vt "type"],
 dc [de P "__module__" 866 eU,de P "__qualname__" 868<|sv "FilePatch" 867,de P "__firstlineno__" 870<|.int 388 869,de P "__init__" 888<|vr 449,de P "path" 895<|vr 456,de P "__static_attributes__" 906<|vr 457] 6,
 tp [],
 nf [vi 390,vi 4,vr 448,vi 402,vi 4,vr 455],
 ty "code" [sv "FilePatch" 861,sv "FilePatch" 862,vf 863,vi 388,vi 0,vi 0,vi 0,vi 0,vr 437,.bool false,vi 181,vr 438,.none,.none,.none,.none,vi 864,vi 388,vf 865],
 ⟨vt "frame",O,.plain,[Y<|vr 439,Y<|vr 3,Y<|vr 436,O,Y eU,O,Y<|vr 0].toArray⟩,
 tp [],
 tp [.none,.none,.none,.none,vr 441,sv "modify" 871,.none,.none]]++(
 fg 443 872 (dK 26 0) "FilePatch.__init__" "__init__" 390 11 ["self","old_path","new_path","old_mode","new_mode","old_id","new_id","hunks","kind","likeness","binary"] (vr 442) eU++(
 fg 450 889 (dK 26 1) "FilePatch.path" "path" 402 1 ["self"] .none eU++(
 [tp [sv "binary" 896,sv "hunks" 897,sv "kind" 898,sv "likeness" 899,sv "new_id" 900,sv "new_mode" 901,sv "new_path" 902,sv "old_id" 903,sv "old_mode" 904,sv "old_path" 905],
 dc [de P "__module__" 866 eU,de P "__firstlineno__" 870<|.int 388 869,de P "__init__" 888<|vr 449,de P "path" 895<|vr 456,de P "__static_attributes__" 906<|vr 457,de P "__dict__" 908<|vr 460,de P "__weakref__" 910<|vr 461,de P "__doc__" 911 .none] 4,
 ⟨vt "type",O,.cls<|kF "FilePatch" [vt "object"] [vr 459,vt "object"] 458 "FilePatch" true [] [] false O false,[O,O,Y<|sv "FilePatch" 859,Y<|sv "FilePatch" 867,Y<|vb "object.__new__",Y<|.bool true].toArray⟩,
 ty "getset_descriptor" [sv "__dict__" 907,vr 459,vb "function.__dict__",vb "function.__dict__#set"],
 ty "getset_descriptor" [sv "__weakref__" 909,vr 459,vb "ExceptionGroup.__weakref__",.none],
 ty "super" [vr 459,vr 459,vr 459],
 ty "builtin_function_or_method" [vb "object.__init_subclass__",vr 459]]++(
 fg 464 914 (eB 27) "heading_of" "heading_of" 404 2 ["lines","start","place","first"] .none eU++(
 fg 471 924 (eB 28) "hunk_around" "hunk_around" 410 4 [] .none eU++(
 [tp [.int 3 930,.int 0 931,sv "myers" 932]]++(
 fg 477 933 (eB 29) "hunks_of" "hunks_of" 424 5 [] (vr 476) eU++(
 [tp [],
 ty "builtin_function_or_method" [vb "type.__prepare__",vt "type"],
 dc [de P "__module__" 946 eU,de P "__qualname__" 948<|sv "HunkImage" 947,de P "__firstlineno__" 950<|.int 433 949,de P "__init__" 964<|vr 496,de P "fits" 975<|vr 503,de P "place" 988<|vr 510,de P "__static_attributes__" 991<|vr 511] 7,
 tp [],
 nf [vi 435,vi 4,vr 495,vi 441,vi 4,vr 502,vi 449,vi 4,vr 509],
 ty "code" [sv "HunkImage" 941,sv "HunkImage" 942,vf 943,vi 433,vi 0,vi 0,vi 0,vi 0,vr 485,.bool false,vi 181,vr 486,.none,.none,.none,.none,vi 944,vi 433,vf 945],
 ⟨vt "frame",O,.plain,[Y<|vr 487,Y<|vr 3,Y<|vr 484,O,Y eU,O,Y<|vr 0].toArray⟩,
 tp [.int 0 951,.int 0 952]]++(
 fg 490 953 (dK 30 0) "HunkImage.__init__" "__init__" 435 4 ["self","hunk","ahead","behind","kept","part"] (vr 489) eU++(
 fg 497 965 (dK 30 1) "HunkImage.fits" "fits" 441 4 ["self","lines","done","at","end"] .none eU++(
 fg 504 976 (dK 30 2) "HunkImage.place" "place" 449 5 ["self","lines","done","near","most_off","most","off"] .none eU++(
 [tp [sv "new" 989,sv "old" 990],
 dc [de P "__module__" 946 eU,de P "__firstlineno__" 950<|.int 433 949,de P "__init__" 964<|vr 496,de P "fits" 975<|vr 503,de P "place" 988<|vr 510,de P "__static_attributes__" 991<|vr 511,de P "__dict__" 993<|vr 514,de P "__weakref__" 995<|vr 515,de P "__doc__" 996 .none] 4,
 ⟨vt "type",O,.cls<|kF "HunkImage" [vt "object"] [vr 513,vt "object"] 512 "HunkImage" true [] [] false O false,[O,O,Y<|sv "HunkImage" 939,Y<|sv "HunkImage" 947,Y<|vb "object.__new__",Y<|.bool true].toArray⟩,
 ty "getset_descriptor" [sv "__dict__" 992,vr 513,vb "function.__dict__",vb "function.__dict__#set"],
 ty "getset_descriptor" [sv "__weakref__" 994,vr 513,vb "ExceptionGroup.__weakref__",.none],
 ty "super" [vr 513,vr 513,vr 513],
 ty "builtin_function_or_method" [vb "object.__init_subclass__",vr 513]]++(
 fg 518 999 (eB 31) "image_place" "image_place" 461 6 ["image","lines","done","near","most_off","bounds","at"] .none eU++(
 fg 525 1012 (eB 32) "hunk_ways" "hunk_ways" 470 2 ["hunk","least_context","ahead","behind","found","gone"] .none eU++(
 [tp [.none,.none]]++(
 fg 533 1024 (eB 33) "apply_hunks" "apply_hunks" 483 4 ["octets","hunks","most_off","least_context","lines","found","done","off","number","hunk","place","ahead","behind","bounds","image","near"] (vr 532) eU++(
 fg 540 1046 (eB 34) "reversed_patch" "reversed_patch" 499 1 [] .none eU++(
 fg 545 1054 (eB 36) "_law_deck" "_law_deck" 510 1 [] .none i8++(
 fg 550 1060 (eB 37) "_law_draw" "_law_draw" 515 2 ["deck","many"] .none i8++(
 fg 557 1068 (eB 38) "_law_letter" "_law_letter" 520 1 ["deck"] .none i8++(
 fg 564 1075 (eB 39) "_law_text" "_law_text" 522 1 [] .none i8++(
 fg 569 1081 (eB 40) "_law_turned" "_law_turned" 524 2 [] .none i8++(
 fg 574 1087 (eB 41) "_law_moved" "_law_moved" 530 2 ["deck","rows","turn","at"] .none i8++(
 fg 581 1097 (eB 42) "_law_octets" "_law_octets" 538 2 ["deck","rows","octets"] .none i8++(
 fg 588 1106 (eB 43) "_law_last" "_law_last" 541 1 ["octets","last"] .none i8++(
 fg 595 1114 (eB 44) "_law_place" "_law_place" 544 6 [] .none i8++(
 fg 600 1120 (eB 45) "_law_applied" "_law_applied" 565 3 [] .none i8++(
 fg 605 1126 (eB 46) "_law_heard" "_law_heard" 576 3 ["octets","hunks","most_off","found","e"] .none i8++(
 fg 612 1137 (eB 47) "law" "law" 583 1 [] .none i8)))))))))))))))))))))))))))))))))))))))))))))))))))))))))))))))))))))))))))))))))))
noncomputable def pt(P:fe)(k:Nat)(m:bI)(a b:Nat):List Obj:=z9 ((full P).take k) [(3,dc (de P "__name__" 165 m::(gl P).tail.take (a-1)) a),(12,nf<|li.take b)]
noncomputable def SY(P:fe):List Obj:=z9 ((full P).take 15) [(2,boot_o_2 P),(3,boot_o_3 P),(12,nf [])]
noncomputable def HA(P:fe):Heap:=⟨⟨SY P⟩,(j0 P).life⟩
noncomputable def SA(w:el)(os:l8):bU:=⟨HA w.params,Array.mk [],l7,187,os⟩
noncomputable def SZ(P:fe):List Obj:=pt P 128 cT 17 21
noncomputable def H9(P:fe):Heap:=⟨⟨SZ P⟩,(j0 P).life⟩
noncomputable def S9(w:el)(os:l8):bU:=⟨H9 w.params,Array.mk [],l7,344,os⟩
noncomputable def S8(P:fe):List Obj:=pt P 259 cT 19 27
noncomputable def H11(P:fe):Heap:=⟨⟨S8 P⟩,(j0 P).life⟩
noncomputable def K0(w:el)(os:l8):bU:=⟨H11 w.params,Array.mk [],l7,591,os⟩
noncomputable def S7(P:fe):List Obj:=pt P 434 eU 32 54
noncomputable def H25(P:fe):Heap:=⟨⟨S7 P⟩,(j0 P).life⟩
noncomputable def KZ(w:el)(os:l8):bU:=⟨H25 w.params,Array.mk [],l7,859,os⟩
noncomputable def S1(P:fe):List Obj:=full P
noncomputable def ql(P:fe):Heap:=⟨⟨S1 P⟩,(j0 P).life⟩
noncomputable def x3(w:el)(os:l8):bU:=⟨ql w.params,Array.mk [],l7,1143,os⟩
noncomputable def pA:Pos:=⟨0,0,0,0⟩
noncomputable def p9:Pos:=⟨26,0,41,63⟩
noncomputable def Ga:Pos:=⟨65,0,217,61⟩
noncomputable def F':Pos:=⟨350,0,387,104⟩
noncomputable def F9:Pos:=⟨583,0,598,64⟩
noncomputable def mZ:Option bI:=Y<|.ref 6
noncomputable def kH:List Stmt:=behindTheImports gk
noncomputable def rS:Env:={scope:=gk.main.scope,locals:=mainNs,globals:=mainNs,cells:=[],code:=.ref 13,frame:=Y 14}
noncomputable def cE:Code:=.body kH rS
noncomputable def q0:Pos:=⟨0,0,0,0⟩
noncomputable def S0(w:el)(os:l8):bU:=⟨j0 w.params,Array.mk [],l7,boot_toks,os⟩
end
end bc.Hd
end
section
set_option Elab.async false
set_option maxHeartbeats 0
open PySem PySem.W
namespace bc.Hd
def Sr:∀w:el,(λos=>topGo l5 gk w 11 mZ 12 (S0 w os)<|topStub gk)=λos=>Y (SA w os,⟨denote l5 cE,cE,pA,[qs q0]⟩):=by intro w;kernel_rfl
def aaU:∀w:el,(λos=>segRun l5 gk w 11 mZ 1 1 (SA w os)<|blockOf kH rS cE pA [qs q0])=λos=>Y (.next,SA w os,cE,pA):=by intro w;kernel_rfl
def SG:∀w:el,(λos=>segRun l5 gk w 11 mZ 1 1400 (SA w os)<|yi (kH.take 10) rS cE pA [qs q0])=λos=>Y (.next,S9 w os,cE,p9):=by intro w;kernel_rfl
def SF:∀w:el,(λos=>segRun l5 gk w 11 mZ 1 1400 (S9 w os)<|yi ((kH.drop 10).take 2) rS cE p9 [qs q0])=λos=>Y (.next,K0 w os,cE,Ga):=by intro w;kernel_rfl
def SD:∀w:el,(λos=>segRun l5 gk w 11 mZ 1 1400 (K0 w os)<|yi ((kH.drop 12).take 14) rS cE Ga [qs q0])=λos=>Y (.next,KZ w os,cE,F'):=by intro w;kernel_rfl
def Sz:∀w:el,(λos=>segRun l5 gk w 11 mZ 1 1400 (KZ w os)<|yi ((kH.drop 26).take 22) rS cE F' [qs q0])=λos=>Y (.next,x3 w os,cE,F9):=by intro w;kernel_rfl
def Xz:∀w:el,(λos=>topRun l5 gk w 11 mZ 2 (x3 w os) ⟨doneF .next,cE,F9,[qs q0]⟩)=λos=>Y<|x3 w os:=by intro w;kernel_rfl
section
noncomputable def pW:List Nat:=[2,3]++(fV 617).drop 15
noncomputable def KF(P:fe):Frag:=pW.map λi=>(i,((full P)[i]?).getD default)
noncomputable def qv:j4:={gk with main:={gk.main with body:=[eB 47]}}
noncomputable def w':List Str:=(gk.boundNames.filter λn=>n !=("law":Str))
end
def RM(w:el)(os:l8):topRun l5 gk w 11 mZ (12+(1+(1400+(1400+(1400+(1400+2)))))) (S0 w os) (topStub gk)=Y (x3 w os):=by
 refine go_top (congrFun (Sr w) os)<|piece_block (congrFun (aaU w) os) ?_;have e:kH=kH.take 10++((kH.drop 10).take 2++((kH.drop 12).take 14++((kH.drop 26).take 22++[]))):=by kernel_rfl
 rw[e];exact yj (congrFun (SG w) os)<|yj (congrFun (SF w) os)<|yj (congrFun (SD w) os)<|yj (congrFun (Sz w) os)<|piece_nil<|congrFun (Xz w) os
def SQ(N:Nat)(hN:Nat.ble 600 N=true):∀w:el,(fencedOpening l5 gk w N).map (λs=>(s.heap,s.gens,s.drawn,s.toks))=Y (j0 w.params,Array.mk [],l7,boot_toks):=
 boot_open (by kernel_rfl) hN (λs=>by kernel_rfl)
def PU:∀w:el,((j0 w.params).isNs d9&&(Array.mk []:Array yX).size==0,(j0 w.params).objs.size,(j0 w.params).nsMap d9 "__annotations__")=(true,11,mZ):=by intro w;kernel_rfl
def tV:∀P:fe,pW=(KF P).map (·.1):=by intro P;kernel_rfl
def Va:∀(w:el),(λos=>staticsOk (importedModules gk.main.body) (j0 w.params) (ql w.params)&&namesBound gk (ql w.params)&&gensDone ⟨ql w.params,Array.mk [],l7,1143,os⟩&&laidKept (j0 w.params) (ql w.params))=λ_=>true:=by intro w;kernel_rfl
def U':∀(w:el),(λos=>openSeen qv w' (importedModules gk.main.body) (λs=>xlAt qv [] s&&recOk (Lz nA.row.toRowW) s) true ⟨ql w.params,Array.mk [],l7,1143,os⟩)=λ_=>openGood qv w':=by intro w;kernel_rfl
def U9:∀(w:el),(λos=>(kHook KF pW tV).obs ⟨ql w.params,Array.mk [],l7,1143,os⟩)=λ_=>(kHook KF pW tV).val w:=by intro w;kernel_rfl
def Q6:nA.wellSaid=true:=by kernel_rfl
noncomputable def VE:DefRec:=(dr<|eB 47).1
def head(call:WalkO qv w' (XL qv []) (kHook KF pW tV).says nA.row.toRowW VE [] λf vs=>PySem.call f vs):nA.Holds:=by
 refine holds_law Q6 λQ5=>?_;have hl:LeftO nA.row.prog qv w' (λs=>xlAt qv [] s&&recOk (Lz nA.row.toRowW) s) (kHook KF pW tV).obs (kHook KF pW tV).val 9140:=
  LeftO.of_pieces (SQ 9140 V) PU RM (by rfl) λw=>by funext os;exact C8 (congrFun (Va w) os)<|C8 (congrFun (U' w) os)<|congrFun (U9 w) os
 refine holds_open hl (Hook.of _) (Hook.keeps _) (λs e=>xl_of s (ef.mp e).1) XL.keeps (by kernel_rfl) (by kernel_rfl) (by kernel_rfl) (λs e=>recFacts_of (ef.mp e).2) (by rfl) Q5 (by decide+kernel) ⟨V,V,V,V,V,by decide+kernel⟩ ?_ call
 w_witness2
end bc.Hd
end
section
set_option backward.match.sparseCases false
namespace bc
open PySem (Str)
set_option genCtorIdx false in
inductive AV where
 |k|e (b:Bool)|c (i:Int)|m (s:Str)|d (b:List UInt8)
 |l (vs:List AV)|g (vs:List AV)|n (C:Nat) (vs:List AV)|f (a:Nat)
 deriving Inhabited
set_option genCtorIdx false in
inductive AO where
 |b (vs:List AV)
 |c (f:Int->Option AV) (n:Nat)
 |e (f:Str->Option AV) (n:Nat)
 |g (f:Bool×List UInt8->Option AV) (n:Nat)
 |bF (C dx:Nat) (vs:List AV)
noncomputable def AV.ctorIdx(v:AV):Nat:=AV.casesOn v 0 (λ_=>1) (λ_=>2) (λ_=>3) (λ_=>4) (λ_=>5) (λ_=>6) (λ_ _=>7) λ_=>8
noncomputable def AO.ctorIdx(v:AO):Nat:=AO.casesOn v (λ_=>0) (λ_ _=>1) (λ_ _=>2) (λ_ _=>3) λ_ _ _=>4
abbrev Hp:=Nat->Option AO
noncomputable def Hp.aw:Hp:=λ_=>O
noncomputable def Hp.ag(H:Hp)(a:Nat)(o:AO):Hp:=λx=>if x=a then Y o else H x
noncomputable def Hp.aB(H:Hp)(a:Nat):Hp:=λx=>if x=a then O else H x
noncomputable def Hp.aq(a H:Hp):Prop:=∀x o,a x=Y o->H x=Y o
abbrev ba:=List<|Option AV
inductive oE where|a|b|e|c|d
 deriving DecidableEq
inductive CL where|a|c|d|j|f|i|h|e|g|b
 deriving DecidableEq
inductive Bi where
 |b|n|t|r|u|m|o|p|v|w|k|a|c|l|e
 |s|d|q|j|i|h|f|g
 deriving DecidableEq
inductive DK where|i|s|k
 deriving DecidableEq
inductive gV where|a|b|c
 deriving DecidableEq
set_option genCtorIdx false in
inductive X where
 |e (v:AV)
 |d (i:Nat)|s (i:Nat)
 |y (x:X)|G (x:X)
 |j (op:oE) (mu:Bool) (a b:X)
 |h (op:CL) (a b:X)
 |t (xs:List X)|A (xs:List X)
 |D (c a b:X)
 |p (f:Nat) (xs:List X)
 |o (C f:Nat) (x:X) (xs:List X)
 |E (C:Nat) (mu:Bool) (xs:List X)
 |g (C i:Nat) (x:X)
 |l (a i:X)
 |w (a lo hi:X)
 |K (mu:Bool) (a:X)
 |m (mu:Bool) (xs:List X)|q (xs:List X)
 |H (mu:Bool) (x n:X)
 |B (k:DK) (ks:List AV) (vs:List X)
 |u (eY:X) (dS:List Nat) (c4:Bool) (k:gV) (args:List X) (kE:List X)
 |r (op:Bi) (xs:List X)
 |F (a b:X)
 |z (x:X)
 |I
set_option genCtorIdx false in
inductive T where
 |b (i:Nat)|d (is:List Nat)|c (C i:Nat) (x:X)|e (a i:X)
set_option genCtorIdx false in
inductive S where
 |d (t:T) (x:X)|m (t:T) (op:oE) (x:X)|e (x:X)|f (x:X)|q|p
 |g (c:X) (a b:List S)|i (c:X) (b:List S)
 |j (dS:List Nat) (c4:Bool) (k:gV) (args:List X) (b:List S)
 |n (C:Nat) (x:X)|o (b:List S) (C:Nat) (v:Nat) (h:List S)
 |l
set_option genCtorIdx false in
inductive Fl where|a|d|c (v:AV)|b (e:AV)
noncomputable def Fl.ctorIdx(v:Fl):Nat:=Fl.casesOn v 0 1 (λ_=>2) λ_=>3
abbrev VK:=AV->Hp->Prop
abbrev FK:=Fl->ba->Hp->Prop
abbrev cF:=Nat->List AV->VK->VK->Hp->Prop
noncomputable def ix:Int:=2^40
noncomputable def sz:Nat:=2^20
noncomputable def AV.p(v:AV):Option Int:=AV.casesOn v aY (λ_=>aY) qD (λ_=>aY) (λ_=>aY) (λ_=>aY) (λ_=>aY) (λ_ _=>aY) λ_=>aY
noncomputable def AV.y(v:AV):Option Bool:=AV.casesOn v aY qD (λ_=>aY) (λ_=>aY) (λ_=>aY) (λ_=>aY) (λ_=>aY) (λ_ _=>aY) λ_=>aY
noncomputable def AV.z(v:AV):Option Str:=AV.casesOn v aY (λ_=>aY) (λ_=>aY) qD (λ_=>aY) (λ_=>aY) (λ_=>aY) (λ_ _=>aY) λ_=>aY
noncomputable def AV.t(v:AV):Option<|List UInt8:=AV.casesOn v aY (λ_=>aY) (λ_=>aY) (λ_=>aY) qD (λ_=>aY) (λ_=>aY) (λ_ _=>aY) λ_=>aY
noncomputable def AV.x(v:AV):Option<|List AV:=AV.casesOn v aY (λ_=>aY) (λ_=>aY) (λ_=>aY) (λ_=>aY) qD (λ_=>aY) (λ_ _=>aY) λ_=>aY
noncomputable def AO.s(o:AO):Option<|List AV:=AO.casesOn o qD (λ_ _=>aY) (λ_ _=>aY) (λ_ _=>aY) λ_ _ _=>aY
def aS{α:Type}{a:α}{G:Prop}(h:aY=Y a):G:=by cases h
def AV.o{v:AV}(h:v.p=Y i):v=.c i:=by
 induction v using bc.AV.casesOn with
 |c j=>exact congrArg AV.c<|bz h
 |_=>exact aS h
def AV.w{v:AV}(h:v.y=Y i):v=.e i:=by
 induction v using bc.AV.casesOn with
 |e j=>exact congrArg AV.e<|bz h
 |_=>exact aS h
def AV.u{v:AV}(h:v.z=Y i):v=.m i:=by
 induction v using bc.AV.casesOn with
 |m j=>exact congrArg AV.m<|bz h
 |_=>exact aS h
def AV.q{v:AV}(h:v.t=Y i):v=.d i:=by
 induction v using bc.AV.casesOn with
 |d j=>exact congrArg AV.d<|bz h
 |_=>exact aS h
def AV.r{v:AV}(h:v.x=Y i):v=.l i:=by
 induction v using bc.AV.casesOn with
 |l j=>exact congrArg AV.l<|bz h
 |_=>exact aS h
def AO.p{v:AO}(h:v.s=Y i):v=.b i:=by
 induction v using bc.AO.casesOn with
 |b j=>exact congrArg AO.b<|bz h
 |_=>exact aS h
def ob{α β:Type}{x}{f:α->Option β}{b}(h:x.bind f=Y b):∃a,x=Y a/\f a=Y b:=LS.mp h
def om{α β:Type}{x}{f:α->β}{b}(h:x.map f=Y b):∃a,x=Y a/\f a=b:=qE.mp h
noncomputable def mP{α:Type}(l:List α):Option α:=List.casesOn l aY λa r=>List.casesOn r (Y a) λ_ _=>aY
noncomputable def Ew(l:List α):Option<|α×α:=List.casesOn l aY λa r=>(mP r).map λb=>(a,b)
def SS(h:mP l=Y a):l=[a]:=by
 induction l using List.casesOn with
 |nil=>exact aS h
 |cons b r=>induction r using List.casesOn with
  |nil=>exact congrArg (λx=>[x])<|bz h
  |cons=>exact aS h
def OP(h:Ew l=Y (a,b)):l=[a,b]:=by
 induction l using List.casesOn with
 |nil=>exact aS h
 |cons c r=>
  refine aH (om h) λd f e=>?_;injection e with e e3;subst e e3;exact congrArg _<|SS f
noncomputable def cf(H:Hp)(v:AV):Option<|List AV:=AV.casesOn v aY (λ_=>aY) (λ_=>aY) (λ_=>aY) (λ_=>aY) (λ_=>aY) qD (λ_ _=>aY) λa=>(H a).bind AO.s
def G7(h:cf H v=Y l):v=.g l\/∃a,v=.f a/\H a=Y (.b l):=by
 induction v using bc.AV.casesOn with
 |g j=>exact .inl<|congrArg AV.g<|bz h
 |f a=>exact .inr<|aH (ob h) λo e b=>⟨a,V,e.trans<|congrArg Y<|AO.p b⟩
 |_=>exact aS h
noncomputable def jj:List AV->Option (List<|List UInt8)
 |[]=>Y []
 |v::r=>v.t.bind λb=>(jj r).map (b::·)
noncomputable def ot:List AV->Option (List Bool)
 |[]=>Y []
 |v::r=>v.y.bind λb=>(ot r).map (b::·)
noncomputable def kx:List AV->Option (List Int)
 |[]=>Y []
 |v::r=>v.p.bind λb=>(kx r).map (b::·)
noncomputable def lC(n:Nat)(i:Int):Option Nat:=
 if 0<=i then(if i.toNat<n then Y i.toNat else aY)
 else(if 0<=i+n then Y (i+n).toNat else aY)
noncomputable def eF(n:Nat)(i:Int):Nat:=if 0<=i then min i.toNat n else(i+n).toNat
noncomputable def eV{α:Type}(x:List α)(l h:Option Int):List α:=
 let a:=(l.map<|eF x.length).getD 0
 let b:=(h.map<|eF x.length).getD x.length
 (x.take b).drop a
noncomputable def pK(v:AV):Option<|Option Int:=AV.casesOn v (Y aY) (λ_=>aY) (λi=>Y<|Y i) (λ_=>aY) (λ_=>aY) (λ_=>aY) (λ_=>aY) (λ_ _=>aY) λ_=>aY
noncomputable def fm:Nat->Int->Int->List Int
 |0,_,_=>[]
 |n+1,a,st=>a::fm n (a+st) st
noncomputable def hZ(a b s:Int):List Int:=
 if 0<s then fm ((b-a+s-1)/s).toNat a s
 else fm ((a-b-s-1)/(-s)).toNat a s
noncomputable def nY:List Int->List Int->Bool
 |[],_::_=>true
 |_,[]=>false
 |a::r,b::t=>if a=b then nY r t else decide (a<b)
noncomputable def iR(m:Bool)(v:List AV)(Q:VK)(H:Hp):Prop:=
 v.length<=sz/\if m then∀a,H a=aY->Q (.f a) (H.ag a<|.b v)else Q (.g v) H
noncomputable def BE(H:Hp)(a b:AV):Option Bool:=(cf H a).bind λx=>(cf H b).bind λy=>if x.length≠y.length then Y false else(jj x).bind λp=>(jj y).map λq=>decide (p=q)
noncomputable def rR(H:Hp)(a b:AV):Option Bool:=
 match a with
 |.c x=>b.p.map λy=>decide (x=y)
 |.d x=>b.t.map λy=>decide (x=y)
 |.m x=>b.z.map λy=>x==y
 |.l x=>b.x.bind λy=>(ot x).bind λp=>(ot y).map λq=>decide (p=q)
 |a=>BE H a b
noncomputable def GY(a b:AV):Option Bool:=
 match a with
 |.c x=>b.p.map λy=>decide (x<y)
 |.l x=>b.x.bind λy=>(kx x).bind λp=>(kx y).bind λq=>if p.length=q.length then Y<|nY p q else aY
 |_=>aY
noncomputable def wh(f:Int->Int->Bool)(a b:AV):Option Bool:=a.p.bind λx=>b.p.map λy=>f x y
noncomputable def isNone:AV->Option Bool
 |.k=>Y true
 |.c _=>Y false
 |.l _=>Y false
 |_=>aY
noncomputable def AV.A(v:AV):Bool:=AV.casesOn v true (λ_=>false) (λ_=>false) (λ_=>false) (λ_=>false) (λ_=>false) (λ_=>false) (λ_ _=>false) λ_=>false
def AV.B{v:AV}(h:v.A=true):v=.k:=by
 induction v using bc.AV.casesOn with
 |k=>rfl
 |_=>exact aV h
noncomputable def xf(v:AV):Option<|Bool×List UInt8:=v.x.bind λl=>(Ew l).bind λp=>p.1.y.bind λb=>p.2.t.map λx=>(b,x)
noncomputable def AO.u(o:AO)(a:AV):Option Bool:=match o with
 |.c f _=>a.p.map λi=>(f i).isSome
 |.g f _=>(xf a).map λk=>(f k).isSome
 |_=>aY
noncomputable def OW(v:List AV)(a:AV):Option Bool:=match a with
 |.d x=>(jj v).map λl=>l.contains x
 |.e x=>(ot v).map λl=>l.contains x
 |_=>aY
noncomputable def xi(H:Hp)(a b:AV):Option Bool:=
 match b with
 |.f d=>(H d).bind λo=>o.u a
 |.l v=>OW v a
 |_=>aY
noncomputable def uy(o:CL)(H:Hp)(a b:AV):Option Bool:=
 match o with
 |.a=>rR H a b
 |.c=>(rR H a b).map (!·)
 |.d=>GY a b
 |.j=>wh (λx y=>decide (x<=y)) a b
 |.f=>wh (λx y=>decide (y<x)) a b
 |.i=>wh (λx y=>decide (y<=x)) a b
 |.h=>if b.A=true then isNone a else aY
 |.e=>if b.A=true then(isNone a).map (!·)else aY
 |.g=>xi H a b
 |.b=>(xi H a b).map (!·)
noncomputable def acR(m:Bool)(a b:AV)(Q:VK)(H:Hp):Prop:=
 (∃x y,a=.c x/\b=.c y/\Q (.c<|x+y) H)\/(∃x y,a=.d x/\b=.d y/\(x++y).length<=sz/\Q (.d<|x++y) H)\/
  ∃x y,cf H a=Y x/\cf H b=Y y/\iR m (x++y) Q H
noncomputable def iw(o:oE)(m:Bool)(a b:AV)(Q:VK)(H:Hp):Prop:=
 match o with
 |.a=>acR m a b Q H
 |.b=>∃x y,a=.c x/\b=.c y/\Q (.c<|x-y) H
 |.e=>∃x y,a=.c x/\b=.c y/\(x.natAbs<ix.natAbs/\y.natAbs<ix.natAbs)/\Q (.c<|x*y) H
 |.c=>∃x y,a=.c x/\b=.c y/\(0<y/\y<ix)/\Q (.c<|x/y) H
 |.d=>∃x y,a=.c x/\b=.c y/\(0<y/\y<ix)/\Q (.c<|x%y) H
noncomputable def uG(a:List AV)(i:AV)(Q:VK)(H:Hp):Prop:=∃n k v,i=.c n/\lC a.length n=Y k/\a[k]? =Y v/\Q v H
noncomputable def EL(o:AO)(i:AV)(Q:VK)(H:Hp):Prop:=match o with
 |.b a=>uG a i Q H
 |.c f _=>∃n v,i=.c n/\f n=Y v/\Q v H
 |.e f _=>∃s v,i=.m s/\f s=Y v/\Q v H
 |.g f _=>∃k v,xf i=Y k/\f k=Y v/\Q v H
 |_=>False
noncomputable def mM(a i:AV)(Q:VK)(H:Hp):Prop:=
 match a with
 |.l v=>uG v i Q H
 |.g v=>uG v i Q H
 |.f d=>∃o,H d=Y o/\EL o i Q H
 |_=>False
noncomputable def rk(a d c:AV)(Q:VK)(H:Hp):Prop:=
 ∃l h,pK d=Y l/\pK c=Y h/\((∃b,a=.d b/\Q (.d<|eV b l h) H)\/∃v,cf H a=Y v/\Q (.g<|eV v l h) H)
noncomputable def wM(m:Bool)(a:AV)(Q:VK)(H:Hp):Prop:=∃v,cf H a=Y v/\iR m v.reverse Q H
noncomputable def CI(H:Hp)(a:AV)(C:Nat)(v:List AV):Prop:=a=.n C v\/∃d b,a=.f d/\H d=Y (.bF C b v)
noncomputable def AO.t(o:AO):Option Nat:=AO.casesOn o (λ_=>aY) (λ_ _=>aY) (λ_ _=>aY) (λ_ _=>aY) λC _ _=>Y C
noncomputable def lR(H:Hp)(v:AV):Option Nat:=AV.casesOn v aY (λ_=>aY) (λ_=>aY) (λ_=>aY) (λ_=>aY) (λ_=>aY) (λ_=>aY) (λC _=>Y C) λa=>(H a).bind AO.t
def aao(h:lR H v=Y C):∃c,CI H v C c:=by
 induction v using bc.AV.casesOn with
 |n D c=>exact⟨c,.inl<|congrArg (λD=>AV.n D c)<|bz h⟩
 |f a=>
  refine aH (ob h) λo b e=>?_;induction o using bc.AO.casesOn with
  |bF D d c=>exact⟨c,.inr<|gc a d V<|b.trans<|congrArg (λD=>Y<|AO.bF D d c)<|bz e⟩
  |_=>exact aS e
 |_=>exact aS h
noncomputable def ov(C i:Nat)(a:AV)(Q:VK)(H:Hp):Prop:=∃b v,CI H a C b/\b[i]? =Y v/\Q v H
noncomputable def mR(k:DK)(d c:List AV):Option AO:=
 match k with
 |.i=>(match kx d with
   |some l=>if l.length=c.length/\l.length<=1 then Y<|.c (λx=>(l.zip c).lookup x) l.length else aY
   |aY=>aY)
 |.s=>(match d,c with
   |[.m a,.m b],[u,v]=>if a=b then aY else Y<|.e (λx=>if x=a then Y u else if x=b then Y v else aY) 2
   |_,_=>aY)
 |.k=>if d.length=0/\c.length=0 then Y<|.g (λ_=>aY) 0 else aY
noncomputable def kh:AV->Prop
 |.c i=>i.natAbs<ix.natAbs
 |.d _=>True
 |_=>False
noncomputable def kD:DK->AO
 |.i=>.c (λ_=>aY) 0
 |.s=>.e (λ_=>aY) 0
 |.k=>.g (λ_=>aY) 0
noncomputable def kA(a:AV)(Q:VK)(H:Hp):Prop:=
 ∃d,a=.f d/\((∃v,H d=Y (.b v)/\Q (.g v) (H.aB d))\/∃C b v,H d=Y (.bF C b v)/\Q (.n C v) (H.aB d))
noncomputable def iq:List (List UInt8)->List UInt8:=List.flatten
noncomputable def ir:List UInt8->Nat->Nat->Int
 |[],_,_=>-1
 |c::r,at_,start=>if start<=at_/\c=10 then at_ else ir r (at_+1) start
noncomputable def dD:List UInt8->List (List UInt8)
 |[]=>[[]]
 |c::r=>if c=10 then[]::dD r else(match dD r with|p::t=>(c::p)::t|[]=>[[c]])
noncomputable def acf(a:List AV)(Q:VK)(H:Hp):Prop:=(∃b,a=[.d b]/\Q (.c b.length) H)\/∃v l,a=[v]/\cf H v=Y l/\Q (.c l.length) H
noncomputable def acp(v:List AV)(Q:VK)(H:Hp):Prop:=∃i,v=[.c i]/\Q (.c i.natAbs) H
noncomputable def acd(v:List AV)(Q:VK)(H:Hp):Prop:=∃a b,v=[.c a,.c b]/\Q (.c<|max a b) H
noncomputable def acb(v:List AV)(Q:VK)(H:Hp):Prop:=∃a b,v=[.c a,.c b]/\Q (.c<|min a b) H
noncomputable def ab4(b:List AV)(Q:VK)(H:Hp):Prop:=∃v l a,b=[v]/\cf H v=Y l/\kx l=Y a/\(∀x∈a,0<=x/\x<=sz)/\Q (.c a.sum) H
noncomputable def aci(v:List AV)(Q:VK)(H:Hp):Prop:=(∃i,v=[.c i]/\Q (.c i) H)\/∃b,v=[.e b]/\Q (.c (if b then 1 else 0)) H
noncomputable def ace(a:List AV)(Q:VK)(H:Hp):Prop:=(a=[.l []]/\Q (.g []) H)\/∃v l,a=[v]/\cf H v=Y l/\Q (.g l) H
noncomputable def Cq(r:Bool)(v:List AV)(Q:VK)(H:Hp):Prop:=∃b,v=[.d b]/\Q (.e r) H
noncomputable def acn(v:List AV)(Q:VK)(H:Hp):Prop:=∃i,v=[.g [.c i]]/\(0<=i/\i<256)/\Q (.d [UInt8.ofNat i.toNat]) H
noncomputable def aco(b:List AV)(Q:VK)(H:Hp):Prop:=∃a v l,b=[.f a,v]/\H a=Y (.b l)/\l.length<sz/\Q .k (H.ag a<|.b<|l++[v])
noncomputable def acm(b:List AV)(Q:VK)(H:Hp):Prop:=∃a v l r,b=[.f a,v]/\H a=Y (.b l)/\cf H v=Y r/\v≠.f a/\l.length+r.length<=sz/\Q .k (H.ag a<|.b<|l++r)
noncomputable def aca(b:List AV)(Q:VK)(H:Hp):Prop:=∃a l v,b=[.f a]/\H a=Y (.b l)/\l.getLast?=Y v/\Q v (H.ag a<|.b l.dropLast)
noncomputable def ab9(v:List AV)(Q:VK)(H:Hp):Prop:=∃a l,v=[.f a]/\H a=Y (.b l)/\Q .k (H.ag a<|.b l.reverse)
noncomputable def acj(v:List AV)(Q:VK)(H:Hp):Prop:=(∃a i d f n,v=[.f a,.c i,d]/\H a=Y (.c f n)/\Q ((f i).getD d) H)\/∃a i d f n,v=[.f a,.m i,d]/\H a=Y (.e f n)/\Q ((f i).getD d) H
noncomputable def ab7(b:List AV)(Q:VK)(H:Hp):Prop:=∃a i d f n,b=[.f a,.c i,d]/\H a=Y (.c f n)/\n<sz/\
 ((∃v,f i=Y v/\Q v H)\/(f i=aY/\Q d (H.ag a<|.c (λx=>if x=i then Y d else f x)<|n+1)))
noncomputable def ack(v:List AV)(Q:VK)(H:Hp):Prop:=∃b i,v=[.d b,.d [10],.c i]/\0<=i/\Q (.c<|ir b 0 i.toNat) H
noncomputable def acg(b:List AV)(Q:VK)(H:Hp):Prop:=∃v l a,b=[.d [],v]/\cf H v=Y l/\jj l=Y a/\(iq a).length<=sz/\Q (.d<|iq a) H
noncomputable def ab5(v:List AV)(Q:VK)(H:Hp):Prop:=∃a b,v=[.d a,.d b]/\∀r,Q (.d r) H
noncomputable def ab8(v:List AV)(Q:VK)(H:Hp):Prop:=∃a,v=[.d a]/\∀r,Q (.d r) H
noncomputable def ach(v:List AV)(Q:VK)(H:Hp):Prop:=∃a,v=[.d a]/\∀r,Q (.e r) H
noncomputable def ab6(v:List AV)(Q:VK)(H:Hp):Prop:=∃b,v=[.d b,.d [10]]/\b.length<sz/\Q (.g<|(dD b).map .d) H
noncomputable def gC(o:Bi)(v:List AV)(Q:VK)(H:Hp):Prop:=match o with
 |.b=>acf v Q H
 |.n=>acp v Q H
 |.t=>acd v Q H
 |.r=>acb v Q H
 |.u=>ab4 v Q H
 |.m=>aci v Q H
 |.o=>ace v Q H
 |.p=>Cq true v Q H
 |.v=>Cq false v Q H
 |.w=>Cq true v Q H
 |.k=>acn v Q H
 |.a=>aco v Q H
 |.c=>acm v Q H
 |.l=>aca v Q H
 |.e=>ab9 v Q H
 |.s=>acj v Q H
 |.d=>ab7 v Q H
 |.q=>ack v Q H
 |.j=>acg v Q H
 |.i=>ab5 v Q H
 |.h=>ab8 v Q H
 |.f=>ach v Q H
 |.g=>ab6 v Q H
noncomputable def jF(c:Bi)(H:Hp)(o:AV):Prop:=match c with
 |.a|.c|.l|.e=>∃a l,o=.f a/\H a=Y (.b l)
 |.s|.d=>∃a,o=.f a/\((∃f n,H a=Y (.c f n))\/∃f n,H a=Y (.e f n))
 |.q|.j|.i|.h|.f|.g=>∃b,o=.d b
 |_=>True
noncomputable def Fh(o:AO)(d:Nat)(i v:AV)(K:Hp->Prop)(H:Hp):Prop:=match o with
 |.b l=>∃n j,i=.c n/\lC l.length n=Y j/\K (H.ag d<|.b<|l.set j v)
 |.c f n=>∃x,i=.c x/\n<sz/\K (H.ag d<|.c (λy=>if y=x then Y v else f y)<|n+(if(f x).isSome then 0 else 1))
 |.e f n=>∃s,i=.m s/\(f s).isSome/\n<sz/\K (H.ag d<|.e (λx=>if x=s then Y v else f x) n)
 |.g f n=>∃k,xf i=Y k/\n<sz/\K (H.ag d<|.g (λx=>if x=k then Y v else f x)<|n+(if(f k).isSome then 0 else 1))
 |_=>False
noncomputable def pE(a i v:AV)(K:Hp->Prop)(H:Hp):Prop:=∃d o,a=.f d/\H d=Y o/\Fh o d i v K H
noncomputable def ke(C i:Nat)(a v:AV)(K:Hp->Prop)(H:Hp):Prop:=
 ∃d b c,a=.f d/\H d=Y (.bF C b c)/\(if i<c.length then K<|H.ag d<|.bF C b<|c.set i v else i=c.length/\K (H.ag d<|.bF C b<|c++[v]))
noncomputable def Sf(l:List Int):Option<|List AV:=match l with
 |[b]=>if b.natAbs<=sz then Y<|(hZ 0 b 1).map .c else aY
 |[a,b]=>if a.natAbs<=sz/\b.natAbs<=sz then Y<|(hZ a b 1).map .c else aY
 |[a,b,st]=>if a.natAbs<=sz/\b.natAbs<=sz/\st.natAbs<=2/\st≠0 then Y<|(hZ a b st).map .c else aY
 |_=>aY
noncomputable def dX(k:gV)(H:Hp)(a:List AV):Option<|List AV:=
 match k with
 |.a=>(mP a).bind<|cf H
 |.c=>(mP a).bind λv=>(cf H v).map λl=>l.zipIdx.map λp=>AV.l [.c p.2,p.1]
 |.b=>(kx a).bind Sf
noncomputable def eg(k:gV)(H a:Hp)(v:List AV):Prop:=
 match k with
 |.a=>(mP v).bind (cf a)=(mP v).bind (cf H)
 |.c=>(mP v).bind (cf a)=(mP v).bind (cf H)
 |.b=>True
noncomputable def gn(m:ba)(a:List Nat)(u:Bool)(v:AV):Option ba:=
 match u with
 |false=>(mP a).map λi=>m.set i<|Y v
 |true=>v.x.bind λb=>if a.length=b.length then Y<|(a.zip b).foldl (λm p=>m.set p.1<|Y p.2) m else aY
noncomputable def f3(s:Hp->Prop)(b:AV->(Option AV->Hp->Prop)->Hp->Prop):List AV->List AV->(List AV->Hp->Prop)->Hp->Prop
 |[],a,Q,H=>s H/\Q a H
 |v::r,a,Q,H=>s H/\b v (λo c=>f3 s b r (match o with|some u=>a++[u]|aY=>a) Q c) H
noncomputable def gS:Nat->Nat:=λC=>1000+C
mutual
noncomputable def den(F:cF)(E:VK)(m:ba):ba->X->VK->Hp->Prop
 |_,.e v=>λQ H=>Q v H
 |_,.d i=>λQ H=>(match m[i]? with|some (some v)=>Q v H|_=>False)
 |mc,.s i=>λQ H=>(match mc[i]? with|some (some v)=>Q v H|_=>False)
 |mc,.y x=>λQ=>den F E m mc x λv H=>(match v with|.c i=>Q (.c<|-i) H|_=>False)
 |mc,.G x=>λQ=>den F E m mc x λv H=>(match v with|.e b=>Q (.e<|!b) H|_=>False)
 |mc,.j op mu a b=>λQ=>den F E m mc a λva=>den F E m mc b λvb=>iw op mu va vb Q
 |mc,.h op a b=>λQ=>den F E m mc a λva=>den F E m mc b λvb H=>(match uy op H va vb with|some r=>Q (.e r) H|aY=>False)
 |mc,.t xs=>mW F E m mc true xs
 |mc,.A xs=>mW F E m mc false xs
 |mc,.D c a b=>λQ=>den F E m mc c λv H=>(match v with
   |.e true=>den F E m mc a Q H
   |.e false=>den F E m mc b Q H
   |_=>False)
 |mc,.p f xs=>λQ=>jh F E m mc xs λvs=>F f vs Q E
 |mc,.o C f x xs=>λQ=>den F E m mc x λo H=>lR H o=Y C/\jh F E m mc xs (λvs=>F f (o::vs) Q E) H
 |mc,.E C mu xs=>λQ=>jh F E m mc xs λvs H=>∀a dx,H a=aY->
   F (gS C) (.f a::vs) (λr H'=>(match r with|.k=>(if mu then Q (.f a) H' else kA (.f a) Q H')|_=>False)) E (H.ag a<|.bF C dx [])
 |mc,.g C i x=>λQ=>den F E m mc x λv=>ov C i v Q
 |mc,.l a i=>λQ=>den F E m mc a λva=>den F E m mc i λvi=>mM va vi Q
 |mc,.w a lo hi=>λQ=>den F E m mc a λva=>den F E m mc lo λvl=>den F E m mc hi λvh=>rk va vl vh Q
 |mc,.K mu a=>λQ=>den F E m mc a λva=>wM mu va Q
 |mc,.m mu xs=>λQ=>jh F E m mc xs λvs=>iR mu vs Q
 |mc,.q xs=>λQ=>jh F E m mc xs λvs=>Q<|.l vs
 |mc,.H mu x n=>λQ=>den F E m mc x λv=>den F E m mc n λk H=>(match k with
   |.c k=>0<=k/\iR mu (dC k.toNat v) Q H
   |_=>False)
 |mc,.B k ks xs=>λQ H=>∀a,H a=aY->jh F E m mc xs (λvs H'=>H' a=Y (kD k)/\(match mR k ks vs with
   |some o=>Q (.f a)<|H'.ag a o
   |aY=>False)) (H.ag a (kD k))
 |mc,.u eY dS c4 k args kE=>λQ=>jh F E m mc args λvs H=>(match dX k H vs with
   |some items=>f3 (λH'=>eg k H H' vs)
     (λv K H'=>(match gn (dC 8 aY) dS c4 v with
      |some jJ=>mW F (λ_ _=>False) m jJ true kE (λb eb=>(match b with
        |.e true=>den F (λ_ _=>False) m jJ eY (λu=>K<|Y u) eb
        |.e false=>K aY eb
        |_=>False)) H'
      |aY=>False)) items [] (λl H=>l.length<=sz/\Q (.g l) H) H
   |aY=>False)
 |_,.r op []=>λQ=>gC op [] Q
 |mc,.r op (x::r)=>λQ=>den F E m mc x λo H=>jF op H o/\jh F E m mc r (λvs=>gC op (o::vs) Q) H
 |mc,.F a b=>λQ=>den F E m mc a λva H=>kh va/\den F E m mc b (λvb H=>kh vb/\va=vb/\Q (.e true) H) H
 |mc,.z x=>λQ=>den F E m mc x λv=>kA v Q
 |_,.I=>λ_ _=>False
noncomputable def jh(F:cF)(E:VK)(m:ba):ba->List X->(List AV->Hp->Prop)->Hp->Prop
 |_,[]=>λQ H=>Q [] H
 |mc,x::r=>λQ=>den F E m mc x λv=>jh F E m mc r λvs=>Q<|v::vs
noncomputable def mW(F:cF)(E:VK)(m:ba):ba->Bool->List X->VK->Hp->Prop
 |_,b,[]=>λQ H=>Q (.e b) H
 |mc,b,x::r=>λQ=>den F E m mc x λv H=>(match v with
   |.e c=>if c=b then(mW F E m mc b r) Q H else Q (.e c) H
   |_=>False)
end
noncomputable def WK0(b:ba->Hp->Prop)(K:FK):FK:=λa m H=>match a with
 |.a=>b m H
 |.d=>K .a m H
 |.b _=>False
 |f=>K f m H
noncomputable def WK(b:ba->Hp->Prop)(K:FK):FK:=λa m H=>match a with
 |.a=>b m H
 |.d=>K .a m H
 |f=>K f m H
noncomputable def qT(t:ba->(Bool->Hp->Prop)->Hp->Prop)(a:ba->FK->Hp->Prop)(K:FK):Nat->ba->Hp->Prop
 |0,_,_=>False
 |n+1,m,H=>t m (λb c=>if b then a m (WK0 (qT t a K n) K) c else K .a m c) H
noncomputable def og(s:Hp->Prop)(t:List Nat)(u:Bool)(b:ba->FK->Hp->Prop)(K:FK):List AV->ba->Hp->Prop
 |[],m,H=>s H/\K .a m H
 |v::r,m,H=>s H/\(match gn m t u v with
   |some a=>b a (WK (og s t u b K r) K) H
   |aY=>False)
noncomputable def xH(F:cF)(E:VK)(m:ba)(x:X)(K:Bool->Hp->Prop):Hp->Prop:=
 den F E m [] x λv H=>(match v with|.e b=>K b H|_=>False)
noncomputable def asg(F:cF)(E:VK)(m:ba)(t:T)(v:AV)(K:ba->Hp->Prop):Hp->Prop:=
 match t with
 |.b i=>K<|m.set i<|Y v
 |.d c=>λH=>(match gn m c true v with|some d=>K d H|aY=>False)
 |.c C i x=>den F E m [] x λo=>ke C i o v<|K m
 |.e a i=>den F E m [] a λe=>den F E m [] i λb=>pE e b v<|K m
noncomputable def acq(F:cF)(E:VK)(m:ba)(t:T)(f:oE)(x:X)(K:ba->Hp->Prop):Hp->Prop:=
 let s a Sq:Hp->Prop:=den F E m [] x λb H=>(match a,b with
  |.c _,.c _=>iw f false a b Sq H
  |_,_=>False)
 match t with
 |.b i=>λH=>(match m[i]? with|some (some a)=>s a (λv=>K<|m.set i<|Y v) H|_=>False)
 |.c C i o=>den F E m [] o λc=>ov C i c λa=>s a λv=>ke C i c v<|K m
 |.e l i=>den F E m [] l λd=>den F E m [] i λe=>mM d e λa=>s a λv=>pE d e v<|K m
 |.d _=>λ_=>False
noncomputable def e9(P:ba->FK->Hp->Prop)(K:FK):FK:=λa m H=>match a with
 |.a=>P m K H
 |f=>K f m H
mutual
noncomputable def xI(F:cF):S->ba->FK->Hp->Prop
 |.d t x=>λm K=>den F (λe=>K (.b e) m) m [] x λv=>asg F (λe=>K (.b e) m) m t v<|K .a
 |.m t op x=>λm K=>acq F (λe=>K (.b e) m) m t op x<|K .a
 |.e x=>λm K=>den F (λe=>K (.b e) m) m [] x λ_=>K .a m
 |.f x=>λm K=>den F (λe=>K (.b e) m) m [] x λv=>K (.c v) m
 |.q=>λm K=>K .d m
 |.p=>λm K=>K .a m
 |.g c a b=>λm K=>xH F (λe=>K (.b e) m) m c λr=>if r then aK F a m K else aK F b m K
 |.i c b=>λm K H=>∃n,qT (λm' K'=>xH F (λ_ _=>False) m' c K') (λm' K'=>aK F b m' K') K n m H
 |.j dS c4 k args b=>λm K=>jh F (λe=>K (.b e) m) m [] args λvs H=>(match dX k H vs with
   |some items=>og (λH'=>eg k H H' vs) dS c4 (λm' K'=>aK F b m' K') K items m H
   |aY=>False)
 |.n C x=>λm K=>den F (λe=>K (.b e) m) m [] x λv _=>(match v with|.c i=>K (.b<|.n C [.c i]) m Hp.aw|_=>False)
 |.o b C v h=>λm K=>aK F b m λfl m' H=>(match fl with
   |.b (.n C' vs)=>C'=C/\aK F h (m'.set v<|Y<|.n C' vs) (λfl Az=>K fl<|Az.set v aY) H
   |.b _=>False
   |f=>K f m' H)
 |.l=>λ_ _ _=>False
noncomputable def aK(F:cF):List S->ba->FK->Hp->Prop
 |[]=>λm K=>K .a m
 |s::r=>λm K=>xI F s m<|e9 (λm' K'=>aK F r m' K') K
end
structure Fn where
 c:Nat
 b:List AV
 g:Nat
 e:List S
noncomputable def Fn.d(f:Fn)(a:List AV):Option ba:=
 if a.length<=f.c/\f.c-a.length<=f.b.length then
  Y ((a++f.b.drop (f.b.length-(f.c-a.length))).map Y++dC (f.g-f.c) aY)
 else aY
noncomputable def e7(Q E:VK):FK:=λf _ H=>match f with
 |.a=>∃a,a.aq H/\Q .k a
 |.c v=>∃a,a.aq H/\Q v a
 |.b e=>E e H
 |.d=>False
noncomputable def aR(P:Nat->Option Fn):Nat->cF
 |0=>λ_ _ _ _ _=>False
 |n+1=>λf b Q E H=>(match P f with
   |some a=>(match a.d b with
     |some m=>aK (aR P n) a.e m (e7 Q E) H
     |aY=>False)
   |aY=>False)
def rG(h:AV.c a=.c b):a=b:=bz<|congrArg AV.p h
def FT(h:AV.f a=.f b):a=b:=by injection h
end bc
end
section
namespace bc.P
noncomputable def abG:List S:=[.d (.c 7 0<|.d 0)<|.d 1]
noncomputable def Yi:Fn:=⟨2,[.m<|eH ""],2,abG⟩
noncomputable def Hq:X:=.h .d (.d 2)<|.r .b [.d 0]
noncomputable def HP:List S:=[.d (.b 3)<|.r .q [.d 0,.e<|.d [10],.d 2],
 .d (.b 3) (.D (.h .d (.d 3)<|.e<|.c 0) (.r .b [.d 0])<|.j .a false (.d 3)<|.e<|.c 1),
 .e (.r .a [.d 1,.w (.d 0) (.d 2)<|.d 3]),
 .d (.b 2) (.d 3)]
noncomputable def abr:List S:=[.d (.b 1)<|.m true [],
 .d (.b 2) (.e<|.c 0),
 .i Hq HP,
 .f (.z (.d 1))]
noncomputable def X3:Fn:=⟨1,[],4,abr⟩
noncomputable def abN:List S:=[.d (.c 0 0<|.d 0)<|.d 1,
 .d (.c 0 1<|.d 0) (.d 2),
 .d (.c 0 2<|.d 0) (.d 3),
 .d (.c 0 3 (.d 0)) (.d 4)]
noncomputable def Yp:Fn:=⟨5,[],5,abN⟩
noncomputable def abg:List S:=[.f<|.q [.g 0 0<|.d 0,.g 0 1<|.d 0,.g 0 2<|.d 0,.g 0 3<|.d 0]]
noncomputable def XR:Fn:=⟨1,[],1,abg⟩
noncomputable def abH:List S:=[.d (.c 1 0<|.d 0)<|.B .k [] [],
 .d (.c 1 1<|.d 0) (.m true []),
 .d (.c 1 2 (.d 0)) (.e (.c 0))]
noncomputable def Yk:Fn:=⟨1,[],1,abH⟩
noncomputable def abj:List S:=[.g (.r .p [.d 1]) [.d (.b 2)<|.q [.r .v [.d 1],.d 1],
 .g (.h .b (.d 2)<|.g 1 0<|.d 0) [.d (.e (.g 1 0<|.d 0)<|.d 2)<|.g 1 2<|.d 0,
 .m (.c 1 2 (.d 0)) .a (.e (.c 1))] [],
 .f (.l (.g 1 0 (.d 0)) (.d 2))] [],
 .l,
 .l,
 .l,
 .l]
noncomputable def XV:Fn:=⟨2,[],5,abj⟩
noncomputable def abi:List S:=[.f<|.u (.o 1 2 (.d 0) [.s 0]) [0] false .a [.d 1] []]
noncomputable def XU:Fn:=⟨2,[],2,abi⟩
noncomputable def KI:List S:=[.d (.b 3)<|.E 1 true [],
 .d (.c 2 0<|.d 0) (.o 1 3 (.d 3) [.d 1]),
 .d (.c 2 1<|.d 0) (.o 1 3 (.d 3) [.d 2]),
 .d (.c 2 2<|.d 0) (.H true (.e<|.e false)<|.r .b [.d 1]),
 .d (.c 2 3 (.d 0)) (.H true (.e (.e false)) (.r .b [(.d 2)]))]
noncomputable def Yj:Fn:=⟨3,[],4,KI⟩
noncomputable def aa8:List S:=[.f<|.q [.e<|.c 0,.r .b [.g 2 0<|.d 0],.e<|.c 0,.r .b [.g 2 1<|.d 0]]]
noncomputable def XG:Fn:=⟨1,[],1,aa8⟩
noncomputable def Hb:X:=.t [.h .d (.d 2)<|.d 3,.h .d (.d 4)<|.d 5,.h .a (.l (.g 2 0<|.d 0)<|.d 2)<|.l (.g 2 1<|.d 0)<|.d 4]
noncomputable def HD:List S:=[.m (.b 2) .a<|.e<|.c 1,
 .m (.b 4) .a (.e (.c 1))]
noncomputable def Ha:X:=.t [.h .d (.d 2)<|.d 3,.h .d (.d 4)<|.d 5,.h .a (.l (.g 2 0<|.d 0)<|.j .b false (.d 3)<|.e<|.c 1)<|.l (.g 2 1<|.d 0)<|.j .b false (.d 5)<|.e<|.c 1]
noncomputable def HB:List S:=[.m (.b 3) .b<|.e<|.c 1,
 .m (.b 5) .b (.e (.c 1))]
noncomputable def aba:List S:=[.d (.d [2,3,4,5])<|.d 1,
 .i Hb HD,
 .i Ha HB,
 .f (.q [(.d 2),(.d 3),(.d 4),(.d 5)])]
noncomputable def XI:Fn:=⟨2,[],6,aba⟩
noncomputable def Vt:List S:=[.d (.e (.g 2 2<|.d 0)<|.d 6)<|.e<|.e true]
noncomputable def Vs:List S:=[.d (.e (.g 2 3<|.d 0)<|.d 6)<|.e<|.e true]
noncomputable def abp:List S:=[.d (.d [2,3,4,5])<|.d 1,
 .j [6] false .b [.d 2,.d 3] Vt,
 .j [6] false .b [(.d 4),(.d 5)] Vs]
noncomputable def X1:Fn:=⟨2,[],7,abp⟩
noncomputable def Hy:X:=.t [.h .d (.d 2)<|.r .b [.g 2 0<|.d 0],.l (.g 2 2<|.d 0)<|.d 2]
noncomputable def Ie:List S:=[.m (.b 2) .a<|.e<|.c 1]
noncomputable def Hx:X:=.t [.h .d (.d 3)<|.r .b [.g 2 1<|.d 0],.l (.g 2 3<|.d 0)<|.d 3]
noncomputable def Ic:List S:=[.m (.b 3) .a<|.e<|.c 1]
noncomputable def Hz:X:=.A [.h .d (.d 2)<|.r .b [.g 2 0<|.d 0],.h .d (.d 3)<|.r .b [.g 2 1<|.d 0]]
noncomputable def AP:List S:=[.d (.d [4,5])<|.q [.d 2,.d 3],
 .i Hy Ie,
 .i Hx Ic,
 .g (.A [.h .f (.d 2)<|.d 4,.h .f (.d 3)<|.d 5]) [.e<|.r .a [.d 1,.E 0 false [.d 4,.d 2,.d 5,.d 3]]] [.m (.b 2) .a<|.e<|.c 1,
 .m (.b 3) .a (.e (.c 1))]]
noncomputable def ab0:List S:=[.d (.b 1)<|.m true [],
 .d (.d [2,3]) (.q [.e<|.c 0,.e<|.c 0]),
 .i Hz AP,
 .f (.z (.d 1))]
noncomputable def YC:Fn:=⟨1,[],6,ab0⟩
noncomputable def Hu:X:=.t [.h .d (.d 13)<|.d 6,.h .d (.j .b false (.d 13)<|.d 12)<|.d 7,.h .a (.l (.g 2 0<|.d 0)<|.j .a false (.d 2)<|.d 13)<|.l (.g 2 1<|.d 0)<|.j .b false (.j .a false (.d 4)<|.d 13)<|.d 12]
noncomputable def H0:List S:=[.m (.b 13) .a<|.e<|.c 1]
noncomputable def H7:List S:=[.d (.b 13)<|.p 15 [.d 9,.d 12],
 .i Hu H0,
 .d (.e (.d 9)<|.d 12) (.d 13),
 .g (.t [(.h .a (.j .d false (.d 8) (.e (.c 2))) (.e (.c 1))),(.h .g (.j .b false (.d 8) (.d 12)) (.d 10)),(.h .i (.j .a false (.d 13) (.l (.d 10) (.j .b false (.d 8) (.d 12)))) (.d 6))]) [.f (.q [(.j .a false (.d 2) (.d 13)),(.j .b false (.j .a false (.d 4) (.d 13)) (.d 12))])] []]
noncomputable def Ht:X:=.t [.h .d (.d 13)<|.d 6,.h .d (.j .b false (.d 13)<|.d 12)<|.d 7,.h .a (.l (.g 2 0<|.d 0)<|.j .b false (.j .b false (.d 3)<|.e<|.c 1)<|.d 13)<|.l (.g 2 1<|.d 0)<|.j .a false (.j .b false (.j .b false (.d 5)<|.e<|.c 1)<|.d 13)<|.d 12]
noncomputable def HY:List S:=[.m (.b 13) .a<|.e<|.c 1]
noncomputable def HZ:List S:=[.d (.b 13)<|.p 15 [.d 10,.d 12],
 .i Ht HY,
 .d (.e (.d 10)<|.d 12) (.d 13),
 .g (.t [(.h .a (.j .d false (.d 8) (.e (.c 2))) (.e (.c 0))),(.h .g (.j .b false (.d 8) (.d 12)) (.d 9)),(.h .i (.j .a false (.d 13) (.l (.d 9) (.j .b false (.d 8) (.d 12)))) (.d 6))]) [.f (.q [(.j .b false (.d 3) (.d 13)),(.j .a false (.j .b false (.d 5) (.d 13)) (.d 12))])] []]
noncomputable def H8:List S:=[.j [12] false .b [.y<|.d 11,.j .a false (.d 11)<|.e<|.c 1,.e<|.c 2] H7,
 .j [12] false .b [(.y (.d 11)),(.j .a false (.d 11) (.e (.c 1))),(.e (.c 2))] HZ]
noncomputable def abV:List S:=[.d (.d [2,3,4,5])<|.d 1,
 .d (.d [6,7]) (.q [.j .b true (.d 3)<|.d 2,.j .b true (.d 5)<|.d 4]),
 .d (.b 8) (.j .b false (.d 6)<|.d 7),
 .d (.d [9,10]) (.q [.B .i [.c 0] [.e<|.c 0],.B .i [.c 0] [.e<|.c 0]]),
 .j [11] false .b [.e<|.c 1,.j .a false (.j .c false (.j .a false (.j .a false (.d 6)<|.d 7)<|.e<|.c 1)<|.e<|.c 2)<|.e<|.c 1] H8,
 .l]
noncomputable def Yx:Fn:=⟨2,[],14,abV⟩
noncomputable def Ho:X:=.h .c (.d 2)<|.m false []
noncomputable def AN:List S:=[.d (.d [3,4,5,6])<|.o 2 5 (.d 0) [.r .l [.d 2]],
 .g (.A [.h .a (.d 3)<|.d 4,.h .a (.d 5)<|.d 6]) [.e<|.o 2 6 (.d 0) [.q [.d 3,.d 4,.d 5,.d 6]]] [.d (.d [7,8])<|.o 2 8 (.d 0) [.q [.d 3,.d 4,.d 5,.d 6]],
 .e (.r .a [.d 2,.q [.d 3,.d 7,.d 5,.d 8]]),
 .e (.r .a [(.d 2),(.q [(.d 7),(.d 4),(.d 8),(.d 6)])])]]
noncomputable def abo:List S:=[.d (.b 2)<|.m true [.d 1],
 .i Ho AN]
noncomputable def X0:Fn:=⟨2,[],9,abo⟩
noncomputable def Vw:List S:=[.d (.e (.d 6)<|.l (.g 2 0<|.d 0)<|.d 8)<|.D (.h .b (.l (.g 2 0<|.d 0)<|.d 8)<|.d 6) (.d 8)<|.y<|.e<|.c 1]
noncomputable def Vv:List S:=[.d (.e (.d 7)<|.l (.g 2 1<|.d 0)<|.d 8)<|.D (.h .b (.l (.g 2 1<|.d 0)<|.d 8)<|.d 7) (.d 8)<|.y<|.e<|.c 1]
noncomputable def Vu:List S:=[.g (.t [.h .a (.l (.d 6)<|.l (.g 2 0<|.d 0)<|.d 8)<|.d 8,.h .i (.r .s [.d 7,.l (.g 2 0<|.d 0)<|.d 8,.y<|.e<|.c 1])<|.e<|.c 0]) [.e<|.r .a [.d 9,.q [.d 8,.l (.d 7)<|.l (.g 2 0<|.d 0)<|.d 8]]] []]
noncomputable def abq:List S:=[.d (.d [2,3,4,5])<|.d 1,
 .d (.d [6,7]) (.q [.B .i [] [],.B .i [] []]),
 .j [8] false .b [.d 2,.d 3] Vw,
 .j [8] false .b [.d 4,.d 5] Vv,
 .d (.b 9) (.m true []),
 .j [8] false .b [.d 2,.d 3] Vu,
 .f (.z (.d 9))]
noncomputable def X2:Fn:=⟨2,[],10,abq⟩
noncomputable def Vr:List S:=[.e<|.r .a [.d 2,.q [.d 3,.d 8,.d 5,.d 9]],
 .d (.d [3,5]) (.q [(.j .a true (.d 8) (.e (.c 1))),(.j .a true (.d 9) (.e (.c 1)))])]
noncomputable def Hl:X:=.h .c (.d 2)<|.m false []
noncomputable def AL:List S:=[.d (.d [3,4,5,6])<|.o 2 5 (.d 0) [.r .l [.d 2]],
 .g (.A [.h .a (.d 3)<|.d 4,.h .a (.d 5)<|.d 6]) [.e<|.o 2 6 (.d 0) [.q [.d 3,.d 4,.d 5,.d 6]]] [.d (.b 7)<|.p 16 [.o 2 10 (.d 0) [.q [.d 3,.d 4,.d 5,.d 6]]],
 .g (.h .a (.d 7)<|.m false []) [.e<|.o 2 9 (.d 0) [.q [.d 3,.d 4,.d 5,.d 6]]] [.j [8,9] true .a [.d 7] Vr,
 .e (.r .a [(.d 2),(.q [(.d 3),(.d 4),(.d 5),(.d 6)])])]]]
noncomputable def abm:List S:=[.d (.b 2)<|.m true [.d 1],
 .i Hl AL]
noncomputable def XY:Fn:=⟨2,[],10,abm⟩
noncomputable def HN:List S:=[.d (.b 9)<|.r .d [.d 7,.l (.g 2 0<|.d 0)<|.d 8,.m true []],
 .e (.r .a [(.d 9),(.d 8)])]
noncomputable def Hj:X:=.t [.h .d (.j .a false (.d 13)<|.d 14)<|.d 4,.h .d (.j .a false (.d 12)<|.d 14)<|.d 6,.h .a (.l (.g 2 0<|.d 0)<|.j .a false (.d 13)<|.d 14)<|.l (.g 2 1<|.d 0)<|.j .a false (.d 12)<|.d 14]
noncomputable def HL:List S:=[.d (.b 15)<|.r .r [.d 15,.r .b [.l (.d 7)<|.l (.g 2 0<|.d 0)<|.j .a false (.d 13)<|.d 14]],
 .m (.b 14) .a (.e (.c 1))]
noncomputable def AK:List S:=[.g (.G<|.o 2 13 (.d 0) [.d 13,.d 12,.d 3,.d 5,.d 7,.d 2]) [.d (.d [14,15])<|.q [.e<|.c 0,.r .b [.d 9]],
 .i Hj HL,
 .d (.b 16) (.q [.d 15,.y<|.d 14,.d 13,.d 12]),
 .g (.A [(.h .h (.d 10) (.e .k)),(.h .d (.d 16) (.d 10))]) [.d (.b 10) (.d 16)] []] []]
noncomputable def HM:List S:=[.d (.b 9)<|.r .s [.d 7,.l (.g 2 1<|.d 0)<|.d 12,.m false []],
 .d (.b 11) (.A [.d 11,.h .c (.d 9)<|.m false []]),
 .g (.h .f (.r .b [.d 9])<|.d 2) [.d (.b 9)<|.m true []] [],
 .j [13] false .a [(.d 9)] AK]
noncomputable def abf:List S:=[.d (.d [3,4,5,6])<|.d 1,
 .d (.b 7) (.B .i [] []),
 .j [8] false .b [.d 3,.d 4] HN,
 .d (.d [10,11]) (.q [.e .k,.e<|.e false]),
 .j [12] false .b [.d 5,.d 6] HM,
 .f (.D (.h .h (.d 10) (.e .k)) (.q [(.e .k),(.d 11)]) (.q [(.q [(.l (.d 10) (.e (.c 2))),(.l (.d 10) (.e (.c 3))),(.y (.l (.d 10) (.e (.c 1))))]),(.d 11)]))]
noncomputable def XP:Fn:=⟨3,[],17,abf⟩
noncomputable def abF:List S:=[.g (.A [.h .a (.d 1)<|.d 3,.h .a (.d 2)<|.d 4,.h .c (.l (.g 2 0<|.d 0)<|.j .b false (.d 1)<|.e<|.c 1)<|.l (.g 2 1<|.d 0)<|.j .b false (.d 2)<|.e<|.c 1]) [.f<|.e<|.e false] [],
 .f (.h .j (.r .b [(.l (.d 5) (.l (.g 2 0 (.d 0)) (.j .b false (.d 1) (.e (.c 1)))))]) (.d 6))]
noncomputable def Yh:Fn:=⟨7,[],7,abF⟩
noncomputable def Hm:X:=.t [.h .f (.d 10)<|.d 4,.h .f (.d 11)<|.d 6,.h .a (.l (.g 2 0<|.d 0)<|.j .b false (.d 10)<|.e<|.c 1)<|.l (.g 2 1<|.d 0)<|.j .b false (.d 11)<|.e<|.c 1]
noncomputable def HO:List S:=[.d (.d [10,11,12])<|.q [.j .b true (.d 10)<|.e<|.c 1,.j .b true (.d 11)<|.e<|.c 1,.j .a true (.d 12)<|.e<|.c 1]]
noncomputable def Hn:X:=.h .c (.d 3)<|.m false []
noncomputable def AM:List S:=[.d (.d [4,5,6,7])<|.o 2 5 (.d 0) [.r .l [.d 3]],
 .g (.A [.h .a (.d 4)<|.d 5,.h .a (.d 6)<|.d 7]) [.e<|.o 2 6 (.d 0) [.q [.d 4,.d 5,.d 6,.d 7]]] [.d (.d [8,9])<|.o 2 12 (.d 0) [.q [.d 4,.d 5,.d 6,.d 7],.d 2],
 .g (.h .e (.d 8)<|.e .k) [.d (.d [10,11,12])<|.d 8,
 .i Hm HO,
 .e (.r .a [.d 3,.q [.d 4,.d 10,.d 6,.d 11]]),
 .e (.r .a [(.d 3),(.q [(.j .a true (.d 10) (.d 12)),(.d 5),(.j .a true (.d 11) (.d 12)),(.d 7)])])] [.g (.d 9) [.e (.o 2 9 (.d 0) [(.q [(.d 4),(.d 5),(.d 6),(.d 7)])])] [.e (.o 2 6 (.d 0) [(.q [(.d 4),(.d 5),(.d 6),(.d 7)])])]]]]
noncomputable def abn:List S:=[.d (.b 3)<|.m true [.d 1],
 .i Hn AM]
noncomputable def XZ:Fn:=⟨3,[],13,abn⟩
noncomputable def abu:List S:=[.g (.h .b (.j .b false (.d 1)<|.e<|.c 1)<|.d 0) [.f<|.l (.d 0)<|.j .a false (.d 1)<|.e<|.c 1] [],
 .g (.h .b (.j .a false (.d 1)<|.e<|.c 1)<|.d 0) [.f<|.j .a false (.l (.d 0)<|.j .b false (.d 1)<|.e<|.c 1)<|.e<|.c 1] [],
 .f (.r .t [(.j .a false (.l (.d 0) (.j .b false (.d 1) (.e (.c 1)))) (.e (.c 1))),(.l (.d 0) (.j .a false (.d 1) (.e (.c 1))))])]
noncomputable def X5:Fn:=⟨2,[],2,abu⟩
noncomputable def Hs:X:=.h .d (.d 5)<|.d 6
noncomputable def HR:List S:=[.d (.b 7)<|.j .c false (.j .a false (.d 5)<|.d 6)<|.e<|.c 2,
 .g (.h .d (.l (.l (.d 0) (.l (.d 1) (.d 7))) (.e (.c 1))) (.l (.d 4) (.e (.c 1)))) [.d (.b 5) (.j .a false (.d 7) (.e (.c 1)))] [.d (.b 6) (.d 7)]]
noncomputable def HS:List S:=[.d (.d [5,6])<|.q [.e<|.c 0,.r .b [.d 1]],
 .i Hs HR,
 .e (.r .a [.d 2,.D (.h .f (.d 5)<|.e<|.c 0) (.l (.d 1)<|.j .b false (.d 5)<|.e<|.c 1)<|.y<|.e<|.c 1]),
 .g (.h .a (.d 5) (.r .b [(.d 1)])) [.e (.r .a [(.d 1),(.d 3)])] [.d (.e (.d 1) (.d 5)) (.d 3)]]
noncomputable def Hr:X:=.h .i (.d 3)<|.e<|.c 0
noncomputable def HQ:List S:=[.e<|.r .a [.d 8,.l (.d 0)<|.d 3],
 .d (.b 3) (.l (.d 2) (.d 3))]
noncomputable def abt:List S:=[.d (.d [1,2])<|.q [.m true [],.m true []],
 .j [3,4] true .c [.d 0] HS,
 .d (.b 8) (.m true []),
 .d (.b 3) (.D (.h .c (.d 1)<|.m false []) (.l (.d 1)<|.y<|.e<|.c 1)<|.y<|.e<|.c 1),
 .i Hr HQ,
 .e (.r .e [.d 8]),
 .f (.z (.d 8))]
noncomputable def X4:Fn:=⟨1,[],9,abt⟩
noncomputable def abk:List S:=[.d (.b 2)<|.E 2 true [.d 0,.d 1],
 .e (.o 2 9 (.d 2) [.o 2 4 (.d 2) []]),
 .f (.o 2 7 (.d 2) [])]
noncomputable def XW:Fn:=⟨2,[],3,abk⟩
noncomputable def abh:List S:=[.d (.b 2)<|.E 2 true [.d 0,.d 1],
 .e (.o 2 11 (.d 2) [.o 2 4 (.d 2) []]),
 .f (.o 2 7 (.d 2) [])]
noncomputable def XT:Fn:=⟨2,[],3,abh⟩
noncomputable def abS:List S:=[.d (.b 3)<|.E 2 true [.d 0,.d 1],
 .e (.o 2 14 (.d 3) [.o 2 4 (.d 3) [],.d 2]),
 .f (.o 2 7 (.d 3) [])]
noncomputable def Yv:Fn:=⟨3,[.c 64],4,abS⟩
noncomputable def ab3:List S:=[.g (.h .a (.d 0)<|.e<|.m<|eH "myers") [.f<|.p 17 [.d 1,.d 2]] [],
 .g (.h .a (.d 0)<|.e<|.m<|eH "patience") [.f<|.p 18 [.d 1,.d 2]] [],
 .g (.h .a (.d 0)<|.e<|.m<|eH "histogram") [.f<|.p 19 [.d 1,.d 2]] [],
 .l]
noncomputable def YF:Fn:=⟨3,[],3,ab3⟩
noncomputable def HU:List S:=[.g (.d 4) [.m (.e (.g 3 2<|.d 0)<|.y<|.e<|.c 1) .a<|.e<|.c 1] [.e<|.r .a [.g 3 2<|.d 0,.e<|.c 0]]]
noncomputable def abI:List S:=[.d (.c 3 0<|.d 0)<|.d 1,
 .d (.c 3 1<|.d 0) (.d 3),
 .d (.c 3 2<|.d 0) (.m true [.e<|.c 0]),
 .j [4] false .a [(.d 2)] HU]
noncomputable def Yl:Fn:=⟨4,[],5,abI⟩
noncomputable def abW:List S:=[.f<|.j .a false (.d 1)<|.r .u [.w (.g 3 2<|.d 0) (.e .k)<|.d 1]]
noncomputable def Yy:Fn:=⟨2,[],2,abW⟩
noncomputable def ab1:List S:=[.d (.b 2)<|.o 3 21 (.d 0) [.d 1],
 .f (.t [(.h .f (.d 1) (.e (.c 0))),(.h .a (.l (.g 3 0 (.d 0)) (.j .b false (.d 2) (.e (.c 1)))) (.l (.g 3 0 (.d 0)) (.j .b false (.j .a false (.d 2) (.l (.g 3 2 (.d 0)) (.d 1))) (.e (.c 1)))))])]
noncomputable def YD:Fn:=⟨2,[],3,ab1⟩
noncomputable def ab2:List S:=[.d (.b 2)<|.o 3 21 (.d 0) [.d 1],
 .f (.t [(.h .d (.j .a false (.d 1) (.e (.c 1))) (.r .b [(.g 3 2 (.d 0))])),(.h .a (.l (.g 3 0 (.d 0)) (.d 2)) (.l (.g 3 0 (.d 0)) (.j .a false (.d 2) (.l (.g 3 2 (.d 0)) (.d 1)))))])]
noncomputable def YE:Fn:=⟨2,[],3,ab2⟩
noncomputable def qg:List S:=[.m (.e (.g 3 2<|.d 0)<|.d 2) .a<|.l (.g 3 2<|.d 0)<|.d 1,
 .d (.e (.g 3 2<|.d 0)<|.d 1) (.e<|.c 0),
 .f (.d 2)]
noncomputable def XQ:Fn:=⟨3,[],3,qg⟩
noncomputable def abY:List S:=[.d (.b 2)<|.l (.g 3 1<|.d 0)<|.j .b false (.j .a false (.o 3 21 (.d 0) [.d 1])<|.l (.g 3 2<|.d 0)<|.d 1)<|.e<|.c 1,
 .f (.t [(.r .w [(.d 2)]),(.h .a (.r .i [(.d 2),(.e (.d [32,9,10,13,11,12]))]) (.e (.d [])))])]
noncomputable def YA:Fn:=⟨2,[],3,abY⟩
noncomputable def Vq:List S:=[.d (.b 1)<|.j .a false (.j .a false (.d 1)<|.H false (.e<|.e true)<|.d 3)<|.H false (.e<|.e false)<|.r .m [.h .d (.j .a false (.d 2)<|.e<|.c 1)<|.r .b [.g 3 2<|.d 0]]]
noncomputable def abl:List S:=[.d (.b 1)<|.m false [],
 .j [2,3] true .c [.g 3 2<|.d 0] Vq,
 .f (.d 1)]
noncomputable def XX:Fn:=⟨1,[],4,abl⟩
noncomputable def Hg:X:=.o 3 22 (.d 0) [.d 1]
noncomputable def HI:List S:=[.d (.b 1)<|.o 3 24 (.d 0) [.d 1,.j .b false (.d 1)<|.e<|.c 1]]
noncomputable def Hf:X:=.o 3 23 (.d 0) [.d 1]
noncomputable def HH:List S:=[.d (.b 1)<|.o 3 24 (.d 0) [.d 1,.j .a false (.d 1)<|.e<|.c 1],
 .g (.h .f (.l (.g 3 2 (.d 2)) (.d 1)) (.e (.c 0))) [.d (.b 5) (.d 1)] []]
noncomputable def Hh:X:=.h .c (.d 3)<|.l (.g 3 2<|.d 0)<|.d 1
noncomputable def HJ:List S:=[.d (.b 3)<|.l (.g 3 2<|.d 0)<|.d 1,
 .i Hg HI,
 .d (.b 4) (.d 1),
 .d (.b 5) (.D (.h .f (.l (.g 3 2<|.d 2)<|.d 1)<|.e<|.c 0) (.d 1)<|.y<|.e<|.c 1),
 .i Hf HH]
noncomputable def He:X:=.h .f (.d 1)<|.d 5
noncomputable def HF:List S:=[.d (.b 1)<|.o 3 24 (.d 0) [.d 1,.j .b false (.d 1)<|.e<|.c 1]]
noncomputable def Vm:X:=.t [.h .f (.d 1)<|.d 4,.G<|.o 3 25 (.d 0) [.d 1]]
noncomputable def Vo:List S:=[.d (.b 1)<|.o 3 24 (.d 0) [.d 1,.j .b false (.d 1)<|.e<|.c 1]]
noncomputable def Hc:X:=.h .d (.d 1)<|.d 6
noncomputable def HE:List S:=[.d (.b 1)<|.o 3 24 (.d 0) [.d 1,.j .a false (.d 1)<|.e<|.c 1]]
noncomputable def abc:List S:=[.d (.d [3,4,5])<|.q [.e<|.c 0,.d 1,.y<|.e<|.c 1],
 .i Hh HJ,
 .g (.h .i (.d 5)<|.e<|.c 0) [.i He HF,
 .f (.d 1)] [],
 .d (.b 6) (.d 1),
 .i Vm Vo,
 .g (.G<|.o 3 25 (.d 0) [.d 1]) [.i Hc HE] [],
 .f (.d 1)]
noncomputable def XM:Fn:=⟨3,[],7,abc⟩
noncomputable def Hi:X:=.h .d (.d 2)<|.r .b [.g 3 2<|.d 0]
noncomputable def HK:List S:=[.g (.h .f (.l (.g 3 2<|.d 0)<|.d 2)<|.e<|.c 0) [.d (.b 2)<|.o 3 27 (.d 0) [.d 2,.d 1]] [],
 .m (.b 2) .a (.e (.c 1))]
noncomputable def abd:List S:=[.d (.b 2)<|.e<|.c 0,
 .i Hi HK]
noncomputable def XN:Fn:=⟨2,[],3,abd⟩
noncomputable def Vn:List S:=[.e<|.o 2 6 (.d 3) [.o 0 1 (.d 4) []]]
noncomputable def KG:List S:=[.d (.b 3)<|.E 2 true [.d 1,.d 2],
 .j [4] false .a [.d 0] Vn,
 .d (.b 5) (.E 3 true [.g 2 0<|.d 3,.g 2 2<|.d 3,.d 1]),
 .d (.b 6) (.E 3 true [.g 2 1<|.d 3,.g 2 3<|.d 3,.d 2]),
 .e (.o 3 28 (.d 5) [.d 6]),
 .e (.o 3 28 (.d 6) [.d 5]),
 .d (.c 2 2<|.d 3) (.o 3 26 (.d 5) []),
 .d (.c 2 3<|.d 3) (.o 3 26 (.d 6) []),
 .f (.o 2 7 (.d 3) [])]
noncomputable def XJ:Fn:=⟨3,[],7,KG⟩
noncomputable def abK:List S:=[.d (.c 4 0<|.d 0)<|.d 1,
 .d (.c 4 1<|.d 0) (.d 2),
 .d (.c 4 2<|.d 0) (.d 3),
 .d (.c 4 3<|.d 0) (.d 4),
 .d (.c 4 4<|.d 0) (.d 5),
 .d (.c 4 5 (.d 0)) (.d 6)]
noncomputable def Yn:Fn:=⟨7,[.d []],7,abK⟩
noncomputable def abQ:List S:=[.f<|.D (.h .f (.g 4 1<|.d 0)<|.e<|.c 0) (.j .b false (.g 4 0<|.d 0)<|.e<|.c 1)<|.g 4 0<|.d 0]
noncomputable def Yt:Fn:=⟨1,[],1,abQ⟩
noncomputable def abb:List S:=[.f<|.u (.s 1) [0,1] true .a [.g 4 4<|.d 0] [.A [.h .a (.s 0)<|.e<|.d [32],.h .a (.s 0)<|.d 1]]]
noncomputable def XK:Fn:=⟨2,[],2,abb⟩
noncomputable def Hw:X:=.t [.h .d (.d 1)<|.r .b [.g 4 4<|.d 0],.h .a (.l (.l (.g 4 4<|.d 0)<|.d 1)<|.e<|.c 0)<|.e<|.d [32]]
noncomputable def Ib:List S:=[.m (.b 1) .a<|.e<|.c 1]
noncomputable def Hv:X:=.t [.h .d (.d 2)<|.j .b false (.r .b [.g 4 4<|.d 0])<|.d 1,.h .a (.l (.l (.g 4 4<|.d 0)<|.j .b false (.j .b false (.r .b [.g 4 4<|.d 0])<|.e<|.c 1)<|.d 2)<|.e<|.c 0)<|.e<|.d [32]]
noncomputable def Ia:List S:=[.m (.b 2) .a<|.e<|.c 1]
noncomputable def abZ:List S:=[.d (.b 1)<|.e<|.c 0,
 .i Hw Ib,
 .d (.b 2) (.e<|.c 0),
 .i Hv Ia,
 .f (.q [(.d 1),(.d 2)])]
noncomputable def YB:Fn:=⟨1,[],3,abZ⟩
noncomputable def rC:List S:=[.g (.h .a (.d 4)<|.e<|.d [45]) [.e<|.r .a [.d 3,.q [.e<|.d [43],.d 5]]] [.g (.h .a (.d 4)<|.e<|.d [43]) [.e<|.r .a [.d 2,.q [.e<|.d [45],.d 5]]] [.e<|.r .c [.d 1,.d 2],
 .e (.r .c [.d 1,.d 3]),
 .e (.r .a [.d 1,.q [.d 4,.d 5]]),
 .d (.d [2,3]) (.q [(.m true []),(.m true [])])]]]
noncomputable def aa9:List S:=[.d (.d [1,2,3])<|.q [.m true [],.m true [],.m true []],
 .j [4,5] true .a [.j .a false (.g 4 4<|.d 0)<|.m false [.q [.e<|.d [32],.e .k]]] rC,
 .f (.E 4 false [(.g 4 2 (.d 0)),(.g 4 3 (.d 0)),(.g 4 0 (.d 0)),(.g 4 1 (.d 0)),(.w (.d 1) (.e .k) (.y (.e (.c 1)))),(.g 4 5 (.d 0))])]
noncomputable def XH:Fn:=⟨1,[],6,aa9⟩
noncomputable def abM:List S:=[.d (.c 5 0<|.d 0)<|.d 1,
 .d (.c 5 1<|.d 0) (.d 2),
 .d (.c 5 2<|.d 0) (.d 3),
 .d (.c 5 3<|.d 0) (.d 4),
 .d (.c 5 4<|.d 0) (.d 5),
 .d (.c 5 5<|.d 0) (.d 6),
 .d (.c 5 6<|.d 0) (.r .o [.d 7]),
 .d (.c 5 7<|.d 0) (.d 8),
 .d (.c 5 8<|.d 0) (.d 9),
 .d (.c 5 9 (.d 0)) (.d 10)]
noncomputable def Yo:Fn:=⟨11,[.k,.k,.k,.k,.l [],.m<|eH "modify",.k,.k],11,abM⟩
noncomputable def HX:List S:=[.d (.b 3)<|.w (.l (.d 0)<|.d 2) (.e .k)<|.e<|.c 1,
 .g (.A [(.r .f [(.d 3)]),(.h .g (.d 3) (.q [(.e (.d [95])),(.e (.d [36]))]))]) [.f (.r .h [(.w (.l (.d 0) (.d 2)) (.e .k) (.e (.c 80)))])] []]
noncomputable def abT:List S:=[.j [2] false .b [.j .b false (.d 1)<|.e<|.c 1,.y<|.e<|.c 1,.y<|.e<|.c 1] HX,
 .f (.e (.d []))]
noncomputable def Yw:Fn:=⟨2,[],4,abT⟩
noncomputable def HW:List S:=[.e<|.r .c [.d 6,.u (.q [.e<|.d [32],.s 0]) [0] false .a [.w (.d 0) (.d 7)<|.g 0 0<|.d 9] []],
 .e (.r .c [.d 6,.u (.q [.e<|.d [45],.s 0]) [0] false .a [.w (.d 0) (.g 0 0<|.d 9)<|.g 0 1<|.d 9] []]),
 .e (.r .c [.d 6,.u (.q [.e<|.d [43],.s 0]) [0] false .a [.w (.d 1) (.g 0 2<|.d 9)<|.g 0 3<|.d 9] []]),
 .m (.b 8) .a (.j .a false (.j .b false (.j .b false (.g 0 3<|.d 9)<|.g 0 2<|.d 9)<|.g 0 1<|.d 9)<|.g 0 0<|.d 9),
 .d (.b 7) (.g 0 1 (.d 9))]
noncomputable def abR:List S:=[.d (.b 4)<|.r .t [.e<|.c 0,.j .b false (.g 0 0<|.l (.d 2)<|.e<|.c 0)<|.d 3],
 .d (.b 5) (.r .r [.r .b [.d 0],.j .a false (.g 0 1<|.l (.d 2)<|.y<|.e<|.c 1)<|.d 3]),
 .d (.d [6,7,8]) (.q [.m true [],.d 4,.e<|.c 0]),
 .j [9] false .a [.d 2] HW,
 .e (.r .c [.d 6,.u (.q [.e<|.d [32],.s 0]) [0] false .a [.w (.d 0) (.d 7)<|.d 5] []]),
 .d (.b 10) (.j .b false (.g 0 2<|.l (.d 2)<|.e<|.c 0)<|.j .b false (.g 0 0<|.l (.d 2)<|.e<|.c 0)<|.d 4),
 .d (.d [11,12]) (.q [.j .b true (.d 5)<|.d 4,.j .a true (.j .b false (.d 5)<|.d 4)<|.d 8]),
 .f (.E 4 false [(.j .a false (.d 4) (.r .m [(.h .f (.d 11) (.e (.c 0)))])),(.d 11),(.j .a false (.d 10) (.r .m [(.h .f (.d 12) (.e (.c 0)))])),(.d 12),(.z (.d 6)),(.p 34 [(.d 0),(.d 4)])])]
noncomputable def Yu:Fn:=⟨4,[],13,abR⟩
noncomputable def HV:List S:=[.g (.t [.h .c (.d 7)<|.m false [],.h .j (.j .b false (.g 0 0<|.d 8)<|.g 0 1<|.l (.l (.d 7)<|.y<|.e<|.c 1)<|.y<|.e<|.c 1)<|.j .a false (.j .e false (.e<|.c 2)<|.d 2)<|.d 3]) [.e<|.r .a [.l (.d 7)<|.y<|.e<|.c 1,.d 8]] [.e<|.r .a [.d 7,.m true [.d 8]]]]
noncomputable def abO:List S:=[.d (.d [5,6])<|.q [.p 0 [.d 0],.p 0 [.d 1]],
 .d (.b 7) (.m true []),
 .j [8] false .a [.p 29 [.p 20 [.d 4,.d 5,.d 6],.d 5,.d 6]] HV,
 .f (.u (.p 35 [(.d 5),(.d 6),(.s 0),(.d 2)]) [0] false .a [(.d 7)] [])]
noncomputable def Yr:Fn:=⟨5,[.c 3,.c 0,.m<|eH "myers"],9,abO⟩
noncomputable def abJ:List S:=[.d (.b 4)<|.w (.g 4 4<|.d 1) (.d 2)<|.j .b false (.r .b [.g 4 4<|.d 1])<|.d 3,
 .d (.b 5) (.E 4 false [.g 4 0<|.d 1,.g 4 1<|.d 1,.g 4 2<|.d 1,.g 4 3<|.d 1,.d 4]),
 .d (.c 6 0<|.d 0) (.o 4 31 (.d 5) [.e<|.d [45]]),
 .d (.c 6 1 (.d 0)) (.o 4 31 (.d 5) [(.e (.d [43]))])]
noncomputable def Ym:Fn:=⟨4,[.c 0,.c 0],6,abJ⟩
noncomputable def abX:List S:=[.d (.b 4)<|.j .a false (.d 3)<|.r .b [.g 6 0<|.d 0],
 .g (.A [.h .d (.d 3)<|.d 2,.h .f (.d 4)<|.r .b [.d 1],.h .c (.w (.d 1) (.d 3)<|.d 4)<|.g 6 0<|.d 0]) [.f<|.e<|.e false] [],
 .g (.t [.h .c (.g 6 1<|.d 0)<|.m false [],.h .c (.w (.l (.g 6 1<|.d 0)<|.y<|.e<|.c 1) (.y<|.e<|.c 1)<|.e .k)<|.e<|.d [10],.h .d (.d 4)<|.r .b [.d 1]]) [.f<|.e<|.e false] [],
 .f (.A [(.h .a (.g 6 1 (.d 0)) (.m false [])),(.h .a (.d 3) (.e (.c 0))),(.h .a (.w (.l (.d 1) (.j .b false (.d 3) (.e (.c 1)))) (.y (.e (.c 1))) (.e .k)) (.e (.d [10])))])]
noncomputable def Yz:Fn:=⟨4,[],5,abX⟩
noncomputable def Vp:List S:=[.g (.o 6 37 (.d 0) [.d 1,.d 2,.j .a false (.d 3)<|.d 6]) [.f<|.j .a false (.d 3)<|.d 6] [],
 .g (.t [(.h .f (.d 6) (.e (.c 0))),(.o 6 37 (.d 0) [(.d 1),(.d 2),(.j .b false (.d 3) (.d 6))])]) [.f (.j .b false (.d 3) (.d 6))] []]
noncomputable def Cm:List S:=[.d (.b 5)<|.j .a false (.r .b [.d 1])<|.r .n [.d 3],
 .g (.h .e (.d 4)<|.e .k) [.d (.b 5)<|.r .r [.d 5,.d 4]] [],
 .g (.h .a (.g 6 0<|.d 0)<|.m false []) [.d (.b 5)<|.e<|.c 0] [],
 .j [6] false .b [.j .a false (.d 5)<|.e<|.c 1] Vp,
 .f (.e .k)]
noncomputable def XS:Fn:=⟨5,[],7,Cm⟩
noncomputable def Cp:List S:=[.g (.h .b (.e<|.e true)<|.d 5) [.f<|.o 6 38 (.d 0) [.d 1,.d 2,.d 3,.d 4]] [],
 .d (.b 6) (.D (.l (.d 5)<|.e<|.c 0) (.e<|.c 0)<|.j .b false (.r .b [.d 1])<|.r .b [.g 6 0<|.d 0]),
 .g (.t [.h .a (.d 5)<|.q [.e<|.e true,.e<|.e true],.h .c (.r .b [.g 6 0<|.d 0])<|.r .b [.d 1]]) [.f<|.e .k] [],
 .g (.t [.h .e (.d 4)<|.e .k,.h .f (.r .n [.j .b false (.d 6)<|.d 3])<|.d 4]) [.f<|.e .k] [],
 .f (.D (.t [(.h .i (.d 6) (.e (.c 0))),(.o 6 37 (.d 0) [(.d 1),(.d 2),(.d 6)])]) (.d 6) (.e .k))]
noncomputable def Yq:Fn:=⟨6,[],7,Cp⟩
noncomputable def abP:List S:=[.d (.d [2,3])<|.o 4 32 (.d 0) [],
 .g (.t [.h .a (.d 2)<|.e<|.c 0,.h .a (.d 3)<|.e<|.c 0]) [.f<|.m false [.q [.e<|.c 0,.e<|.c 0,.q [.e<|.e false,.e<|.e false]]]] [],
 .d (.b 4) (.m true [.q [.e<|.c 0,.e<|.c 0,.q [.h .j (.g 4 0<|.d 0)<|.e<|.c 1,.h .a (.d 3)<|.e<|.c 0]]]),
 .g (.h .h (.d 1)<|.e .k) [.f<|.z<|.d 4] [],
 .l,
 .l,
 .l,
 .l]
noncomputable def Ys:Fn:=⟨2,[],6,abP⟩
noncomputable def VB:List S:=[.d (.d [14,15])<|.q [.E 6 false [.d 9,.d 11,.d 12],.j .a true (.j .a false (.o 4 30 (.d 9) [])<|.d 11)<|.d 7],
 .d (.b 10) (.p 39 [.d 14,.d 4,.d 6,.d 15,.d 2,.d 13]),
 .g (.h .e (.d 10) (.e .k)) [.q] []]
noncomputable def AQ:List S:=[.d (.b 10)<|.e .k,
 .j [11,12,13] true .a [.p 40 [.d 9,.d 3]] VB,
 .g (.h .h (.d 10)<|.e .k) [.n 7<|.d 8] [],
 .e (.r .c [.d 5,.w (.d 4) (.d 6)<|.d 10]),
 .e (.r .c [.d 5,.g 6 1<|.d 14]),
 .d (.b 6) (.j .a false (.d 10)<|.r .b [.g 6 0<|.d 14]),
 .d (.b 7) (.j .b false (.j .b false (.d 10) (.o 4 30 (.d 9) [])) (.d 11))]
noncomputable def KM:List S:=[.d (.d [4,5,6,7])<|.q [.p 0 [.d 0],.m true [],.e<|.c 0,.e<|.c 0],
 .j [8,9] true .c [.d 1] AQ,
 .f (.r .j [(.e (.d [])),(.j .a false (.d 5) (.w (.d 4) (.d 6) (.e .k)))])]
noncomputable def YG:Fn:=⟨4,[.k,.k],16,KM⟩
noncomputable def abe:List S:=[.g (.h .a (.g 5 7<|.d 0)<|.e<|.m<|eH "copy") [.l] [],
 .d (.b 1) (.g 5 9<|.d 0),
 .g (.t [.h .e (.d 1)<|.e .k,.h .c (.d 1)<|.e<|.m<|eH "differ"]) [.g (.h .h (.l (.d 1)<|.e<|.c 1)<|.e .k) [.l] [],
 .d (.b 1) (.q [(.l (.d 1) (.e (.c 1))),(.l (.d 1) (.e (.c 0)))])] [],
 .d (.b 2) (.r .s [.B .s [.m<|eH "new",.m<|eH "deleted"] [.e<|.m<|eH "deleted",.e<|.m<|eH "new"],.g 5 7<|.d 0,.g 5 7<|.d 0]),
 .f (.E 5 false [(.g 5 1 (.d 0)),(.g 5 0 (.d 0)),(.g 5 3 (.d 0)),(.g 5 2 (.d 0)),(.g 5 5 (.d 0)),(.g 5 4 (.d 0)),(.u (.o 4 33 (.s 0) []) [0] false .a [(.g 5 6 (.d 0))] []),(.d 2),(.g 5 8 (.d 0)),(.d 1)])]
noncomputable def XO:Fn:=⟨1,[],3,abe⟩
noncomputable def VA:List S:=[.d (.b 2)<|.j .d false (.j .a false (.j .e false (.d 2)<|.e<|.c 31)<|.d 3)<|.e<|.c 1000003]
noncomputable def abD:List S:=[.d (.d [1,2])<|.q [.u (.r .m [.s 0]) [0] false .a [.w (.d 0) (.e .k)<|.e<|.c 48] [],.e<|.c 7],
 .j [3] false .a [.d 1] VA,
 .f (.B .s [(.m (eH "cells")),(.m (eH "mixed"))] [(.K true (.d 1)),(.d 2)])]
noncomputable def Ye:Fn:=⟨1,[],4,abD⟩
noncomputable def abC:List S:=[.g (.h .c (.l (.d 0)<|.e<|.m<|eH "cells")<|.m false []) [.f<|.j .d false (.r .l [.l (.d 0)<|.e<|.m<|eH "cells"])<|.d 1] [],
 .d (.e (.d 0)<|.e<|.m<|eH "mixed") (.j .d false (.j .a false (.j .e false (.l (.d 0)<|.e<|.m<|eH "mixed")<|.e<|.c 16807)<|.e<|.c 11)<|.e<|.c 2147483647),
 .f (.j .d false (.j .c false (.l (.d 0) (.e (.m (eH "mixed")))) (.e (.c 64))) (.d 1))]
noncomputable def Yd:Fn:=⟨2,[],2,abC⟩
noncomputable def abz:List S:=[.f<|.j .a false (.r .k [.m false [.j .a false (.e<|.c 97)<|.p 44 [.d 0,.e<|.c 4]]])<|.e<|.d [10]]
noncomputable def Ya:Fn:=⟨1,[],1,abz⟩
noncomputable def abw:List S:=[.f<|.u (.p 45 [.d 0]) [0] false .b [.p 44 [.d 0,.e<|.c 8]] []]
noncomputable def X7:Fn:=⟨1,[],1,abw⟩
noncomputable def Vx:List S:=[.d (.b 4)<|.p 44 [.d 0,.j .a false (.r .b [.d 2])<|.e<|.c 1],
 .d (.b 2) (.j .a false (.j .a false (.w (.d 2) (.e .k) (.d 4)) (.m false [(.p 45 [(.d 0)])])) (.w (.d 2) (.d 4) (.e .k)))]
noncomputable def abv:List S:=[.d (.b 2)<|.u (.s 0) [0] false .a [.d 1] [.h .f (.p 44 [.d 0,.e<|.c 4])<|.e<|.c 0],
 .j [3] false .b [.p 44 [.d 0,.e<|.c 3]] Vx,
 .f (.d 2)]
noncomputable def X6:Fn:=⟨2,[],5,abv⟩
noncomputable def Vz:List S:=[.d (.b 3)<|.p 44 [.d 0,.j .a false (.r .b [.d 1])<|.e<|.c 1],
 .g (.h .a (.p 44 [(.d 0),(.e (.c 2))]) (.e (.c 0))) [.d (.b 1) (.j .a false (.j .a false (.w (.d 1) (.e .k) (.d 3)) (.m false [(.p 45 [(.d 0)])])) (.w (.d 1) (.d 3) (.e .k)))] [.d (.b 1) (.j .a false (.w (.d 1) (.e .k) (.d 3)) (.w (.d 1) (.j .a false (.d 3) (.e (.c 1))) (.e .k)))]]
noncomputable def aby:List S:=[.j [2] false .b [.p 44 [.d 0,.e<|.c 4]] Vz,
 .f (.d 1)]
noncomputable def X':Fn:=⟨2,[],4,aby⟩
noncomputable def abx:List S:=[.d (.b 2)<|.r .j [.e<|.d [],.d 1],
 .f (.D (.h .a (.p 44 [(.d 0),(.e (.c 4))]) (.e (.c 0))) (.w (.d 2) (.e .k) (.y (.e (.c 1)))) (.d 2))]
noncomputable def X9:Fn:=⟨2,[],3,abx⟩
noncomputable def abA:List S:=[.d (.b 1)<|.l (.r .g [.d 0,.e<|.d [10]])<|.y<|.e<|.c 1,
 .f (.D (.h .c (.d 1) (.e (.d []))) (.m false [(.d 1)]) (.m false []))]
noncomputable def Yb:Fn:=⟨1,[],2,abA⟩
noncomputable def Vy:List S:=[.g (.A [.h .h (.d 9)<|.e .k,.h .d (.r .n [.j .b false (.d 10)<|.d 3])<|.r .n [.j .b false (.d 9)<|.d 3],.h .a (.j .b false (.d 10)<|.d 3)<|.j .b false (.d 3)<|.d 9]) [.d (.b 9)<|.d 10] []]
noncomputable def Cn:List S:=[.d (.b 6)<|.A [.h .a (.l (.l (.g 4 4<|.d 1)<|.e<|.c 0)<|.e<|.c 0)<|.e<|.d [32],.h .a (.l (.l (.g 4 4<|.d 1)<|.y<|.e<|.c 1)<|.e<|.c 0)<|.e<|.d [32]],
 .d (.b 7) (.u (.s 0) [0] false .b [.d 4,.j .a false (.j .b false (.r .b [.d 0])<|.r .b [.d 2])<|.e<|.c 1] [.h .a (.w (.d 0) (.s 0)<|.j .a false (.s 0)<|.r .b [.d 2])<|.d 2]),
 .d (.b 8) (.u (.s 1) [0,1] true .a [.g 4 4<|.d 1] [.h .c (.s 0)<|.e<|.d [45]]),
 .g (.t [.h .c (.d 8)<|.m false [],.h .c (.w (.l (.d 8)<|.y<|.e<|.c 1) (.y<|.e<|.c 1)<|.e .k)<|.e<|.d [10]]) [.d (.b 7)<|.u (.s 0) [0] false .a [.d 7] [.h .a (.j .a false (.s 0)<|.r .b [.d 2])<|.r .b [.d 0]]] [],
 .g (.h .c (.d 8)<|.m false []) [.d (.b 7)<|.u (.s 0) [0] false .a [.d 7] [.A [.h .a (.s 0)<|.e<|.c 0,.h .a (.w (.l (.d 0)<|.j .b false (.s 0)<|.e<|.c 1) (.y<|.e<|.c 1)<|.e .k)<|.e<|.d [10]]]] [],
 .g (.h .a (.d 2)<|.m false []) [.d (.b 7)<|.u (.s 0) [0] false .a [.d 7] [.h .a (.s 0)<|.d 3]] [],
 .g (.t [.d 6,.h .a (.g 4 0<|.d 1)<|.e<|.c 1]) [.d (.b 7)<|.u (.s 0) [0] false .a [.d 7] [.h .a (.s 0)<|.e<|.c 0]] [],
 .g (.t [.d 6,.h .c (.l (.l (.g 4 4<|.d 1)<|.y<|.e<|.c 1)<|.e<|.c 0)<|.e<|.d [32]]) [.d (.b 7)<|.u (.s 0) [0] false .a [.d 7] [.h .a (.j .a false (.s 0)<|.r .b [.d 2])<|.r .b [.d 0]]] [],
 .g (.h .e (.d 5)<|.e .k) [.d (.b 7)<|.u (.s 0) [0] false .a [.d 7] [.h .j (.r .n [.j .b false (.s 0)<|.d 3])<|.d 5]] [],
 .d (.b 9) (.e .k),
 .j [10] false .a [.d 7] Vy,
 .f (.d 9)]
noncomputable def X8:Fn:=⟨6,[],11,Cn⟩
noncomputable def HT:List S:=[.d (.b 8)<|.u (.s 1) [0,1] true .a [.g 4 4<|.d 7] [.h .c (.s 0)<|.e<|.d [43]],
 .d (.b 9) (.D (.h .c (.d 8)<|.m false []) (.j .b false (.g 4 0<|.d 7)<|.e<|.c 1)<|.g 4 0<|.d 7),
 .d (.b 10) (.p 51 [.d 0,.d 7,.d 8,.j .a false (.d 9)<|.d 5,.d 4,.d 2]),
 .g (.h .h (.d 10)<|.e .k) [.f<|.d 6] [],
 .d (.b 3) (.j .a false (.j .a false (.d 3)<|.w (.d 0) (.d 4)<|.d 10)<|.u (.s 1) [0,1] true .a [.g 4 4<|.d 7] [.h .c (.s 0)<|.e<|.d [45]]),
 .d (.d [4,5]) (.q [(.j .a false (.d 10) (.r .b [(.d 8)])),(.j .b false (.d 10) (.d 9))])]
noncomputable def abE:List S:=[.d (.d [3,4,5])<|.q [.m false [],.e<|.c 0,.e<|.c 0],
 .j [6,7] true .c [.d 1] HT,
 .f (.r .j [(.e (.d [])),(.j .a false (.d 3) (.w (.d 0) (.d 4) (.e .k)))])]
noncomputable def Yf:Fn:=⟨3,[],11,abE⟩
noncomputable def abB:List S:=[.d (.b 3)<|.e .k,
 .o [.d (.b 3)<|.p 41 [.d 0,.d 1,.d 2]] 7 4 [.d (.b 3)<|.g 7 0<|.d 4],
 .f (.d 3)]
noncomputable def Yc:Fn:=⟨3,[],5,abB⟩
noncomputable def Co:List S:=[.d (.b 1)<|.p 43 [.d 0],
 .d (.b 2) (.p 46 [.d 1]),
 .d (.b 3) (.p 47 [.d 1,.d 2]),
 .d (.d [4,5]) (.q [.p 49 [.d 1,.d 2],.p 49 [.d 1,.d 3]]),
 .d (.d [6,7]) (.q [.p 44 [.d 1,.e<|.c 4],.p 44 [.d 1,.e<|.c 3]]),
 .d (.b 8) (.l (.m false [.e<|.m<|eH "myers",.e<|.m<|eH "patience",.e<|.m<|eH "histogram"])<|.p 44 [.d 1,.e<|.c 3]),
 .d (.b 9) (.p 36 [.d 4,.d 5,.d 6,.d 7,.d 8]),
 .d (.b 10) (.g 5 6<|.p 42 [.E 5 false [.e<|.d [102],.e<|.d [102],.e .k,.e .k,.e .k,.e .k,.d 9]]),
 .g (.A [.h .c (.p 41 [.d 4,.d 9])<|.d 5,.h .c (.p 41 [.d 5,.d 10])<|.d 4]) [.f<|.e<|.e false] [],
 .d (.b 9) (.p 36 [.d 4,.d 5,.j .a false (.e<|.c 1)<|.p 44 [.d 1,.e<|.c 3],.e<|.c 0,.d 8]),
 .d (.b 11) (.p 49 [.d 1,.p 48 [.d 1,.d 2]]),
 .d (.b 12) (.l (.m false [.e .k,.e .k,.e<|.c 0,.e<|.c 1,.e<|.c 2])<|.p 44 [.d 1,.e<|.c 5]),
 .d (.b 13) (.p 52 [.j .a false (.u (.j .a false (.s 0)<|.e<|.d [10]) [0] false .a [.w (.r .g [.d 11,.e<|.d [10]]) (.e .k)<|.y<|.e<|.c 1] [])<|.p 50 [.d 11],.d 9,.d 12]),
 .f (.F (.p 53 [(.d 11),(.d 9),(.d 12)]) (.d 13))]
noncomputable def Yg:Fn:=⟨1,[],14,Co⟩
noncomputable def F1:List<|Nat×Fn:=[(0,X3),(1000,Yp),(1,XR),(1001,Yk),(2,XV),(3,XU),(1002,Yj),(4,XG),(5,XI),(6,X1),(7,YC),(8,Yx)]
noncomputable def F0:List<|Nat×Fn:=[(9,X0),(10,X2),(11,XY),(12,XP),(13,Yh),(14,XZ),(15,X5),(16,X4),(17,XW),(18,XT),(19,Yv),(20,YF)]
noncomputable def FZ:List<|Nat×Fn:=[(1003,Yl),(21,Yy),(22,YD),(23,YE),(24,XQ),(25,YA),(26,XX),(27,XM),(28,XN),(29,XJ),(1004,Yn),(30,Yt)]
noncomputable def FY:List<|Nat×Fn:=[(31,XK),(32,YB),(33,XH),(1005,Yo),(34,Yw),(35,Yu),(36,Yr),(1006,Ym),(37,Yz),(38,XS),(39,Yq),(40,Ys)]
noncomputable def FX:List<|Nat×Fn:=[(41,YG),(42,XO),(43,Ye),(44,Yd),(45,Ya),(46,X7),(47,X6),(48,X'),(49,X9),(50,Yb),(51,X8),(52,Yf)]
noncomputable def FW:List<|Nat×Fn:=[(53,Yc),(54,Yg)]
noncomputable def FV:List<|Nat×Fn:=F1++F0++FZ++FY++FX++FW
noncomputable def prog(f:Nat):Option Fn:=FV.lookup f
end bc.P
end
section
open PySem PySem.W PyProof.Rows PySem.SeqAt PySem.MeetsSeq
namespace bc
def E3:Slot "bytes" (cmpInfo .Eq).2.2 "bytes.__eq__":=
 .of (owner:="bytes") (n:="__eq__") (by refine U (oJ _ _)<|U oM ?_;kernel_rfl) (by decide+kernel) (by decide+kernel) (by decide+kernel)
  (by first|exact .inl (by decide+kernel)|exact .inr<|by decide+kernel) (by refine U (nw _ _) ?_;kernel_rfl)
def IB a b u:Gives (Builtin.«int.__eq__» ⟨[.bool a,.bytes b u],[]⟩)<|.val<|Lv:=
 .of_wp λM A E s Q h=>by obtain⟨c,g,d,t,os⟩:=s;have f:=F.sub_bytes_int;wp_walk;exact aO _ V h
def Kl b u a:Gives (Builtin.«bytes.__eq__» ⟨[.bytes b u,.bool a],[]⟩)<|.val<|Lv:=by refine .of_wp λM A E s Q h=>?_;refine(?_:bw M A (isInstance _ _>>=λr=>_) _ E s);refine aN<|wpAny_isInstance V M0 ?_;exact aN (m:=rule _)<|oF<|br<|aO _ V h
section
variable {A:di}{s:bU}
def Y0 a b u:EqAt A s (.bool a) (.bytes b u) false:=λp w E Q h=>by
 refine e5 ?_;refine jr (λd=>absurd (eq_of_beq d) λh=>by cases h) λ_=>?_;exact aN (Lo (k:=false) V (iD s b u) (by decide) F.sub_bytes_bool Na E3
  (λ_ c=>uX Na V Nc (Nf _ _) (IB a b u) c)
  (λ_ c=>uX E3 (iD s b u) MY (MZ _ _) (Kl b u a) c)
  (λ_ c=>oG V c) (.inl V) (qo h))
def YZ b u a:EqAt A s (.bytes b u) (.bool a) false:=λp w E Q h=>by
 refine e5 ?_;refine jr (λd=>absurd (eq_of_beq d) λh=>by cases h) λ_=>?_;exact aN (Lo (k:=false) (iD s b u) V (by decide) M0 MX M9
  (λ_ c=>uX MX (iD s b u) MY (MZ _ _) (Kl b u a) c)
  (λ_ c=>uX M9 V Nc (Nf _ _) (IB a b u) c)
  (λ_ c=>oG V c) (.inl V) (qo h))
end
abbrev BK:=Bool⊕List UInt8
noncomputable def tX:BK->bI->Bool
 |.inl a,.bool b=>a==b
 |.inr x,.bytes b _=>b.toList==x
 |_,_=>false
def rD(h:tX k v=true):(∃a,k=.inl a/\v=.bool a)\/∃x t,k=.inr x/\v=.bytes x.toArray t:=by
 induction k using Sum.casesOn<;>induction v using PySem.Value.casesOn<;>simp only[tX,y4,beq_iff_eq]at h
 ·subst h;exact .inl<|aO _ V V
 ·subst h;exact .inr<|gc _ _ V V
noncomputable def aaW(w:el):BK->Int
 |.inl b=>reduceHash (if b then 1 else 0)
 |.inr x=>hashW w.params<|.bytes x
noncomputable def uF(p:j4)(w:el):KeyKind p w BK where
 is:=tX
 hash:=aaW w
 inj v a b ha e:=by rcases rD ha with⟨x,rfl,rfl⟩|⟨x,t,rfl,rfl⟩<;>rcases rD e with⟨y,rfl,h⟩|⟨y,u,rfl,h⟩<;>cases h<;>rfl
 byValue k v h:=by rcases rD h with⟨x,rfl,rfl⟩|⟨x,t,rfl,rfl⟩<;>rfl
 pyHash:=λ{A E s k v Q}c h=>by
  rcases rD c with⟨b,rfl,rfl⟩|⟨x,t,rfl,rfl⟩
  ·refine pyHash_slot V F.slot_bool_hash entry_int_hash (args_int_hash _) (Ls _) (.inl V) ?_;induction b using Bool.casesOn;·exact(show bw _ _ (do ret (<-mkInt 0)) _ _ s from aN<|qp<|br<|gc _ _ V h)
   ·exact(show bw _ _ (do ret (<-mkInt 1)) _ _ s from aN<|qp<|br<|gc _ _ V h)
  ·exact(bytesKind p w).pyHash (by simp[bytesKind,isBytes]) h
 eqBool:=λ{A E s a b u v Q}d c h=>by
  rcases rD d with⟨x,rfl,rfl⟩|⟨x,t,rfl,rfl⟩<;>rcases rD c with⟨y,rfl,rfl⟩|⟨y,u,rfl,rfl⟩
  ·exact DW x y p w _ _<|by refine U (show(x==y)=decide (Sum.inl x=(Sum.inl y:BK)) by refine U (propext nO) ?_;simp) ?_;exact h
  ·exact Y0 x _ _ p w _ _<|h
  ·exact YZ _ _ y p w _ _<|h
  ·exact eqBool_bytes<|by refine U (show decide _=decide (Sum.inr x=(Sum.inr y:BK)) by refine U (propext nO) ?_;simp) ?_;exact h
 «strs» k x t v h:=by induction k using Sum.casesOn<;>exact aV h
end bc
end
section
set_option backward.match.sparseCases false
open PySem PySem.W PyProof.Rows
namespace bc
structure x8 where
 a:Addr
 b:List Str
abbrev jn:=Nat->x8
noncomputable def aU(D:Addr->Prop)(H:Hp)(x:Addr):Prop:=(∃o,H x=Y o)\/(∃a C v,H a=Y (.bF C x v))\/D x
mutual
noncomputable def aT(T:jn)(own:Addr->Prop)(h:Heap):AV->bI->Prop
 |.k,v=>v=.none
 |.e b,v=>v=.bool b
 |.c i,v=>∃t,v=.int i t
 |.m x,v=>∃t,v=.str x t
 |.d b,v=>∃t,v=.bytes b.toArray t/\b.length<=sz
 |.f a,v=>v=.ref a
 |.l vs,v=>∃a items,v=.ref a/\¬own a/\h.IsTuple a items/\bk T own h vs items.toList/\vs.length<=sz
 |.g vs,v=>∃a items,v=.ref a/\¬own a/\h.PlainList a items/\bk T own h vs items.toList/\vs.length<=sz
 |.n C vs,v=>∃a dx ox us,v=.ref a/\¬own a/\¬own dx/\h.get? a=Y ox/\ox.cls=.ref (T C).a/\notCls ox=true/\ox.dict=Y dx/\
   h.Ns dx (λn=>((T C).b.zip us).lookup n)/\bk T own h vs us
noncomputable def bk(T:jn)(own:Addr->Prop)(h:Heap):List AV->List bI->Prop
 |[],[]=>True
 |a::r,v::t=>aT T own h a v/\bk T own h r t
 |_,_=>False
end
noncomputable def d8(h':Heap)(x:Addr)(o:Obj):Prop:=∃s,h'.get? x=Y {o with slots:=s}/\((∀e n,o.data≠.dict e n)->s=o.slots)
def d8.i{o}(e:h'.get? x=Y o):d8 h' x o:=(aO o.slots e λ_=>V)
def d8.j(k:d8 ky x o)(b:∀g,ky.get? x=Y g->d8 tY x g):d8 tY x o:=by refine aH k λf e d=>?_;refine aH (b _ e) λs c h=>?_;exact(aO s c λa=>U (h a)<|U (d a) V)
def d8.l{h':Heap}{x:Addr}{o:Obj}(k:d8 h' x o)(h:∀a n,o.data≠.dict a n):h'.get? x=Y o:=by refine aH k λs e b=>?_;exact U e<|U (b h) V
structure df(D:Addr->Prop)(H:Hp)(h:Heap)(H':Hp)(h':Heap):Prop where
 g:∀x o,h.get? x=Y o->¬aU D H x->d8 h' x o
 i:∀x o,h.get? x=Y o->¬aU D H x->¬aU D H' x
 f:∀x o,h.get? x=Y o->∃o',h'.get? x=Y o'
def lI{α:Type}{a:Option α}(k:∀o,a=Y o->False):a=O:=by
 cases a with
 |none=>rfl
 |some o=>exact(k o V).elim
def df.r D H h:df D H h H h:=⟨λ_ _ e _=>.i e,λ_ _ _ n=>n,λ_ o e=>⟨o,e⟩⟩
theorem df.j(a:df D H h kJ ky)(b:df D kJ ky uP tY):df D H h uP tY:=
 ⟨λx o e n=>(a.g x o e n).j λd c=>b.g x d c<|a.i x o e n,λx o e n=>by refine aH (a.g x o e n) λs c _=>?_;exact b.i x _ c (a.i x o e n),λx o e=>by exact aF (a.f x o e) λd c=>b.f x d c⟩
def df.p(s:df D H h H' h')(n:h'.get? x=O):h.get? x=O:=lI λo q=>(s.f x o q).elim λa e=>aS<|n.symm.trans e
def df.u(s:df D H h H' h')(n:¬aU D H a)(x:h.PlainList a items):h'.PlainList a items:=by refine aF x λk e=>?_;exact⟨k,(s.g a _ e n).l λ_ _ h=>by cases h⟩
def zC{h:Heap}(x:h.PlainList a items):∃o,h.get? a=Y o:=let⟨_,e⟩:=x;⟨_,e⟩
def jA{h:Heap}(x:h.Ns a m):∃o,h.get? a=Y o:=let⟨o,_,_,e,_⟩:=x;⟨o,e⟩
def ri{h:Heap}(x:h.IsCell a v):∃o,h.get? a=Y o:=let⟨o,e,_⟩:=x;⟨o,e⟩
noncomputable def hM(h':Heap)(x:Addr)(o:Obj):Prop:=d8 h' x o\/∃a v,o.data=.fields a/\h'.get? x=Y {o with data:=.fields v}
def hM.m(k:hM h' x o)(h:∀b,o.data≠.fields b):d8 h' x o:=bq k (λk=>k) λz=>fY z λb v a e=>absurd a<|h b
mutual
theorem aT.g{T:jn}{own tL:Addr->Prop}{h h':Heap}(k:∀x o,h.get? x=Y o->¬own x->hM h' x o/\¬tL x):∀(a:AV)(v:bI),aT T own h a v->aT T tL h' a v
 |.k,_,r|.e _,_,r|.c _,_,r|.m _,_,r|.d _,_,r|.f _,_,r=>r
 |.l vs,v,r=>by refine iv r λa items hv hn ht hl hz=>?_;refine cw ht λo e hc hd=>?_;refine bp (k _ _ e hn) λk1 k2=>?_;exact kr a items hv k2 (cq o ((k1.m<|by refine aF hd λ_ hd=>?_;refine U hd ?_;nofun).l<|by refine aF hd λ_ hd=>?_;refine U hd ?_;nofun) hc hd) (bk.p k vs _ hl) hz
 |.g vs,v,r=>by refine iv r λa items hv hn s8 hl hz=>aF s8 λn e=>?_;refine bp (k _ _ e hn) λk1 k2=>?_;exact kr a items hv k2 ⟨n,(k1.m λ_ h=>by cases h).l nofun⟩ (bk.p k vs _ hl) hz
 |.n C vs,v,r=>by
  refine Je r λa dx ox us hv hn Ww hg hc pZ hd oa hl=>?_;refine ia oa λo2 es ep e2 ua ja=>?_;refine bp (k _ _ hg hn) λk1 k2=>?_;refine bp (k _ _ e2 Ww) λk3 q2=>?_;refine aH (k3.m<|by refine U ua ?_;nofun) λsl q1 _=>?_;refine bq k1 (λs8=>aH s8 λsl1 e1 _=>?_) λs7=>fY s7 λvs1 vs2 hdd e1=>?_;·exact w5 a dx _ us hv k2 q2 e1 hc pZ hd (lK _ es ep q1 ua ja)<|bk.p k vs _ hl
  ·exact w5 a dx _ us hv k2 q2 e1 hc V hd (lK _ es ep q1 ua ja)<|bk.p k vs _ hl
theorem bk.p{T:jn}{own tL:Addr->Prop}{h h':Heap}(k:∀x o,h.get? x=Y o->¬own x->hM h' x o/\¬tL x):∀(a:List AV)(v:List bI),bk T own h a v->bk T tL h' a v
 |[],[],_=>trivial
 |a::r,v::t,x=>⟨aT.g k a v x.1,bk.p k r t x.2⟩
 |[],_::_,x=>x.elim
 |_::_,[],x=>x.elim
end
def aT.f{T}(k:∀x o,h.get? x=Y o->¬c x->d8 h' x o/\¬b x):∀a v,aT T c h a v->aT T b h' a v:=aT.g λx o e n=>⟨.inl (k x o e n).1,(k x o e n).2⟩
def bk.C{T}(k:∀x o,h.get? x=Y o->¬c x->d8 h' x o/\¬b x):∀a v,bk T c h a v->bk T b h' a v:=bk.p λx o e n=>⟨.inl (k x o e n).1,(k x o e n).2⟩
def aT.d{T}{H H'}{h h':Heap}(s:df D H h H' h'):∀a v,aT T (aU D H) h a v->aT T (aU D H') h' a v:=aT.f λx o e n=>⟨s.g x o e n,s.i x o e n⟩
def bk.d{T}{H H'}{h h':Heap}(s:df D H h H' h'):∀a v,bk T (aU D H) h a v->bk T (aU D H') h' a v:=bk.C λx o e n=>⟨s.g x o e n,s.i x o e n⟩
theorem aT.i{T}{own b}(k:∀x o,h.get? x=Y o->¬own x->¬b x):∀a v,aT T own h a v->aT T b h a v:=aT.f λx o e n=>⟨.i e,k x o e n⟩
def bk.N{T}{own b}(k:∀x o,h.get? x=Y o->¬own x->¬b x):∀a v,bk T own h a v->bk T b h a v:=bk.C λx o e n=>⟨.i e,k x o e n⟩
theorem bk.f{T}:∀{a}{v},bk T o h a v->a.length=v.length
 |[],[],_=>rfl
 |_::_,_::_,x=>by simp[bk.f x.2]
 |[],_::_,x=>x.elim
 |_::_,[],x=>x.elim
theorem bk.B{T}:∀{a}{v},bk T o h a v->∀{i:Nat}{x},a[i]? =Y x->∃u,v[i]? =Y u/\aT T o h x u
 |_::_,_::_,x,0,_,e=>by simp at e;subst e;exact aO _ V x.1
 |_::_,_::_,x,i+1,_,e=>by simp at e |- ;exact bk.B x.2 e
 |[],_,_,_,_,e=>by simp at e
 |_::_,[],x,_,_,_=>x.elim
theorem bk.g{T}:∀{a}{v}{b}{w},bk T o h a v->bk T o h b w->bk T o h (a++b) (v++w)
 |[],[],_,_,_,y=>y
 |_::_,_::_,_,_,x,y=>⟨x.1,bk.g x.2 y⟩
 |[],_::_,_,_,x,_=>x.elim
 |_::_,[],_,_,x,_=>x.elim
noncomputable def gy{β:Type}(P:AV->β->Prop)(o:Option AV)(p:Option β):Prop:=match o with
 |some v=>∃u,p=Y u/\P v u
 |aY=>p=aY
def gy.b(k:∀v u,P v u->P' v u)(h:gy P o p):gy P' o p:=by
 induction o using Option.casesOn with
 |none=>exact h
 |some v=>exact h.elim λu z=>⟨u,z.1,k _ _ z.2⟩
def gy.c(e:o=o')(h:gy P o' p):gy P o p:=by subst e;exact h
def gy.a(h:gy P o p):p.isSome=o.isSome:=by
 induction o using Option.casesOn with
 |none=>exact congrArg LR h
 |some v=>exact h.elim λu z=>congrArg LR z.1
def Gb{β a:Type}{P:AV->a->Prop}{m:β->a}{p}:gy (λv x=>P v<|m x) o p↔gy P o (p.map m):=by
 induction o using Option.casesOn with
 |none=>exact LO.symm
 |some v=>exact⟨λh=>h.elim λu z=>⟨m u,(congrArg _ z.1).trans V,z.2⟩,λh=>h.elim λu z=>(qE.mp z.1).elim λx e=>⟨x,e.1,(U e.2 z.2:P v<|m x)⟩⟩
def tM{κ:Type}[DecidableEq κ]{f:κ->Option AV}{g b:κ->Option β}{i}(k:∀v u,P v u->a v u)(r:a v u)(e:∀x,b x=if x=i then Y u else g x)(h:∀x,gy P (f x)<|g x)x:
  gy a (if x=i then Y v else f x) (b x):=
 U (e x) ((mA _).elim (λq=>U (if_pos q)<|U (if_pos q) ⟨u,V,r⟩) λq=>U (if_neg q)<|U (if_neg q)<|(h x).b k)
noncomputable def gE(T:jn)(prog:j4)(w:el)(o:Addr->Prop)(h:Heap)(a:Addr):AO->Prop
 |.b e=>∃i,h.PlainList a i/\bk T o h e i.toList/\e.length<=sz
 |.c f n=>∃b,h.DictOf (ny prog w) a b/\b.length<=n/\∀k,gy (aT T o h) (f k)<|valueAt b k
 |.e f n=>∃b,h.DictOf (oO prog w) a b/\b.length<=n/\∀k,gy (aT T o h) (f k)<|valueAt b k
 |.g f n=>∃c,h.DictOfH (tupleKind<|uF prog w) a c/\c.length<=n/\(∀x∈c,¬o x.2.1)/\∀k,gy (λv p=>aT T o h v p.2) (f k)<|kS c [.inl k.1,.inr k.2]
 |.bF C d e=>∃u,h.get? a=Y (instObj (T C).a d)/\h.Ns1 d (λn=>((T C).b.zip u).lookup n)/\bk T o h e u/\u.length<=(T C).b.length
noncomputable def AO.l(a:Addr):AO->List Addr
 |.bF _ d _=>[a,d]
 |_=>[a]
def AO.r{o:AO}:a∈o.l a:=by induction o using AO.casesOn<;>exact .head _
def AO.q:dx∈(AO.bF C dx vs).l a:=.tail _<|.head _
def AO.m{o:AO}(h:x∈o.l a):x=a\/∃C v,o=.bF C x v:=by
 induction o using AO.casesOn with
 |bF C d v=>exact(gH.mp h).imp id λz=>⟨C,v,congrArg (λx=>AO.bF C x v) (dm.mp z).symm⟩
 |_=>exact .inl<|dm.mp h
def Hp.aA{H:Hp}{a b:Nat}{p:AO}(h:(H.ag a o) b=Y p):(b=a/\o=p)\/(b≠a/\H b=Y p):=
 (mA _).elim (λq=>.inl ⟨q,bz<|(if_pos q).symm.trans h⟩) λq=>.inr ⟨q,(if_neg q).symm.trans h⟩
def gE.aj{T}(x:gE T prog w b h a o):∃c,h.get? a=Y c:=by
 induction o using AO.casesOn with
 |b=>exact x.elim λ_ z=>zC z.1
 |bF=>exact x.elim λ_ z=>⟨_,z.1⟩
 |_=>exact x.elim λ_ z=>gA z.1 λo _ _ e _=>⟨o,e⟩
def gE.X{T}(x:gE T prog w c h a o):∀b∈o.l a,∃e,h.get? b=Y e:=λb d=>
 (AO.m d).elim (λq=>U q x.aj) λz=>z.elim λC z=>z.elim λv q=>by rw[q]at x;exact x.elim λ_ z=>jA z.2.1.ns
def gE.ag{T}{j c:Addr->Prop}{h h'}(k:∀x o,h.get? x=Y o->¬j x->d8 h' x o/\¬c x)(s:∀b∈o.l a,h'.get? b=h.get? b)(x:gE T prog w j h a o):gE T prog w c h' a o:=by
 have p:=s a AO.r;induction o using AO.casesOn with
 |b R=>exact cw x λK z G H=>aF z λn e=>cq K ⟨n,p.trans e⟩ (G.C k) H
 |c f n=>exact cw x λg z m l=>gA z λo L d e r=>(cq g (je o L d (p.trans e) r) m λi=>(l i).b λ_ _ r=>r.f k)
 |e f n=>exact cw x λg z m l=>gA z λo L d e r=>(cq g (je o L d (p.trans e) r) m λi=>(l i).b λ_ _ r=>r.f k)
 |g f n=>
  refine kC x λP z m y l=>lO z λo L d e I u v q W=>?_;refine(jH P (lJ o L d (p.trans e) I u v (λx M=>?_) W) m (λx M=>gA (q x M) λ_ _ _ t _=>(k _ _ t<|y x M).2) λi=>(l i).b λ_ _ r=>r.f k);refine fw (q x M) λS K B t E A N=>?_;exact dG S K B ((k _ _ t<|y x M).1.l<|by refine U A ?_;nofun) E A N
 |bF C D R=>
  refine kC x λQ e z v q=>gA z λo L d F u=>?_;exact jH Q (p.trans e) (je o L d ((s D AO.q).trans F) u) (v.C k) q
def gE.Z{D}{T}{h h'}(c:df D H h H' h')(s:∀b∈o.l a,h'.get? b=h.get? b)
  (x:gE T prog w (aU D H) h a o):gE T prog w (aU D H') h' a o:=x.ag (λx o e n=>⟨c.g x o e n,c.i x o e n⟩) s
def gE.ah{T}{own b}{h}(k:∀x o,h.get? x=Y o->¬own x->¬b x)(x:gE T prog w own h a o):gE T prog w b h a o:=
 x.ag (λx o e n=>⟨.i e,k x o e n⟩) λ_ _=>V
structure gW(T:jn)(prog:j4)(w:el)(D:Addr->Prop)(H:Hp)(h:Heap):Prop where
 M:∀a o,H a=Y o->gE T prog w (aU D H) h a o
 inj:∀a a' C C' dx vs mF,H a=Y (.bF C dx vs)->H a'=Y (.bF C' dx mF)->a=a'
 S:∀a C dx vs,H a=Y (.bF C dx vs)->H dx=aY
 W:∀x,D x->H x=aY/\∀a C vs,H a≠Y (.bF C x vs)
 Q:∀x,D x->∃o,h.get? x=Y o
section
variable {T:jn}{prog:j4}{w:el}{D:Addr->Prop}{H H':Hp}{h h':Heap}
theorem gW.X(R:gW T prog w D H h)(o:aU D H x):∃b,h.get? x=Y b:=
 o.elim (λz=>z.elim λo e=>(R.M x o e).aj) λz=>z.elim (λz=>z.elim λa z=>z.elim λC z=>z.elim λv e=>(R.M a _ e).X x AO.q)<|R.Q x
def KN(e:H a=Y o)(h:x∈o.l a):aU D H x:=
 (AO.m h).elim (λq=>.inl ⟨_,U q e⟩) λz=>z.elim λC z=>z.elim λv q=>.inr<|.inl<|kq a C v<|e.trans<|congrArg Y q
def gW.N(R:gW T prog w D H h)(n:h.get? x=O):¬aU D H x:=λo=>by refine aF (R.X o) λa e=>?_;rw[n]at e;exact aS e
theorem gW.Z(R:gW T prog w D H h)(c:df D H h H h')(s:∀x,aU D H x->h'.get? x=h.get? x):gW T prog w D H h':=
 ⟨λa o e=>(R.M a o e).Z c λb d=>s b<|KN e d,R.inj,R.S,R.W,λx f=>(R.Q x f).elim λo e=>c.f x o e⟩
def SJ(e:H a=Y o)(f:∀C d i,o'=.bF C d i->∃v,o=.bF C d v)(g:aU D (H.ag a o') x):aU D H x:=
 g.elim (λz=>z.elim λp c=>(Hp.aA c).elim (λq=>.inl ⟨_,U q.1 e⟩) λq=>.inl ⟨_,q.2⟩)
  λg=>g.elim (λz=>z.elim λb z=>z.elim λC z=>z.elim λi c=>(Hp.aA c).elim (λq=>(f _ _ _ q.2).elim λv z=>.inr<|.inl<|kq a C v<|e.trans<|congrArg Y z) λq=>.inr<|.inl<|kq _ _ _ q.2) λh=>.inr<|.inr h
theorem gW.ag(R:gW T prog w D H h)(e:H a=Y o)(r:∀C d F,o'=.bF C d F->∃c,o=.bF C d c)(A:∀C d F,o=.bF C d F->∃c,o'=.bF C d c)
  (s:∀x,x∉o.l a->h'.get? x=h.get? x) (t:∀x∈o.l a,∃G,h'.get? x=Y G)
  (I:df D H h (H.ag a o') h'->gE T prog w (aU D<|H.ag a o') h' a o'):df D H h (H.ag a o') h'/\gW T prog w D (H.ag a o') h':=by
 have k:df D H h _ h':=⟨λx G g n=>.i<|(s x λE=>n<|(λx=>KN e) x E).trans g,λx G g n E=>n<|SJ e r E,λx G g=>(mA _).elim (t x) λE=>⟨G,(s x E).trans g⟩⟩;have i:∀{b C d F},(H.ag a o') b=Y (.bF C d F)->∃c,H b=Y _:=λf=>(Hp.aA f).elim (λq=>(r _ _ _ q.2).elim λc z=>⟨c,U q.1<|e.trans<|congrArg Y z⟩) λq=>⟨_,q.2⟩;have m:∀{x},H x=O->(H.ag a o') x=O:=λn=>(if_neg λq=>aS<|n.symm.trans<|(congrArg H q).trans e).trans n;refine⟨k,λb p f=>(Hp.aA f).elim (λq=>U q.1<|aP q.2<|I k) λq=>(R.M b p q.2).Z k λx E=>s x λj=>q.1 ?_,λb B C K d F c f l=>(i f).elim λ_ z=>(i l).elim λ_ y=>R.inj _ _ _ _ _ _ _ z y,
  λb C d F f=>(i f).elim λ_ z=>m (R.S _ _ _ _ z),λx E=>⟨m (R.W x E).1,λb C F f=>(i f).elim λ_ z=>(R.W x E).2 _ _ _ z⟩,λx E=>(R.Q x E).elim λo g=>k.f x o g⟩
 exact(AO.m E).elim (λu=>(AO.m j).elim (λv=>u.symm.trans v) λz=>z.elim λ_ z=>z.elim λ_ v=>aS<|(R.S a _ x _<|e.trans<|congrArg Y v).symm.trans<|(congrArg H u).trans q.2)
  λz=>z.elim λ_ z=>z.elim λ_ u=>(AO.m j).elim (λv=>aS<|(R.S b _ x _<|q.2.trans<|congrArg Y u).symm.trans<|(congrArg H v).trans e) λz=>z.elim λ_ z=>z.elim λ_ v=>R.inj b a _ _ x _ _ (q.2.trans<|congrArg Y u)<|e.trans<|congrArg Y v
def gW.ah(R:gW T prog w D H h)(u:h.get? a=O)(c:∀x∈o.l a,h.get? x=O)(m:∀C d G,o=.bF C d G->d≠a)
  (f:∀x F,h.get? x=Y F->h'.get? x=Y F) (K:df D H h (H.ag a o) h'->gE T prog w (aU D<|H.ag a o) h' a o):df D H h (H.ag a o) h'/\gW T prog w D (H.ag a o) h':=by
 have l:∀{C d G},o=.bF C d G->h.get? d=O:=λq=>c _<|U q AO.q;have i:∀x,aU D (H.ag a o) x->aU D H x\/x∈o.l a:=λx E=>E.elim (λz=>z.elim λp r=>(Hp.aA r).elim (λq=>.inr<|U q.1 AO.r) λq=>.inl<|.inl ⟨p,q.2⟩)
  λE=>E.elim (λz=>z.elim λb z=>z.elim λC z=>z.elim λG r=>(Hp.aA r).elim (λq=>.inr<|U q.2 AO.q) λq=>.inl<|.inr<|.inl<|kq b C G q.2) λy=>.inl<|.inr<|.inr y
 have s:df D H h _ h':=⟨λx F g _=>.i<|f x F g,λx F g n E=>(i x E).elim n λE=>aS<|(c x E).symm.trans g,λx F g=>⟨F,f x F g⟩⟩;have v:∀{x},h.get? x=O->H x=O:=λ{x}n=>lI λp q=>R.N n<|.inl ⟨p,q⟩;have k:∀{b C d G}{P},h.get? d=O->H b=Y (.bF C d G)->P:=λn e=>absurd (.inr<|.inl<|kq _ _ _ e)<|R.N n;exact⟨s,λb p e=>(Hp.aA e).elim (λq=>U q.1<|aP q.2<|K s) λq=>(R.M b p q.2).Z s λx E=>((R.M b p q.2).X x E).elim λF g=>(f x F g).trans g.symm,
  λb B C L d G A e j=>(Hp.aA e).elim (λq=>(Hp.aA j).elim (λI=>q.1.trans I.1.symm) λI=>k (l q.2) I.2) λq=>(Hp.aA j).elim (λI=>k (l I.2) q.2) λI=>R.inj _ _ _ _ _ _ _ q.2 I.2,
  λb C d G e=>(Hp.aA e).elim (λq=>(if_neg<|m C d G q.2).trans<|v<|l q.2) λq=>(if_neg λz=>(R.X<|.inr<|.inl<|kq _ _ _ q.2).elim λF g=>aS<|u.symm.trans<|(congrArg h.get? z).symm.trans g).trans<|R.S _ _ _ _ q.2,
  λx E=>(R.Q x E).elim λ_ t=>⟨(if_neg λz=>aS<|u.symm.trans<|(congrArg h.get? z).symm.trans t).trans (R.W x E).1,λb C G e=>(Hp.aA e).elim (λq=>aS<|(l q.2).symm.trans t) λq=>(R.W x E).2 _ _ _ q.2⟩,
  λx E=>(R.Q x E).elim λo g=>s.f x o g⟩
def gW.aj(R:gW T prog w D H h)(s:Hp.aq H' H):df D H h H' h/\gW T prog w D H' h:=by
 have f:df D H h H' h:=⟨λx o g _=>.i g,λx o g n k=>n<|(λx k=>k.imp (λz=>z.elim λp e=>⟨p,s _ _ e⟩) λk=>k.imp (λz=>z.elim λb z=>z.elim λC z=>z.elim λl e=>kq b C l<|s _ _ e) id:∀x,aU D H' x->aU D H x) x k,λx o g=>⟨o,g⟩⟩;have d:∀{x},H x=O->H' x=O:=λ{x}n=>lI λp q=>aS<|n.symm.trans<|s _ _ q;exact⟨f,λb p a=>(R.M b p<|s _ _ a).Z f λ_ _=>V,λb j C m i l v a c=>R.inj _ _ _ _ _ _ _ (s _ _ a)<|s _ _ c,λb C i l a=>d<|R.S _ _ _ _<|s _ _ a,
  λx k=>⟨d (R.W x k).1,λb C l a=>(R.W x k).2 _ _ _ (s _ _ a)⟩,R.Q⟩
def Hp.az H a:Hp.aq (H.aB a) H:=λx o e=>by
 unfold Hp.aB at e;split at e;·exact aS e
 ·exact e
end
structure Wd where
 T:jn
 p:j4
 w:el
 K:Frag
 r:Heap
 z:Str->Option bI
 fr:Addr->Prop:=λ_=>False
 v:Addr->Prop:=λ_=>False
structure Wd.y(W:Wd):Prop where
 t:W.K.In W.r
 w:W.r.Ns yn W.z
 r:∀x:Str,x≠"__name__"->W.z x=gX x
 q:W.r.NoLimit
 u:∃o,W.r.get? CT=Y o
structure Cx where
 A:di
 env:Env
 a:List Env
 b:List Str
 d:List Str
 e:Bool
structure Cx.f(A:Cx):Prop where
 a:A.env.scope.kind=.function
 f:A.env.globals=d9
 j:A.env.builtins=yn
 b:A.A.handled=O
 i:A.A.frames=Y A.a
 h:∀nm,A.env.kindOf nm=Y .cell->∃c,A.env.cells.lookup nm=Y c
 g:A.env.cells.Pairwise λx y=>x.2≠y.2
 d:∀n c,(n,c)∈A.env.cells->A.env.locals≠c
 e:A.b.Nodup
structure ac0(A:di)(n:Nat):Prop where
 a:A.depth+3*n+9<recursionLimit
 b:A.units+12*n+60<cLine
structure bu(W:Wd)(H:Hp)(h:Heap):Prop where
 D:∀x o,W.r.get? x=Y o->h.get? x=Y o
 F:∀x o,W.r.get? x=Y o->¬aU W.fr H x
 z:gW W.T W.p W.w W.fr H h
noncomputable def fa(W:Wd)(H:Hp)(h:Heap)(l:List Env):Prop:=
 ∀e∈l,e.scope.kind≠.module/\∃L o,e.frame=Y L/\W.r.get? L=O/\h.get? L=Y o/\(∃a n,o.data=.dict a n)/\W.fr L
noncomputable def acY(W:Wd)(H:Hp)(h:Heap)(A:Cx)(m B:ba)(a c:Str->Option bI):Prop:=
 (∀(i:Nat)n v,A.b[i]? =Y n->m[i]? =Y (Y v)->
  (A.e=false->A.env.kindOf n=Y .local->∃u,a n=Y u/\aT W.T (aU W.fr H) h v u)/\
  (A.env.kindOf n=Y .cell->∃u,c n=Y u/\aT W.T (aU W.fr H) h v u))/\
 (A.e=true->∀(i:Nat)n v,A.d[i]? =Y n->B[i]? =Y (Y v)->A.env.kindOf n=Y .local->∃u,a n=Y u/\aT W.T (aU W.fr H) h v u)
structure iz(W:Wd)(A:Cx)(m B:ba)(H:Hp)(h:Heap):Prop where
 au:∃ml cm,h.Ns A.env.locals ml/\(∀n c,A.env.cells.lookup n=Y c->h.IsCell c (cm n))/\acY W H h A m B ml cm
 ak:W.fr A.env.locals
 al:∀n c,A.env.cells.lookup n=Y c->W.fr c
 av:¬W.v A.env.locals
 aw:∀n c,A.env.cells.lookup n=Y c->¬W.v c
 uf:∀x,W.v x->W.fr x
 ao:W.r.get? A.env.locals=O
 ax:∀n c,A.env.cells.lookup n=Y c->W.r.get? c=O
 ag:fa W H h A.a
structure St(W:Wd)(A:Cx)(m B:ba)(H:Hp)(s:bU):Prop where
 ag:bu W H s.heap
 fr:iz W A m B H s.heap
structure Nx(W:Wd)(H:Hp)(s:bU)(H':Hp)(s':bU):Prop where
 j:df W.fr H s.heap H' s'.heap
 I:∀x o,W.fr x->s.heap.get? x=Y o->d8 s'.heap x o
 i:bu W H' s'.heap
 y:s'.gens=s.gens
 K:s'.os=s.os
def Nx.F(g:bu W H s.heap):Nx W H s H s:=⟨.r _ _ _,λ_ _ _ e=>.i e,g,V,V⟩
def Nx.p(a:Nx W H s kJ s₁)(b:Nx W kJ s₁ uP lA):Nx W H s uP lA:=
 ⟨a.j.j b.j,λx o h e=>(a.I x o h e).j λd c=>b.I x d h c,b.i,b.y.trans a.y,b.K.trans a.K⟩
theorem Nx.toks{W:Wd}{H:Hp}{s:bU}{t:Nat}(g:bu W H s.heap):Nx W H s H {s with toks:=t}:=⟨.r _ _ _,λ_ _ _ e=>.i e,g,V,V⟩
def fa.K(x:fa W H s.heap l)(n:Nx W H s H' s'):fa W H' s'.heap l:=λj b=>by refine ib (x j b) λc L o f d a g h=>?_;refine aH (n.I L o h a) λi e _=>?_;exact jI c L _ f d e g h
def d8.q{h f:Heap}(k:∀o,h.get? a=Y o->d8 f a o)(x:h.Ns a m):f.Ns a m:=by refine ia x λo g d b c r=>?_;refine aH (k o b) λs e _=>?_;exact lK _ g d e c r
def d8.p{h:Heap}(k:∀o,h.get? a=Y o->d8 h' a o)(x:h.IsCell a v):h'.IsCell a v:=by refine aH x λo b c=>?_;refine aH (k o b) λs e _=>?_;exact aO _ e c
def iz.nx(x:iz W A m B H s.heap)(n:Nx W H s H' s'):iz W A m B H' s'.heap:=by obtain⟨⟨p,w,l,hc,h⟩,j,g,k,y,uf,t,z,fr⟩:=x;refine⟨bQ p w (d8.q (λo e=>n.I _ o j e) l) (λC c e=>d8.p (λo q=>n.I _ o (g C c e) q)<|hc C c e) ?_,j,g,k,y,uf,t,z,fr.K n⟩;exact⟨λi C v d f=>⟨λa b=>aH ((h.1 i C v d f).1 a b) λu e r=>aO u e<|r.d n.j,λa=>aH ((h.1 i C v d f).2 a) λu e r=>aO u e<|r.d n.j⟩,λa i C v d f b=>aH (h.2 a i C v d f b) λu e r=>aO u e<|r.d n.j⟩
theorem St.nx(x:St W A m B H s)(n:Nx W H s H' s'):St W A m B H' s':=⟨n.i,x.fr.nx n⟩
def bu.ah{H c}{h b}(g:bu W H h)(a:df W.fr H h c b)(R:gW W.T W.p W.w W.fr c b)(s:∀x o,W.r.get? x=Y o->b.get? x=h.get? x):bu W c b:=
 ⟨λx o e=>(s x o e).trans<|g.D x o e,λx o e=>a.i x o (g.D x o e)<|g.F x o e,R⟩
def bu.ag(g:bu W H h)(k:∀x o,h.get? x=Y o->h'.get? x=Y o):df W.fr H h H h'/\bu W H h':=by have s:df W.fr H h H h':=⟨λx o e _=>.i<|k x o e,λ_ _ _ n=>n,λx o e=>⟨o,k x o e⟩⟩;refine⟨s,λx o q=>k x o<|g.D x o q,g.F,g.z.Z s λx a=>?_⟩;refine aF (g.z.X a) λb q=>?_;exact U q<|k x b q
def Nx.r(g:bu W H s.heap)(k:∀x o,s.heap.get? x=Y o->h'.get? x=Y o):Nx W H s H {s with heap:=h',toks:=t}:=
 ⟨(g.ag k).1,λx o _ e=>.i<|k x o e,(g.ag k).2,V,V⟩
def Nx.G(g:bu W H s.heap)o:Nx W H s H {s with heap:=s.heap.push o}:=Nx.r g λ_ _ e=>fC o e
noncomputable def uQ(T:jn)(a:Heap)(g:AV)(e:bI)(h:Heap):Prop:=
 ∃b o d i j v,e=.ref b/\g=.n 7 [.c i]/\a.get? b=O/\h.get? b=Y o/\o.cls=.ref (T 7).a/\o.dict=Y d/\o.data=.fields v/\4<v.size/\
  a.get? d=O/\h.Ns d (λn=>((T 7).b.zip [C3 i j]).lookup n)/\
  (v[1]? =Y .none\/∃t c f k,v[1]? =Y (.ref t)/\a.get? t=O/\t≠b/\h.get? t=Y c/\c.data=.fields f/\f[3]? =Y k)
def uQ.F{T}{b a h}(k:∀x,a.get? x=O->b.get? x=O)(x:uQ T a f e h):uQ T b f e h:=by
 refine YP x λq p r i m z B C y u l j g s n d c=>?_;refine An q p r i m z B C (k _ y) u l j g s (k _ n) d<|c.imp id ?_
 rintro ⟨t,o,v,fl,D,A,w⟩
 exact w7 t o v fl D (k _ A) w
structure K7(W:Wd)(pr:Addr->Prop)(H:Hp)(s s':bU):Prop where
 a:df W.fr H s.heap Hp.aw s'.heap
 e:∀x o,pr x->s.heap.get? x=Y o->d8 s'.heap x o
 c:∀x o,W.r.get? x=Y o->s'.heap.get? x=Y o
 b:s'.gens=s.gens
 d:s'.os=s.os
structure nh(W:Wd)(H:Hp)(s:bU)(av:AV)(e:bI)(s':bU):Prop where
 r:uQ W.T s.heap av e s'.heap
 k:K7 W W.fr H s s'
def nh.t(n:Nx W H s kJ s₁)(f:nh W kJ s₁ av e s'):nh W H s av e s':=
 ⟨f.r.F λ_ q=>n.j.p q,n.j.j f.k.a,λx o h e=>(n.I x o h e).j λb a=>f.k.e x b h a,f.k.c,f.k.b.trans n.y,f.k.d.trans n.K⟩
noncomputable def eG(W:Wd)(E:VK)(H:Hp)(s:bU)(e:bI)(b:bU):Prop:=∃a,E a Hp.aw/\nh W H s a e b
def eG.d(n:Nx W H s kJ s₁)(f:eG W E kJ s₁ e s'):eG W E H s e s':=aH f λc a b=>aO c a<|b.t n
section
variable {α β γ δ:Type}{W:Wd}{A:di}{E:VK}{H:Hp}{s:bU}
noncomputable def aQ(W:Wd)(A:di)(E:VK)(R:Hp->Heap->β->α->Prop)(Q:β->Hp->Prop)(t:Sem α)(H:Hp)(s:bU):Prop:=
 bw (bM W.p W.w) A t (λv c=>∃b a,Nx W H s a c/\R a c.heap b v/\Q b a) (eG W E H s) s
def aQ.C{R:Hp->Heap->β->α->Prop}{Q}{p:Hp->Heap->δ->γ->Prop}{i}(h:aQ W A E R Q t H s)
  (k:∀v b m o,Nx W H s m o->R m o.heap b v->Q b m->aQ W A E p i (f v) m o):aQ W A E p i (t>>=f) H s:=by
 refine aN<|cS h (λv o g=>cj g λb m n r q=>?_) λ_ _ x=>x;exact cS (k v b m o n r q) (λu a g=>cj g λc d l j w=>bQ c d (n.p l) j w) λe a x=>x.d n
def aQ.I{R:Hp->Heap->β->α->Prop}{Q:β->Hp->Prop}{i:Hp->Heap->γ->α->Prop}{a:γ->Hp->Prop}{t:Sem α}(h:aQ W A E R Q t H s)
  (k:∀v b f g,Nx W H s f g->R f g.heap b v->Q b f->∃c,i f g.heap c v/\a c f):aQ W A E i a t H s:=
 cS h (λv g e=>cj e λb f n r q=>by exact aH (k v b f g n r q) λc d j=>bQ c f n d j) λ_ _ x=>x
theorem aQ.F{R:Hp->Heap->β->α->Prop}{Q:β->Hp->Prop}{a:α}{b:β}(g:bu W H s.heap)(r:R H s.heap b a)(q:Q b H):aQ W A E R Q (pure a) H s:=
 br (bQ b H (.F g) r q)
def aQ.z{R:Hp->Heap->δ->γ->Prop}{Q:δ->Hp->Prop}{p:Pos}{f:Unit->Sem γ}(h:aQ W A E R Q (f ()) H s):aQ W A E R Q (gF p>>=f) H s:=aN<|eN h
def aQ.y(h:aQ W A E R Q t H s):aQ W A E R Q (PySem.holding vs t) H s:=e5 h
def aQ.D(h:aQ W A E R Q t H s):aQ W A E R Q (PySem.operate vs t) H s:=wpAny_operating h
end
abbrev RV(W:Wd):Hp->Heap->AV->bI->Prop:=λH h a v=>aT W.T (aU W.fr H) h a v
abbrev RB:Hp->Heap->Bool->Bool->Prop:=λ_ _ a v=>v=a
abbrev RU{α β:Type}:Hp->Heap->α->β->Prop:=λ_ _ _ _=>True
noncomputable def bD(W:Wd)(A:Cx)(E:VK)(m B:ba)(d:VK->Hp->Prop)(t:Sem bI):Prop:=
 ∀Q H s,d Q H->St W A m B H s->aQ W A.A E (RV W) Q t H s
section
variable {W:Wd}{A:Cx}{E:VK}{m B:ba}
def zL{P:AV->Prop}(d:(match o with|some (some a)=>P a|_=>False)):∃a,o=Y (Y a)/\P a:=by
 induction o using Option.casesOn with
 |none=>exact d.elim
 |some o=>induction o using Option.casesOn with
  |none=>exact d.elim
  |some a=>exact aO a V d
def Gf{P:Bool->Prop}(d:(match o with|some a=>P a|aY=>False)):∃a,o=Y a/\P a:=by
 induction o using Option.casesOn with
 |none=>exact d.elim
 |some a=>exact aO a V d
def Ge{P:List AV->Prop}(d:(match o with|some a=>P a|aY=>False)):∃a,o=Y a/\P a:=by
 induction o using Option.casesOn with
 |none=>exact d.elim
 |some a=>exact aO a V d
def wX{P:ba->Prop}(d:(match o with|some a=>P a|aY=>False)):∃a,o=Y a/\P a:=by
 induction o using Option.casesOn with
 |none=>exact d.elim
 |some a=>exact aO a V d
def IC{v:AV}{P:Int->Prop}(d:(match v with|.c i=>P i|_=>False)):∃i,v=.c i/\P i:=by
 induction v using bc.AV.casesOn with
 |c i=>exact aO i V d
 |_=>exact d.elim
def uD{v:AV}{P:Bool->Prop}(d:(match v with|.e i=>P i|_=>False)):∃i,v=.e i/\P i:=by
 induction v using bc.AV.casesOn with
 |e i=>exact aO i V d
 |_=>exact d.elim
def E9{t}{w}{i:Nat}(o:A.f)(k:A.b[i]? =Y t)(g:A.e=false/\A.env.kindOf t=Y .local\/A.env.kindOf t=Y .cell)(l:(t==("__debug__"))=false):
  bD W A E m B (λQ H=>match m[i]? with|some (some v)=>Q v H|_=>False) (eval (.Name t w) A.env):=by
 intro Q H s d st;refine aH (zL d) λv n d=>?_;obtain⟨⟨q,p,j,hc,h⟩,_⟩:=st.fr;have h:=h.1 i t v k n;refine CR ?_ l;refine bq g (λz=>bp z λa b=>?_) λb=>?_;·exact aH (h.1 a b) λu e r=>yf o.a b j e<|bQ v H (.F st.ag) r d
 ·refine aH (h.2 b) λu e r=>aF (o.h t b) λc f=>Le o.a b f (e▸hc t c f)<|bQ v H (.F st.ag) r d
def Qi{l}{i:Nat}(o:A.f)(b:A.d[i]? =Y l)(h:A.e=true/\A.env.kindOf l=Y .local)(c:(l==("__debug__"))=false):
  bD W A E m B (λQ H=>match B[i]? with|some (some v)=>Q v H|_=>False) (eval (.Name l pos) A.env):=by
 intro Q H s d st;refine aH (zL d) λv f d=>?_;obtain⟨⟨k,j,a,hc,g⟩,_⟩:=st.fr;refine aH (g.2 h.1 i l v b f h.2) λu e r=>?_;exact CR (yf o.a h.2 a e<|bQ v H (.F st.ag) r d) c
end
structure cZ(A:di):Prop where
 b:A.handled=O
 a:A.units+60<cLine
section
variable {W:Wd}{A:di}{E:VK}{H:Hp}{s:bU}
def dU{Q:VK}(g:bu W H s.heap)(h:aT W.T (aU W.fr H) s.heap r v)(q:Q r H):
  ∃b a,Nx W H s a {s with toks:=k}/\RV W a {s with toks:=k}.heap b v/\Q b a:=bQ r H (.toks g) h q
def fv{Q:VK}(g:bu W H s.heap)(h:aT W.T (aU W.fr H) s.heap r v)(q:Q r H):
  ∃b a,Nx W H s a s/\RV W a s.heap b v/\Q b a:=bQ r H (.F g) h q
def kz(h:Heap):h.get? h.objs.size=O:=pe<|bN _
def bu.L(g:bu W H s.heap):¬aU W.fr H s.heap.objs.size:=g.z.N<|kz _
def bu.X(g:bu W H s.heap):H s.heap.objs.size=O:=by
 cases q:H s.heap.objs.size with
 |none=>rfl
 |some o=>exact absurd (.inl ⟨o,q⟩) g.L
def Nx.M(g:bu W H s.heap){c}(h:∀a,o.l a=[a])
  (n:df W.fr H s.heap (H.ag s.heap.objs.size o) (s.heap.push c)->gE W.T W.p W.w (aU W.fr<|H.ag s.heap.objs.size o) (s.heap.push c) s.heap.objs.size o):
  Nx W H s (H.ag s.heap.objs.size o) {s with heap:=s.heap.push c,toks:=k}:=by
 refine bp (g.z.ah (kz s.heap) λx f=>by rw[h,dm]at f;subst f;exact kz _
  (λC d v e=>by have:=h 0;rw[e]at this;simp[AO.l]at this) (λx c e=>fC _ e) n) λb R=>?_
 exact⟨b,λx o _ e=>.i<|fC _ e,g.ah b R λx o e=>by refine U (g.D x o e)<|fC _<|g.D x o e,V,V⟩
def ue(g:bu W H s.heap)(c:bk W.T (aU W.fr H) s.heap vs items.toList)(d:iR mu vs Q H):
  ∃b i,Nx W H s i {s with heap:=s.heap.push {cls:=.type "list",data:=.seq items}}/\RV W i (s.heap.push {cls:=.type "list",data:=.seq items}) b (.ref s.heap.objs.size)/\Q b i:=by
 have n:=Nx.G g {cls:=.type "list",data:=.seq items};have e:(s.heap.push {cls:=.type "list",data:=.seq items}).PlainList s.heap.objs.size items:=⟨_,kb _ V⟩;refine bp d λh d=>?_;induction mu using Bool.casesOn with
 |false=>exact bQ (.g vs) H n (kr _ items V g.L e (c.d n.j) h)<|d
 |true=>
  exact bQ (.f _) _ (Nx.M (o:=.b vs) g (λa=>V) λf=>cq items e (c.d f) h) V<|d _ g.X
def Xj{Q:VK}(g:bu W H s.heap)(a:bk W.T (aU W.fr H) s.heap vs items.toList)(h:vs.length<=sz)(d:Q (.l vs) H):
  ∃b c,Nx W H s c {s with heap:=s.heap.push {cls:=.type "tuple",data:=.seq items}}/\RV W c (s.heap.push {cls:=.type "tuple",data:=.seq items}) b (.ref s.heap.objs.size)/\Q b c:=by
 have n:=Nx.G g {cls:=.type "tuple",data:=.seq items};exact bQ (.l vs) H n (kr _ items V g.L (As _ (kb _ V) V _ V) (a.d n.j) h) d
def hB(g:bu W H s.heap)(r:aT W.T (aU W.fr H) s.heap a v)(l:cf H a=Y vs):
  ∃x i,v=.ref x/\s.heap.PlainList x i/\bk W.T (aU W.fr H) s.heap vs i.toList/\vs.length<=sz:=by
 refine bq (G7 l) (λe=>?_) λh=>?_;·subst e;exact iv r λx i e _ p q z=>eX x i e p q z
 ·refine aH h λd b e=>?_;subst b;exact cw (g.z.M _ _ e) λi p q z=>eX _ i r p q z
def eP{T}{i:Array bI}(l:bk T o h vs i.toList):i.size=vs.length:=U l.f<|U mD V
def eJ:sz=1048576:=by decide
def aa0:ix=1099511627776:=by decide
def aaX(h:x.natAbs<ix.natAbs):Builtin.Int.intBits x<=64:=by
 have:ix.natAbs=1099511627776:=by decide
 exact intBits_le_64 (fR λz=>aJ [_] [_] [.l 1 aI<|.g<|.n 18446744073709551616,.e 1 af aI] V z<|iI<|b9 λd=>aJ [_,_] [_] [.l 1 (.c<|.a bo aX) aG,.e 1 aG<|.c<|.n 1099511627776,.l 1 aI<|.g<|.n 18446744073709551616,.l 1 (.g aI) af] V (nl h) (nE this) z<|fK<|x)<|fR λz=>aJ [_,_] [_] [.l 1 (.c<|.a bo aX) aG,.e 1 aG<|.c<|.n 1099511627776,.l 1 (.n 18446744073709551616) aI,.l 1 aI af] V (nl h) (nE this) z<|fJ<|x
def Sm(d:0<y)(h:y<ix):Builtin.divisionGoesByPylong x y=false:=by refine LH ?_;rw[aa0]at h;have:y.natAbs.log2<41:=(Nat.log2_lt<|by exact λz=>aJ [_] [_] [.l 1 (.a bJ aM) aI,.e 1 af<|.c<|.n 0,.l 1 aI af] V d (nE z)<|fJ<|y).mpr<|b8 λz=>aJ [_] [_] [.l 1 (.a aI aM)<|.n 1099511627776,.l 1 (.c<|.a (.n 2199023255552) aX)<|.c<|.a bo aX,.e 1 af aI] V h z<|iI<|b9 λf=>aJ [] [_] [.l 1 (.a bJ aM) aI,.l 1 (.a aI aM) bJ] V d f;exact aW [_] (.a (.v 0)<|.n 1) (.n 9000) [(.a (.v 0)<|.n 1,.n 41)] V this
def iQ{T}:aT T o h (.c x)<|.int x t:=⟨t,V⟩
def eW{T}:aT T o h (.e b)<|.bool b:=V
def tE{T}(z:b.length<=sz):aT T o h (.d b)<|.bytes b.toArray t:=aO t V z
noncomputable def lG:u5->Option oE
 |.Add=>Y .a|.Sub=>Y .b|.Mult=>Y .e|.FloorDiv=>Y .c|.Mod=>Y .d|_=>O
noncomputable def SR:oE->u5|.a=>.Add|.b=>.Sub|.e=>.Mult|.c=>.FloorDiv|.d=>.Mod
def z'(h:lG o=Y b):o=SR b:=by induction o using PySem.Operator.casesOn<;>first|exact aS h|((have h:=bz h;subst h);rfl)
def Zm(g:bu W H s.heap)(c:cZ A)(D:aT W.T (aU W.fr H) s.heap va a)(C:aT W.T (aU W.fr H) s.heap vb b)
  (d:iw op mu va vb Q H) (I:lG o=Y op):aQ W A E (RV W) Q (binaryOp o a b) H s:=by
 have I:=z' I;subst I;have m:∀{P:Int->Int->Prop}{G},(∃x y,va=.c x/\vb=.c y/\P x y)->(∀x y t u,a=.int x t->b=.int y u->P x y->G)->G:=λh k=>
  cj h λx y j i p=>aF (j▸D:aT _ _ _ (.c x) a) λt L=>aF (i▸C:aT _ _ _ (.c y) b) λu T=>k x y t u L T p
 induction op using bc.oE.casesOn with
 |a=>
  rcases d with d|d|d;·exact m d λx y t u j i q=>j▸i▸adn (dU g iQ q)
  ·refine eh d λx y j i z q=>?_;subst j i
   (refine aH D λt f _=>?_;clear D;subst f);(refine aH C λu f _=>?_;clear C;subst f)
   refine KBy.add_bytes ?_ λX k=>?_;·have:=z;rw[eJ,bZ]at this;simp only[mi];exact aW [_,_] (.a (.v 0)<|.v 1) (.n 16777216) [(.a (.v 0)<|.v 1,.n 1048576)] V this
   ·exact U (List.append_toArray _ _)<|dU g (tE z) q
  ·refine cj d λx y M Z d=>?_
   (refine eh (hB g D M) λl e f w K S=>aF w λn N=>?_;subst f)
   (refine eh (hB g C Z) λa1 r f w B F=>aF w λa0 v=>?_;subst f)
   refine PySem.P.add_list N v (ue g ?_ d) ?_;·exact U NL<|K.g B
   ·have:=eP K;have:=eP B;have:=eJ;exact U fT<|b8 λR=>aJ [_,_,_,_,_] [] [.l 1 af aG,.l 1 bf aG,.e 1 cM af,.e 1 dA bf,.e 2 aG<|.c<|.n 1048576,.l 1 (.c<|.a (.n 16777216) aX)<|.c<|.a bK cX] V (nl S) (nl F) (nE<|‹(e.size=x.length)›) (nE<|‹(r.size=y.length)›) (nE this) R
 |b=>exact m d λx y t u j i q=>j▸i▸ac7 (dU g iQ q)
 |e=>exact m d λx y t u j i q=>j▸i▸ada (dU g iQ q.2) (.of_left<|aaX q.1.1)
 |c=>
  refine m d λx y t u j i q=>j▸i▸?_;refine adk (yO q.1.1) ?_<|.inl<|Sm q.1.1 q.1.2;exact U (Int.fdiv_eq_ediv_of_nonneg _<|DS q.1.1)<|dU g iQ q.2
 |d=>
  refine m d λx y t u j i q=>j▸i▸?_;refine adb (yO q.1.1) ?_;exact U (Int.fmod_eq_emod_of_nonneg _<|DS q.1.1)<|dU g iQ q.2
end
end bc
end
section
set_option backward.match.sparseCases false
open PySem PySem.W PyProof.Rows PySem.SeqAt
namespace bc
theorem Ca:∀{v}{p},jj v=Y p->v=p.map .d
 |[],p,e=>by(have e:=bz e;subst e);rfl
 |a::r,p,e=>by refine aH (ob e) λb c e=>aH (om e) λq h d=>?_;subst d;exact U (AV.q c)<|U (Ca h) V
theorem Kw:∀{v}{p},ot v=Y p->v=p.map .e
 |[],p,e=>by(have e:=bz e;subst e);rfl
 |a::r,p,e=>by refine aH (ob e) λb c e=>aH (om e) λq h d=>?_;subst d;exact U (AV.w c)<|U (Kw h) V
theorem pV:∀{v}{p},kx v=Y p->v=p.map .c
 |[],p,e=>by(have e:=bz e;subst e);rfl
 |a::r,p,e=>by refine aH (ob e) λb c e=>aH (om e) λq h d=>?_;subst d;exact U (AV.o c)<|U (pV h) V
section
variable {T:jn}{o:Addr->Prop}{h:Heap}
theorem Kn:∀{p:List<|List UInt8}{g},bk T o h (p.map .d) g->g.length=p.length/\∀j a(c:j<p.length),∃t,g[j]=.bytes p[j].toArray t
 |[],[],_=>⟨V,λj a=>by simp at a⟩
 |b::r,u::t,x=>by
  refine bp (Kn x.2) λe k=>?_;refine aH x.1 λd f _=>?_;refine⟨by simp[e],λj a c=>?_⟩;induction j using Nat.casesAuxOn with
  |zero=>exact⟨d,f⟩
  |succ j=>exact k j (by simpa using a)<|by simpa using c
 |[],_::_,x=>x.elim
 |_::_,[],x=>x.elim
def xR(e:jj vs=Y p)(x:bk T o h vs us):us.length=p.length/\∀j b(a:j<p.length),∃t,us[j]=.bytes p[j].toArray t:=Kn<|Ca e▸x
theorem Kv:∀{p:List Bool}{a},bk T o h (p.map .e) a->a=p.map .bool
 |[],[],_=>by rfl
 |b::r,u::t,x=>by refine U (Kv x.2)<|U x.1 ?_;rfl
 |[],_::_,x=>x.elim
 |_::_,[],x=>x.elim
def Cf(e:ot vs=Y p)(x:bk T o h vs us):us=p.map .bool:=Kv<|Kw e▸x
theorem Iz:∀{p:List Int}{g},bk T o h (p.map .c) g->g.length=p.length/\∀j a(c:j<p.length),∃t,g[j]=.int p[j] t
 |[],[],_=>⟨V,λj a=>by simp at a⟩
 |b::r,u::t,x=>by
  refine bp (Iz x.2) λe k=>?_;refine aF x.1 λd f=>?_;refine⟨by simp[e],λj a c=>?_⟩;induction j using Nat.casesAuxOn with
  |zero=>exact⟨d,f⟩
  |succ j=>exact k j (by simpa using a)<|by simpa using c
 |[],_::_,x=>x.elim
 |_::_,[],x=>x.elim
def IA(e:kx vs=Y p)(x:bk T o h vs us):us.length=p.length/\∀j b(a:j<p.length),∃t,us[j]=.int p[j] t:=Iz<|pV e▸x
def R0(r:bk T o h [] us):us=[]:=by
 induction us using List.casesOn with
 |nil=>rfl
 |cons=>exact r.elim
def wN(r:bk T o h (a::l) us):∃u t,us=u::t/\aT T o h a u/\bk T o h l t:=by
 induction us using List.casesOn with
 |nil=>exact r.elim
 |cons u t=>exact bQ u t V r.1 r.2
def hY(r:bk T o h [a] us):∃u,us=[u]/\aT T o h a u:=
 cj (wN r) λu t e c b=>aO u (e.trans<|congrArg _<|R0 b) c
def lF(r:bk T o h [a,b] us):∃u v,us=[u,v]/\aT T o h a u/\aT T o h b v:=
 cj (wN r) λu t e d c=>aH (hY c) λv g f=>bQ u v (e.trans<|congrArg _ g) d f
def tF(r:bk T o h [a,b,c] us):∃u v x,us=[u,v,x]/\aT T o h a u/\aT T o h b v/\aT T o h c x:=
 cj (wN r) λu t e f j=>cj (lF j) λv x i g d=>dG u v x (e.trans<|congrArg _ i) f g d
end
def KV{α:Type}[DecidableEq α]{p q:List α}(b:p.length=q.length):((fV p.length).all λj=>decide (p[j]? =q[j]?))=decide (p=q):=by
 refine U (propext nO) ?_;simp only[my,mj,decide_eq_true_eq];constructor
 ·intro h;apply sR;intro i;by_cases a:i<p.length;·exact h i a
  ·exact U (mr<|aW [_,_] (.v 0) (.v 1) [(.v 0,.v 1)] V<|dj.mp a)<|U (mr<|aW [_,_,_] (.v 0) (.v 1) [(.v 2,.v 1),(.v 0,.v 2)] V (dj.mp a)<|bb<|cc b) V
 ·rintro rfl _ _;rfl
section
variable {W:Wd}{A:di}{E:VK}{H:Hp}{s:bU}
def Jt(b c:List UInt8)t u:EqAt A s (.bytes b.toArray t) (.bytes c.toArray u)<|decide (b=c):=λp w E Q a=>by
 refine e5 ?_;refine jr (λh=>?_) λ_=>?_
 ·injection (eq_of_beq h)with e1 e2;have:b=c:=by simpa using e1
  exact aN<|oF<|br<|by simpa[this]using a
 ·refine aN ?_;have:(b==c)=decide (b=c):=by refine U (propext nO) ?_;simp
  exact eq_bytes<|qo<|by refine U sH<|U sH<|U this ?_;exact a
def R4(g:bu W H s.heap)(c:cZ A)(S:aT W.T (aU W.fr H) s.heap va a)(N:aT W.T (aU W.fr H) s.heap vb b)
  (e:BE H va vb=Y r):RcAt A s a b r/\RcNeAt A s a b (!r):=by
 refine aH (ob e) λx Z e=>aH (ob e) λy P e=>?_;have D:A.units<cLine:=by have:=c.a;exact aW [_,_] (.a (.v 0)<|.n 1) (.v 1) [(.a (.a (.v 0)<|.n 60)<|.n 1,.v 1)] V this
 (refine eh (hB g S Z) λl n o C F X=>?_;subst o)
 (refine eh (hB g N P) λk i o d m a0=>?_;subst o)
 by_cases E:x.length≠y.length
 ·have e:=(if_pos E).symm.trans e
  (have e:=bz e;subst e)
  have w:(n.size !=i.size)=true:=by refine U (eP F)<|U (eP m) ?_;simpa using E
  exact⟨.lists_lengths C.isList d.isList w D,.lists_lengths C.isList d.isList w D⟩
 ·refine aH (ob<|(if_neg E).symm.trans e) λp R e=>aH (om e) λq T e=>?_;subst e;have h:n.size=i.size:=by refine U (eP F)<|U (eP m) ?_;exact Decidable.not_not.mp E
  refine bp (xR R F) λf M=>?_;refine bp (xR T m) λk Q=>?_;rw[mD]at f k;have K:∀j z(B:j<i.size),EqAt A.in1 s n[j] i[j]<|decide (p[j]? =q[j]?):=λj z B=>by refine aF (M j (z)<|aW [_,_,_] (.a (.v 0)<|.n 1) (.v 1) [(.v 2,.v 1),(.a (.v 0)<|.n 1,.v 2)] V (bb f) z) λt L=>?_;refine aF (Q j (B)<|aW [_,_,_] (.a (.v 0)<|.n 1) (.v 1) [(.v 2,.v 1),(.a (.v 0)<|.n 1,.v 2)] V (bb k) B) λu I=>?_;rw[NO]at L I;refine U L<|U I<|U (hU<|by exact aW [_,_,_] (.a (.v 0)<|.n 1) (.v 1) [(.v 2,.v 1),(.a (.v 0)<|.n 1,.v 2)] V (bb f) z)<|U (hU<|by exact aW [_,_,_] (.a (.v 0)<|.n 1) (.v 1) [(.v 2,.v 1),(.a (.v 0)<|.n 1,.v 2)] V (bb k) B) ?_;have:=Jt (A:=A.in1) (s:=s) (p[j]'(aW [_,_,_] (.a (.v 0)<|.n 1) (.v 1) [(.v 2,.v 1),(.a (.v 0)<|.n 1,.v 2)] V (bb f) z)) (q[j]'(aW [_,_,_] (.a (.v 0)<|.n 1) (.v 1) [(.v 2,.v 1),(.a (.v 0)<|.n 1,.v 2)] V (bb k) B)) t u;simpa using this
  have v:=RcAt.lists (e:=λj=>decide (p[j]? =q[j]?)) C.isList d.isList h D K;have G:=RcNeAt.lists (e:=λj=>decide (p[j]? =q[j]?)) C.isList d.isList h D K;rw[(U f<|KV (dB (aW [_,_,_,_] (.v 0) (.v 1) [(.v 3,.v 1),(.v 2,.v 3),(.v 0,.v 2)] V (bb k) (bb h)<|bb<|cc f)<|aW [_,_,_,_] (.v 1) (.v 0) [(.v 2,.v 0),(.v 3,.v 2),(.v 1,.v 3)] V (bb f) (bb<|cc h)<|bb<|cc k):(fV n.size).all (λj=>decide (p[j]? =q[j]?))=decide (p=q))]at v G;exact⟨v,G⟩
def xS{α:Type}[BEq α][LawfulBEq α][DecidableEq α](x y:α):(x==y)=decide (x=y):=by refine U (propext nO) ?_;simp
def R3(g:bu W H s.heap)(c:cZ A)(z:aT W.T (aU W.fr H) s.heap (.l x) a)(t:aT W.T (aU W.fr H) s.heap (.l y) b)(E:ot x=Y p)(D:ot y=Y q):
  RcAt A s a b (decide (p=q))/\RcNeAt A s a b (!decide (p=q)):=by
 have B:A.units<cLine:=by have:=c.a;exact aW [_,_] (.a (.v 0)<|.n 1) (.v 1) [(.a (.a (.v 0)<|.n 60)<|.n 1,.v 1)] V this
 (refine iv z λl n d _ w F _=>?_;clear z;subst d)
 (refine iv t λI i d _ f o _=>?_;clear t;subst d)
 have K:n=(p.map jt).toArray:=aP (Cf E F) V;have v:i=(q.map jt).toArray:=aP (Cf D o) V;subst K v;have C:∀j k(m:j<(q.map jt).toArray.size),EqAt A.in1 s (p.map jt).toArray[j] (q.map jt).toArray[j]<|decide (p[j]? =q[j]?):=λj k m=>by simp only[mi,bx]at k m;refine U (hU k)<|U (hU m) ?_;have:=DW (A:=A.in1) (s:=s) p[j] q[j];rw[xS]at this;simpa using this
 have G:((fV<|min (p.map jt).toArray.size (q.map jt).toArray.size).all (λj=>decide (p[j]? =q[j]?))&&(p.map jt).toArray.size==(q.map jt).toArray.size)=decide (p=q):=by
  simp only[mi,bx];by_cases h:p.length=q.length;·refine U h<|U (LZ _)<|aP h<|U (KV h) ?_;simp
  ·have:p≠q:=λe=>h (U e V);simp[h,this]
 have u:=RcAt.tuples (e:=λj=>decide _) w f B C;have r:=RcNeAt.tuples w f B C;rw[G]at u r;exact⟨u,r⟩
def FN(g:bu W H s.heap)(c:cZ A)(j:aT W.T (aU W.fr H) s.heap va a)(i:aT W.T (aU W.fr H) s.heap vb b)(e:rR H va vb=Y r):
  RcAt A s a b r/\RcNeAt A s a b (!r):=by
 induction va using bc.AV.casesOn with
 |c x=>
  refine aH (om e) λy f k=>?_;have h:=AV.o f;clear f e;subst h k
  (refine aF j λt d=>?_;clear j;subst d);(refine aF i λu d=>?_;clear i;subst d)
  exact⟨λn w E Q h=>adl h,λn w E Q h=>ac9 h⟩
 |d x=>
  refine aH (om e) λy f k=>?_;have h:=AV.q f;clear f e;subst h k
  (refine aH j λt d _=>?_;clear j;subst d);(refine aH i λu d _=>?_;clear i;subst d)
  exact⟨λn w E Q h=>eq_bytes<|by refine U sH<|U sH<|U (xS _ _) ?_;exact h,λn w E Q h=>ne_bytes<|by rw[bne,sH,sH,xS];exact h⟩
 |m x=>
  refine aH (om e) λy f k=>?_;have h:=AV.u f;clear f e;subst h k
  (refine aF j λt d=>?_;clear j;subst d);(refine aF i λu d=>?_;clear i;subst d)
  exact⟨λn w E Q h=>LK h,λn w E Q h=>ac8 h⟩
 |l x=>
  refine aH (ob e) λy f e=>aH (ob e) λp m e=>aH (om e) λq l k=>?_;have h:=AV.r f;subst h k;exact R3 g c j i m l
 |_=>exact R4 g c j i e
end
end bc
end
section
set_option backward.match.sparseCases false
open PySem PySem.W PyProof.Rows PySem.SeqAt PySem.MeetsSeq PySem.MeetsSeq2 PySem.MeetsSeq3 PySem.SeqRoads2
open AutoSeq1 (wpAny_loadPart')
namespace bc
def U5{p q:List Int}i h(a:i<q.length):nY (p.drop i) (q.drop i)=if p[i]=q[i]then nY (p.drop<|i+1)<|q.drop<|i+1 else decide (p[i]<q[i]):=by refine U (oY h)<|U (oY a) ?_;rfl
def OV l b c f n T a1 H N a3 p q(k:p.length=q.length)(D:c.size=p.length)(B:f.size=q.length)
  (X:∀j I(G:j<p.length),∃t,c[j]=.int p[j] t) (W:∀j I(G:j<q.length),∃t,f[j]=.int q[j] t):
  Meets (Builtin.«tuple.__lt__» ⟨[.ref l,.ref b],[]⟩)
   (λA R s=>s.heap.get? l=Y {cls:=.type "tuple",dict:=a1,data:=.seq c n,slots:=N}/\s.heap.get? b=Y {cls:=.type "tuple",dict:=H,data:=.seq f T,slots:=a3}/\
    R (.ok (.ret (.bool (nY p q)))) s):=
 .of_wp λprog w A R s h=>by
  obtain⟨M,g,d,L,os⟩:=s;refine dN h λP a0 h=>?_;have Z:=AutoSeq1.sub_tuple_tuple;have K:(c.toList.zip f.toList).length=p.length:=by simp;exact cN<|cA [_,_,_] [] bf af [.e 1 aG af,.e 1 bf aG] V (nE D)<|nE<|fB<|b8 (a:=c.size) (b:=f.size) λQ=>aJ [_,_,_,_] [] [.e 1 af aG,.e 1 bf af,.e (-1) cM aG,.l 1 (.c<|.a bK aX) bf] V (nE k) (nE D) (nE B) Q
  wp_walk using wpAny_loadPart' P,wpAny_loadPart' a0,CN _ (λr b v=>b.1=O/\v=⟨M,g,d,L,os⟩/\∃i,r=(c.toList.zip f.toList).drop i/\
   R (.ok (.ret (.bool (nY (p.drop i) (q.drop i))))) ⟨M,g,d,L,os⟩) _
  case turn=>
   rintro ⟨y,x⟩ r b v ⟨o,rfl,i,hz,m⟩
   have F:i<(c.toList.zip f.toList).length:=by
    refine bq (hO i (c.toList.zip f.toList).length) (λe=>?_) λe=>?_;·exact e
    ·rw[qO e]at hz;cases hz
   have E:=K▸F;have I:i<c.size:=aW [_,_,_] (.a (.v 0)<|.n 1) (.v 1) [(.v 2,.v 1),(.a (.v 0)<|.n 1,.v 2)] V (bb<|cc D) E;have G:i<f.size:=aW [_,_,_,_] (.a (.v 0)<|.n 1) (.v 1) [(.v 3,.v 1),(.v 2,.v 3),(.a (.v 0)<|.n 1,.v 2)] V (bb<|cc B) (bb k) E;rw[oY F]at hz;injection hz with IG Bf;have z:y=c[i]:=by have:=congrArg yp IG;simpa using this
   have hx:x=f[i]:=by have:=congrArg Prod.snd IG;simpa using this
   refine aF (X i I E) λt a2=>?_;refine aF (W i G<|aW [_,_,_] (.a (.v 0)<|.n 1) (.v 1) [(.v 2,.v 1),(.a (.v 0)<|.n 1,.v 2)] V (bb k) E) λu S=>?_;subst z hx;refine U a2<|U S ?_;rw[U5 i E<|b8 λa4=>aJ [_,_,_] [] [.e 1 aG af,.l 1 (.c<|.a bA aX) aG,.l 1 (.c<|.a bo aX)<|.c<|.a bA aX] V (nE B) (nl G) a4]at m;refine aN<|wpAny_eqBool_int ?_;by_cases z:p[i]=q[i]
   ·rw[if_pos z]at m;refine U z<|U (beq_self_eq_true _) ?_
    wp_walk
    exact⟨V,V,i+1,Bf,m⟩
   ·rw[if_neg z]at m;refine U (beq_eq_false_iff_ne.mpr z) ?_
    wp_walk using(show bw _ _ (richCompare .Lt _ _) _ _ _ from LJ ?_)
    exact aO _ V m
  case fin=>
   rintro ⟨b1,b2⟩ v ⟨o,rfl,i,hz,m⟩
   simp only at o;subst o;have C:p.length<=i:=by
    refine bq (hO i (c.toList.zip f.toList).length) (λe=>?_) λe=>?_;·rw[oY e]at hz;cases hz
    ·exact K▸e
   rw[qO C,qO<|by exact aW [_,_,_] (.v 0) (.v 1) [(.v 2,.v 1),(.v 0,.v 2)] V C<|bb<|cc k]at m
   wp_walk
   refine aO _ V ?_;have:c.size=f.size:=dB (aW [_,_,_,_] (.v 0) (.v 1) [(.v 3,.v 1),(.v 2,.v 3),(.v 0,.v 2)] V (bb<|cc B) (bb k)<|bb D)<|aW [_,_,_,_] (.v 1) (.v 0) [(.v 2,.v 0),(.v 3,.v 2),(.v 1,.v 3)] V (bb<|cc D) (bb<|cc k)<|bb B;simpa[ads,this,nY]using m
  case h=>
   exact⟨V,V,0,V,h⟩
end bc
end
section
open PySem PySem.W PyProof.Rows PySem.SeqAt PySem.MeetsSeq
namespace bc
def N5{K}[DecidableEq K]{i:HeapKind prog w K}{k}{x}(f:i.room A.in1)(b:i.is s.heap k a)(g:(d==CT)=false)(c:s.heap.DictOfH i d x)
  (h:Q (.bool<|!(kS x k).isSome) {s with toks:=s.toks+i.draws k}):bw (bM prog w) A (kO .NotIn (.ref a)<|.ref d) Q E s:=by
 refine(?_:bw _ _ _ Q E s);refine aN ?_;unfold contains
 try with_reducible refine e5 ?_
 refine aN<|wpAny_specialOf c.typeIs CW.lookup ?_;refine(?_:bw _ _ _ _ E s);refine U (if_neg<|by refine U (Ls _)<|vX) ?_;refine aN (wpAny_callSpecialUnlessNone?_slot c.typeIs CW
  (Lj CW c.typeIs entry_dict_contains ?_ (args_dict_contains _ _)))
 refine(?_:bw _ _ (dictGet d _>>=_) _ _ s);refine aN<|wpAny_dictGet_heap f b c ?_;cases e:kS x k with
 |some p=>
  rw[e]at h;exact br<|aO _ V<|qo<|br h
 |none=>
  rw[e]at h;exact aN<|wpAny_pendingKey_other g<|br<|aO _ V<|qo<|br h
section
variable {W:Wd}{A:di}{E:VK}{H:Hp}{s:bU}
def bu.I(a:W.y)(g:bu W H s.heap)(e:H d=Y o):(d==CT)=false:=by
 refine U (propext beq_eq_false_iff_ne) ?_
 rintro rfl
 refine aF a.u λb h=>?_;exact g.F _ _ h<|.inl ⟨o,e⟩
def pT i t:(ny W.p W.w).is i (.int i t)=true:=by simp[ny,bI.isInt]
def A5 x t:(oO W.p W.w).is x (.str x t)=true:=by simp[oO,bI.isStrOf]
def AW{T}(r:aT T own h a v)(e:xf a=Y k):
  ∃x,v=.ref x/\¬own x/\(tupleKind<|uF prog w).is h [.inl k.1,.inr k.2] x:=by
 refine aH (ob e) λl s e=>aH (ob e) λp D e=>aH (ob e) λb m e=>aH (om e) λy C q=>?_;have c:=OP D;rw[AV.w m,AV.q C]at c;subst c q
 (refine iv (AV.r s▸r) λx G f B z c _=>um z λo u j n i=>?_;subst f)
 refine cj (lF c) λE F g A d=>aH d λt d _=>?_;refine⟨x,V,B,o,G,n,u,j,i,?_⟩;refine U g<|U A<|U d ?_;exact .cons (by simp[uF,tX])<|.cons (by simp[uF,tX]) .nil
def acN{T}(e:jj vs=Y p)(r:bk T o h vs us):
  us.any (λy=>match y with|.bytes b _=>decide (b.toList=x)|_=>false)=p.contains x:=by
 refine bp (xR e r) λd k=>?_;refine U (propext nO) ?_;simp only[DG,vN];constructor
 ·rintro ⟨y,hy,hd⟩
  obtain⟨j,c,rfl⟩:=Mf.mp hy;refine aF (k j c<|aW [_,_,_] (.a (.v 0)<|.n 1) (.v 1) [(.v 2,.v 1),(.a (.v 0)<|.n 1,.v 2)] V (bb d) c) λt f=>?_;rw[f]at hd;exact aP (by simpa using hd:p[j]'(aW [_,_,_] (.a (.v 0)<|.n 1) (.v 1) [(.v 2,.v 1),(.a (.v 0)<|.n 1,.v 2)] V (bb d) c)=x)<|vF _
 ·intro a;obtain⟨j,c,rfl⟩:=Mf.mp a;refine aF (k j (aW [_,_,_] (.a (.v 0)<|.n 1) (.v 1) [(.v 2,.v 1),(.a (.v 0)<|.n 1,.v 2)] V (bb<|cc d) c) c) λt f=>?_;exact aO _ (vF _)<|by refine U f ?_;simp
def acO{p:List Bool}:(p.map jt).any (λy=>match y with|.bool b=>decide (b=x)|_=>false)=p.contains x:=by refine U (propext nO) ?_;simp[List.any_map]
def Jz(G:W.y)(g:bu W H s.heap)(c:cZ A)(C:aT W.T (aU W.fr H) s.heap va a)(L:aT W.T (aU W.fr H) s.heap vb b)
  (e:xi H va vb=Y r):(Q (.e r) H->aQ W A E (RV W) Q (kO .In a b) H s)/\(Q (.e<|!r) H->aQ W A E (RV W) Q (kO .NotIn a b) H s):=by
 have a2:(tupleKind<|uF W.p W.w).room A.in1:=CS<|by have:=c.a;exact aW [_,_] (.a (.a (.v 0)<|.n 1)<|.n 1) (.v 1) [(.a (.a (.v 0)<|.n 60)<|.n 1,.v 1)] V this
 induction vb using bc.AV.casesOn with
 |f d=>
  subst L;refine aH (ob e) λo z e=>?_;induction o using bc.AO.casesOn with
  |c f n=>
   refine aH (om e) λi R N=>?_;have h:=AV.o R;clear R e;subst h N
   (refine aF C λt m=>?_;clear C;subst m)
   refine cw (g.z.M _ _ z) λkvs D hn B=>?_;exact⟨λq=>wpAny_in_of (pT i t) (g.I G z) D.mapOf<|by exact U ((B i).a)<|dU g eW q,λq=>wpAny_notIn_of (pT i t) (g.I G z) D.mapOf<|U ((B i).a)<|dU g eW q⟩
  |g f n=>
   refine aH (om e) λk Z N=>?_;subst N
   (refine cw (AW (prog:=W.p) (w:=W.w) C Z) λx m T P=>?_;subst m)
   refine kC (g.z.M _ _ z) λxs D hn a4 B=>?_;have B:=(B k).a;exact⟨λq=>wpAny_in_heap a2 P (g.I G z) D<|U B<|dU g eW q,λq=>N5 a2 P (g.I G z) D<|U B<|dU g eW q⟩
  |_=>exact aS e
 |l vs=>
  (refine iv L λl v m a4 I K _=>?_;clear L;subst m)
  induction va using bc.AV.casesOn with
  |d x=>
   (refine aH (om e) λp a0 m=>?_;clear e;subst m)
   (refine aH C λt m _=>?_;clear C;subst m)
   have z:∀y,y∈v->EqAt A.in1 s y (.bytes x.toArray t) (match y with|.bytes b _=>decide (b.toList=x)|_=>false):=λy F=>by obtain⟨j,a1,rfl⟩:=Array.mem_iff_getElem.mp F;refine bp (xR a0 K) λM X=>?_;have M:=mD▸M;refine aF (X j (a1)<|by exact aW [_,_,_] (.a (.v 0)<|.n 1) (.v 1) [(.v 2,.v 1),(.a (.v 0)<|.n 1,.v 2)] V (bb M) a1) λu S=>?_;rw[NO]at S;exact U S<|Jt _ _ _ _
   have T:=acN (x:=x) a0 K;rw[NU]at T;exact⟨λq=>in_tupleAt _ I z<|U T<|fv g eW q,λq=>notIn_tupleAt _ I z<|U T<|fv g eW q⟩
  |e x=>
   (refine aH (om e) λp a0 m=>?_;clear e;subst m)
   subst C;have a3:v=(p.map jt).toArray:=aP (Cf a0 K) V;subst a3;have z:∀y,y∈(p.map jt).toArray->EqAt A.in1 s y (.bool x) (match y with|.bool b=>decide (b=x)|_=>false):=λy F=>by
    simp only[List.mem_toArray,iG]at F
    (refine aH F λb _ m=>?_;clear F;subst m)
    have:=DW (A:=A.in1) (s:=s) b x;rw[xS]at this;exact this
   have T:(p.map jt).toArray.any (λy=>match y with|.bool b=>decide (b=x)|_=>false)=p.contains x:=aP acO<|aP NU V;exact⟨λq=>in_tupleAt _ I z<|by exact U T<|fv g eW q,λq=>notIn_tupleAt _ I z<|U T<|fv g eW q⟩
  |_=>exact aS e
 |_=>exact aS e
noncomputable def ux:CmpOp->CL
 |.Eq=>.a|.NotEq=>.c|.Lt=>.d|.LtE=>.j|.Gt=>.f|.GtE=>.i|.Is=>.h|.IsNot=>.e|.In=>.g|.NotIn=>.b
def Zh(g:bu W H s.heap)(c:cZ A)(G:aT W.T (aU W.fr H) s.heap va a)(D:aT W.T (aU W.fr H) s.heap vb b)
  (e:GY va vb=Y r) (q:Q (.e r) H):aQ W A E (RV W) Q (kO .Lt a b) H s:=by
 induction va using bc.AV.casesOn with
 |c x=>
  refine aH (om e) λy B ee=>?_;have h:=AV.o B;clear B e;subst h ee
  (refine aF G λt d=>?_;clear G;subst d);(refine aF D λu d=>?_;clear D;subst d)
  exact LJ<|fv g eW q
 |l x=>
  refine aH (ob e) λy B e=>aH (ob e) λp ep e=>aH (ob e) λT Z P=>?_;have h:=AV.r B;subst h;by_cases f:p.length=T.length
  ·have e:=(if_pos f).symm.trans P
   (have e:=bz e;subst e)
   (refine iv G λl v d _ z X _=>um z λo S a0 n R=>?_;subst d)
   (refine iv D λa1 i d _ z M _=>um z λo2 w m n2 k=>?_;subst d)
   refine bp (IA ep X) λl1 a2=>?_;refine bp (IA Z M) λL k2=>?_;obtain⟨cls,dd,data,sl⟩:=o;obtain⟨a4,I,K,a3⟩:=o2;simp only at a0 R m k;subst a0 R m k;refine richCompare_meets_room (op:=.Lt) (aO _ S V) (aO _ w V) F.slot_tuple_lt F.entry_tuple_lt (F.args_tuple_lt_2 _ _)
    (OV l a1 v i n n2 dd I sl a3 p T f (aP l1<|U mD V) (aP L<|U mD V) (λj N C=>?_) λj N C=>?_)
    (bW S w<|⟨(λx=>by cases x),fv g eW q⟩) (by have:=c.a;exact aW [_,_] (.a (.v 0)<|.n 1) (.v 1) [(.a (.a (.v 0)<|.n 60)<|.n 1,.v 1)] V this)
   ·have:=a2 j (N) C;exact this
   ·have:=k2 j (N) C;exact this
  ·exact aS<|(if_neg f).symm.trans P
 |_=>exact aS e
def Jy(g:bu W H s.heap)(c:aT W.T (aU W.fr H) s.heap va a)(e:isNone va=Y r):
  (Q (.e r) H->aQ W A E (RV W) Q (kO .Is a .none) H s)/\(Q (.e<|!r) H->aQ W A E (RV W) Q (kO .IsNot a .none) H s):=by
 induction va using bc.AV.casesOn with
 |k=>
  (have e:=bz e;subst e);subst c
  exact⟨λq=>wpAny_is_self V<|fv g eW q,λq=>wpAny_isNot_self V<|fv g eW q⟩
 |c i=>
  (refine aF c λt b=>?_;clear c;subst b);(have e:=bz e;subst e)
  exact⟨λq=>wpAny_is_other V nofun (fv g eW q),λq=>Lg V nofun (fv g eW q)⟩
 |l v=>
  (refine fY c λl d b _=>?_;clear c;subst b);(have e:=bz e;subst e)
  exact⟨λq=>wpAny_is_other V nofun (fv g eW q),λq=>Lg V nofun (fv g eW q)⟩
 |_=>exact aS e
def JB(v:W.y)(g:bu W H s.heap)(c:cZ A)(d:aT W.T (aU W.fr H) s.heap va a)(j:aT W.T (aU W.fr H) s.heap vb b)
  (e:uy (ux op) H va vb=Y r) (q:Q (.e r) H):aQ W A E (RV W) Q (kO op a b) H s:=by
 have l:∀{f},wh f va vb=Y r->(∀x y t u,Q _ H->a=.int x t->b=.int y u->aQ W A E _ Q (kO op a b) H s)->aQ W A E (RV W) Q _ H s:=λ{f}e k=>
  aH (ob e) λx B e=>aH (om e) λy D e=>aF (AV.o B▸d:aT _ _ _ (.c x) a) λt C=>aF (AV.o D▸j:aT _ _ _ (.c y) b) λu w=>k x y t u (e▸q) C w
 have i:∀{z},(if vb.A=true then z else aY)=Y r->b=.none/\z=Y r:=λ{z}e=>by
  by_cases h:vb.A=true;·exact⟨(AV.B h▸j:aT _ _ _ .k b),(if_pos h).symm.trans e⟩
  ·exact aS<|(if_neg h).symm.trans e
 induction op using PySem.CmpOp.casesOn with
 |Eq=>exact(FN g c d j e).1 _ _ _ _<|fv g eW q
 |NotEq=>exact aH (om e) λp e n=>(FN g c d j e).2 _ _ _ _<|n▸fv g eW q
 |Lt=>exact Zh g c d j e q
 |LtE=>exact l e λx y t u q o m=>o▸m▸ade (fv g eW q)
 |Gt=>exact l e λx y t u q o m=>o▸m▸adh (fv g eW q)
 |GtE=>exact l e λx y t u q o m=>o▸m▸adj (fv g eW q)
 |Is=>exact(i e).1▸(Jy g d (i e).2).1 q
 |IsNot=>exact(i e).1▸aH (om (i e).2) λp e n=>(Jy g d e).2<|n▸q
 |In=>exact(Jz v g c d j e).1 q
 |NotIn=>exact aH (om e) λp e n=>(Jz v g c d j e).2<|n▸q
def Zf(g:bu W H s.heap){Q:VK}(r:aT W.T (aU W.fr H) s.heap (.c i) a)(q:Q (.c<|-i) H):aQ W A E (RV W) Q (unaryOp .USub a) H s:=by
 (refine aF r λt e=>?_;clear r;subst e)
 exact LI<|dU g iQ q
def Zb(g:bu W H s.heap){Q:VK}(r:aT W.T (aU W.fr H) s.heap (.e b) a)(q:Q (.e<|!b) H):aQ W A E (RV W) Q (unaryOp .Not a) H s:=by subst r;exact not_of<|qo<|fv g eW q
def Zn(g:bu W H s.heap)(r:aT W.T (aU W.fr H) s.heap (.c x) a)(j:aT W.T (aU W.fr H) s.heap (.c y) b)
  (d:iw op false (.c x) (.c y) Q H) (i:lG o=Y op) (k:op=.a\/op=.b):aQ W A E (RV W) Q (inplaceOp o a b) H s:=by
 rcases k with rfl|rfl
 ·have i:=z' i;subst i;rcases d with d|d|d
  ·refine cj d λm l f h q=>?_
   (have f:=rG f;subst f);(have h:=rG h;subst h)
   (refine aF r λt c=>?_;clear r;subst c);(refine aF j λu c=>?_;clear j;subst c)
   exact adg<|dU g iQ q
  ·exact cj d λ_ _ e _ _=>by cases e
  ·exact cj d λ_ _ e _ _=>aS e
 ·have i:=z' i;subst i;refine cj d λm l f h q=>?_
  (have f:=rG f;subst f);(have h:=rG h;subst h)
  (refine aF r λt c=>?_;clear r;subst c);(refine aF j λu c=>?_;clear j;subst c)
  exact adf<|dU g iQ q
end
end bc
end
section
set_option backward.match.sparseCases false
open PySem PySem.W PyProof.Rows PySem.SeqAt PySem.MeetsSeq
namespace bc
def zM(h:lC n i=Y j):seqIndex? i n=Y j/\j<n/\-n<=i/\i<n:=by
 by_cases d:0<=i
 ·have h:=(if_pos d).symm.trans h;by_cases b:i.toNat<n
  ·cases(if_pos b).symm.trans h;have k:=(MA d).mp b;exact⟨C6 d k,b,DR (Int.neg_nonpos_of_nonneg<|f9 n) d,k⟩
  ·exact aS<|(if_neg b).symm.trans h
 ·have h:=(if_neg d).symm.trans h;by_cases b:0<=i+n
  ·cases(if_pos b).symm.trans h;have f:=sT.mp d;exact⟨LC f<|b9 λz=>aJ [_] [_] [.l 1 bJ<|.a aI af,.l 1 (.a aI aM)<|.g af] V b z,by exact b8 λz=>aJ [_,_] [_] [.l 1 (.a aI aM) bJ,.l 1 (.c<|.a bo aX)<|.c<|.a aZ aX,.e 1 aG<|.a aI af] V (Gw d) z<|g7 b,by exact b9 λz=>aJ [_] [_] [.l 1 bJ<|.a aI af,.l 1 (.a aI aM)<|.g af] V b z,MI f<|f9 n⟩
  ·exact aS<|(if_neg b).symm.trans h
def O5(x:Int):(max 0 x).toNat=x.toNat:=bq (sU 0 x) (λh=>congrArg vO<|DP h) λh=>(congrArg vO<|DQ h).trans (Mz h).symm
def aan n i:clipAt n i=eF n i:=by
 refine(O5 _).trans ?_;by_cases h:0<=i
 ·have e:(if i<0 then i+n else i)=i:=if_neg (nN.mpr h);have a:eF n i=min i.toNat n:=if_pos h;refine U e<|U a ?_;exact bq (sU i n) (λl=>(congrArg vO<|yQ l).trans (fB<|Int.toNat_le.mpr l).symm) λl=>(congrArg vO<|DO l).trans (ju<|(Int.le_toNat h).mpr l).symm
 ·have e:(if i<0 then i+n else i)=i+n:=if_pos (sT.mp h);have a:eF n i=(i+n).toNat:=if_neg h;refine U e<|U a ?_;exact congrArg vO<|yQ<|Int.add_le_of_le_sub_right<|by exact U (yM _)<|DS<|sT.mp h
def E4(x:List α)l f:(x.drop<|l.elim 0<|clipAt x.length).take (f.elim x.length (clipAt x.length)-l.elim 0 (clipAt x.length))=eV x l f:=by
 have g:∀d(o:Option Int),o.elim d (clipAt x.length)=(o.map<|eF x.length).getD d:=λd o=>by induction o using Option.casesOn<;>simp[aan]
 unfold eV;refine U (g _ _)<|U (g _ _)<|U List.take_drop ?_;dsimp only;by_cases h:(l.map<|eF x.length).getD 0<=(f.map<|eF x.length).getD x.length;·exact U (eT h) V
 ·have:(f.map _).getD x.length-(l.map _).getD 0=0:=cN (cA [_] [] af (.c<|.n 0) [.e 1 af bJ] V<|nE<|u7<|b8 λz=>aJ [_,_] [] [.l 1 (.c<|.a aZ aX) af,.l 1 (.c<|.a bo aX) aG] V (Gv h) z);exact U this<|U (mh _)<|U (qO<|by simp[oQ])<|U (qO<|by simp;exact b8 λi=>aJ [_,_,_] [] [.l 1 (.c<|.a aZ aX) af,.l 1 (.c<|.a bo aX) bf,.l 1 bf aG] V (Gv h) i<|nl<|oQ _ _) V
section
variable {T:jn}{c:Addr->Prop}{h:Heap}
theorem bk.I:∀{a}{v}n,bk T c h a v->bk T c h (a.take n) (v.take n)
 |_,_,0,_=>trivial
 |[],[],_+1,_=>trivial
 |_::_,_::_,n+1,x=>⟨x.1,bk.I n x.2⟩
 |[],_::_,_+1,x=>x.elim
 |_::_,[],_+1,x=>x.elim
theorem bk.K:∀{a}{v}n,bk T c h a v->bk T c h (a.drop n) (v.drop n)
 |_,_,0,x=>x
 |[],[],_+1,_=>trivial
 |_::_,_::_,n+1,x=>bk.K n x.2
 |[],_::_,_+1,x=>x.elim
 |_::_,[],_+1,x=>x.elim
theorem bk.j:∀{a}{v},bk T c h a v->bk T c h a.reverse v.reverse
 |[],[],_=>trivial
 |_::_,_::_,x=>by refine U oW<|U oW ?_;exact(bk.j x.2).g ⟨x.1,trivial⟩
 |[],_::_,x=>x.elim
 |_::_,[],x=>x.elim
theorem bk.L:∀{a}{v}n{x}{y},bk T c h a v->aT T c h x y->bk T c h (a.set n x) (v.set n y)
 |[],[],_,_,_,_,_=>trivial
 |_::_,_::_,0,_,_,r,s=>⟨s,r.2⟩
 |_::_,_::_,n+1,_,_,r,s=>⟨r.1,bk.L n r.2 s⟩
 |[],_::_,_,_,_,r,_=>r.elim
 |_::_,[],_,_,_,r,_=>r.elim
theorem bk.z(r:aT T c h x y):∀n,bk T c h (dC n x) (dC n y)
 |0=>trivial
 |n+1=>⟨r,bk.z r n⟩
def bk.G(r:bk T c h a v):bk T c h a.dropLast v.dropLast:=by refine U yK<|U yK<|U r.f ?_;exact r.I _
def bk.M l b(r:bk T c h a v):bk T c h (eV a l b)<|eV v l b:=by unfold eV;refine U r.f ?_;exact(r.I _).K _
end
def E6(x:List α)l h:(eV x l h).length<=x.length:=by unfold eV;simp only[mq,nK];exact b8 λz=>aJ [_,_,_] [] [.l 1 (.c<|.a aZ aX) af,.l 1 af bf,.l 1 bf aG] V z (nl<|eE _ _)<|nl<|j6 _ _
section
variable {W:Wd}{A:di}{E:VK}{H:Hp}{s:bU}
def Ju(ok:W.y)(g:bu W H s.heap)(c:cZ A)(P:aT W.T (aU W.fr H) s.heap va a)(S:aT W.T (aU W.fr H) s.heap vi i)(d:mM va vi Q H):
  ∃T id,s.TypeIs a T/\qr (.type T) "__getitem__"=pure (Y<|.builtin id)/\aQ W A E (RV W) Q (kN a i) H s:=by
 have a4:∀vs x items,s.heap.PlainList x items->bk W.T (aU W.fr H) s.heap vs items.toList->vs.length<=sz->
   uG vs vi Q H->∃T id,s.TypeIs (.ref x) T/\qr (.type T) "__getitem__"=pure (Y<|.builtin id)/\aQ W A E _ Q (kN (.ref x) i) H s:=λvs x items N D F d=>by
  refine fw d λk j v M a3 Z q=>?_;refine aF (M▸S) λt B=>?_;subst B;refine bQ "list" _ N.isList.typeIs CV.lookup ?_;refine fG (zM a3) λC e2 R X=>?_;have hs:=eP D;have a2:=eJ;refine aH (D.B Z) λu I a0=>?_;rw[vZ]at I;refine bq (MH k 0) (λh=>?_) λh=>?_
  ·have:j=(k+items.size).toNat:=by
    rw[LC h<|by exact b9 λz=>aJ [_] [_] [.l 1 (.g af) aI,.l 1 (.a aI aM)<|.g af] V R z]at C
    (have C:=bz C;subst C);exact U hs V
   exact wpAny_getItem_list_neg N.isList h (b9 λz=>aJ [_,_] [_] [.l 1 (.a aI aM)<|.g af,.e 1 aG<|.a aI af] V z<|g7<|b9 (b:=k+↑items.size) λzc=>aJ [_,_] [_] [.l 1 (.g af) aI,.e (-1) aG af,.l 1 (.a aI aM)<|.g aG] V R (nE hs) z) (b9 λz=>aJ [_,_] [_] [.l 1 af aG,.l 1 (.g af) aI,.e 1 aG<|.c<|.n 1048576,.l 1 (.a aI aM)<|.g<|.n 9223372036854775808] V (nl F) R (nE a2) z) (this▸I)<|fv g a0 q
  ·have:j=k.toNat:=by
    rw[C6 h<|by exact fR λz=>aJ [_] [_] [.l 1 (.a aI aM) af,.l 1 af aI] V X z]at C
    (have C:=bz C;subst C);rfl
   exact wpAny_getItem_list N.isList h (fR λz=>aJ [_,_] [_] [.l 1 af aG,.l 1 (.a aI aM) af,.e 1 aG<|.c<|.n 1048576,.l 1 (.n 9223372036854775808) aI] V (nl F) X (nE a2) z) (this▸I)<|fv g a0 q
 have L:∀{K}[DecidableEq K]knd x k m(f:K->Option AV){v},knd.is k i=true->s.heap.DictOf knd x m->
   gy (aT W.T _ s.heap) (f k) _->f k=Y v->Q v H->
   ∃T id,s.TypeIs _ T/\qr (.type T) "__getitem__"=pure (Y<|.builtin id)/\aQ W A E (RV W) Q (kN (.ref x) i) H s:=λknd x k m f v h G hr e q=>by
  rw[e]at hr;exact aH hr λu I a0=>bQ "dict" _ G.typeIs Ln.lookup<|wpAny_getItem_of h G.mapOf I<|dU g a0 q
 induction va using bc.AV.casesOn with
 |l vs=>
  refine fw d λk j v M a3 Z q=>?_;refine aF (M▸S) λt B=>?_;subst B
  (refine iv P λx items r _ B D F=>?_;clear P;subst r)
  refine bQ "tuple" _ B.typeIs slot_tuple_getitem.lookup ?_;refine fG (zM a3) λC e2 R X=>?_;have a2:=eJ;refine aH (D.B Z) λu I a0=>?_;have I:=vZ▸I;exact adi B (b9 λz=>aJ [_,_] [_] [.l 1 af aG,.l 1 (.g af) aI,.e 1 aG<|.c<|.n 1048576,.l 1 (.a aI aM)<|.g<|.n 9223372036854775808] V (nl F) R (nE a2) z) (fR λz=>aJ [_,_] [_] [.l 1 af aG,.l 1 (.a aI aM) af,.e 1 aG<|.c<|.n 1048576,.l 1 (.n 9223372036854775808) aI] V (nl F) X (nE a2) z) ((eP D)▸C) I<|fv g a0 q
 |g vs=>
  (refine iv P λx items r _ N D F=>?_;clear P;subst r)
  exact a4 vs x items N D F d
 |f x=>
  subst P;refine aH d λo e d=>?_;induction o using bc.AO.casesOn with
  |b l=>exact cw (g.z.M _ _ e) λitems N D F=>a4 _ _ items N D F d
  |c f n=>
   exact cj d λk v M a1 q=>cw (g.z.M _ _ e) λm G hn h=>aF (M▸S:aT _ _ _ (.c k) i) λt B=>L (ny W.p W.w) x k m f (B▸pT k t) G (h k) a1 q
  |e f n=>
   exact cj d λk v M a1 q=>cw (g.z.M _ _ e) λm G hn h=>aF (M▸S:aT _ _ _ (.m k) i) λt B=>L (oO W.p W.w) x k m f (B▸A5 k t) G (h k) a1 q
  |g f n=>
   refine cj d λk v ek a1 q=>kC (g.z.M _ _ e) λxs G hn IM h=>?_
   (refine cw (AW (prog:=W.p) (w:=W.w) S ek) λy r hx hi=>?_;subst r)
   have h:=h k;rw[a1]at h;exact aH h λp ep rp=>bQ "dict" _ G.typeIs Ln.lookup<|wpAny_getItem_heap (CS<|by have:=c.a;exact aW [_,_] (.a (.a (.v 0)<|.n 1)<|.n 1) (.v 1) [(.a (.a (.v 0)<|.n 60)<|.n 1,.v 1)] V this) hi G ep<|dU g rp q
  |bF=>exact d.elim
 |_=>exact d.elim
def wW{T}(r:aT T c h v u)(e:pK v=Y o):IsPart u o:=by
 induction v using bc.AV.casesOn with
 |k=>
  (have e:=bz e;subst e);subst r;exact .none
 |c i=>
  (refine aF r λt a=>?_;clear r;subst a)
  (have e:=bz e;subst e);exact .int _ t
 |_=>exact aS e
def Y9(g:bu W H s.heap)(c:cZ A)(r:aT W.T (aU W.fr H) s.heap va a)(y:aT W.T (aU W.fr H) s.heap B l)
  (w:aT W.T (aU W.fr H) s.heap D u) (C:s.heap.IsSliceOf i l u .none) (d:rk va B D Q H):
  ∃T K,s.TypeIs a T/\qr (.type T) "__getitem__"=pure (Y<|.builtin K)/\aQ W A E (RV W) Q (kN a<|.ref i) H s:=by
 refine cj d λv j o m d=>?_;refine bq d (λd=>?_) λd=>?_
 ·(refine aH d λb I q=>?_;clear d;subst I)
  (refine aH r λt f z=>?_;clear r;subst f)
  refine bQ "bytes" _ (iD s _ t) MW.lookup ?_;refine getItem_meets (iD s _ t) (by decide) MW FB.entry_bytes_getitem (FB.args_bytes_getitem_2 _ _) (KBc.meets_slice2 b.toArray t i (wW y o)<|wW w m)<|bW C ?_ λN k=>?_
  ·have:=KBc.size_picked_le b.toArray v j;refine U fT ?_;simp only[mi]at this;exact aW [_,_,_] (.v 0) (.n 16777216) [(.v 2,.n 1048576),(.v 1,.v 2),(.v 0,.v 1)] V (bb eJ) z this
  ·refine U (KBc.picked_eq _ _ _)<|U (E4 _ _ _)<|dU g (tE<|aE (E6 _ _ _) z) q
 ·refine aH d λL e d=>?_
  (refine eh (hB g r e) λx n f p h F=>?_;subst f)
  refine bQ "list" _ p.isList.typeIs CV.lookup ?_;refine Lh p.isList C (wW y o) (wW w m) .none nofun ?_<|by have:=eP h;have:=eJ;exact U fT<|b8 λG=>aJ [_,_,_] [] [.l 1 af aG,.e 1 bf af,.e 1 aG<|.c<|.n 1048576,.l 1 (.c<|.a (.n 16777216) aX) bf] V (nl F) (nE<|‹(n.size=L.length)›) (nE this) G
  refine U (slicePick_plain _ _ _) ?_;have M:=eP h;refine ue (mu:=false) g ?_ ⟨aE (E6 _ _ _) F,d⟩;refine aP mD<|U (E4 _ _ _) ?_;exact h.M v j
def Y'(g:bu W H s.heap)(c:cZ A)(r:aT W.T (aU W.fr H) s.heap va a)(f:IsPart k<|Y<|-1)(h:s.heap.IsSliceOf sl .none .none k)(d:wM mu va Q H):
  ∃T l,s.TypeIs a T/\qr (.type T) "__getitem__"=pure (Y<|.builtin l)/\aQ W A E (RV W) Q (kN a<|.ref sl) H s:=by
 refine aH d λv e d=>?_
 ·(refine eh (hB g r e) λx j b p q z=>?_;subst b)
  refine bQ "list" _ p.isList.typeIs CV.lookup ?_;refine Lh p.isList h .none .none f (by decide) ?_<|by have:=eP q;have:=eJ;exact U fT<|b8 λi=>aJ [_,_,_] [] [.l 1 af aG,.e 1 bf af,.e 1 aG<|.c<|.n 1048576,.l 1 (.c<|.a (.n 16777216) aX) bf] V (nl z) (nE<|‹(j.size=v.length)›) (nE this) i
  refine U (krv_pick _) ?_;exact ue g (q.j) d
end
section
variable {prog:j4}{w:el}{A:di}{E:bI->bU->Prop}{s:bU}
def Q0(q:s.heap.PlainList l items)
  (p:DZ k=true) (b:seqIndex? k items.size=Y j) (B:j<items.size)
  (y:∀a,a.PlainList l (items.setIfInBounds j v)->sW l s.heap a->Q () {s with heap:=a}):
  bw (bM prog w) A (uU (.ref l) (.int k t) v) Q E s:=by
 refine aF (id q) λn o=>?_;unfold uU
 try with_reducible refine e5 ?_
 first|refine aN (br ?_)|skip
 refine aN<|wpAny_sequenceKey q.isList.typeIs (by decide) ?_;refine aN (wpAny_callSpecial?_slot q.isList.typeIs Lm
  (Lj Lm q.isList.typeIs entry_list_setitem ?_ (args_list_setitem _ _ _)))
 refine(?_:bw _ _ (adu (.int k t)>>=_) _ _ s);refine aN<|wpAny_listSubscript_int p ?_;have m:=NR B;have f:Q () {s with heap:=s.heap.update l<|Obj.mapSeq (·.setIfInBounds j v)}:=by refine y _ ?_ (MR ..);exact⟨_,yV _ o V⟩
 refine bq (MH k 0) (λg=>?_) λg=>?_
 ·obtain⟨c,rfl⟩:∃c,k=Int.negSucc c:=by
   induction k using Int.casesOn with
   |ofNat n=>exact absurd g<|nN.mpr<|f9 n
   |negSucc n=>exact⟨n,V⟩
  refine aN<|aN ?_;refine aN<|yc o V<|br<|br ?_;refine U b ?_;simp only[Option.bind_some,m,Option.map_some];refine aN<|La o V ?_
  first
   |exact aN _
   |exact br<|aO .none V<|br f
 ·(refine aF (yS g) λd x=>?_;subst x)
  have:d=j:=by
   have u:(d:Int)<items.size:=by
    unfold seqIndex? at b;have:¬((d:Int)<0):=λz=>aJ [_] [] [.l 1 (.a af aM) bJ] V z;simp only[this,if_false]at b;split at b;·rename_i h;simp at h;exact fR λz=>aJ [_,_] [] [.l 1 (.c<|.a aZ aX) af,.l 1 af aG] V (nl h) z
    ·exact aS b
   rw[C6 g u]at b;(have b:=bz b;subst b);exact cN<|cA [_,_] [] af aG [.e (-1) aG af] V<|g7 g
  subst this;refine aN<|aN<|wpAny_seqItemAt o V<|br ?_;refine U m ?_;refine aN<|La o V ?_
  first
   |exact aN _
   |exact br<|aO .none V<|br f
end
def qU{K:Type}[DecidableEq K](a:List<|K×bI)(k:K)(v:bI)(x:K):valueAt (stored a k v) x=if x=k then Y v else valueAt a x:=by
 unfold stored valueAt;split
 ·rename_i h;induction a with
  |nil=>simp at h
  |cons p r i=>
   simp only[sM,sQ];by_cases c:p.1=k
   ·simp only[c,if_true];by_cases g:k=x;·simp[g]
    ·simp only[g,decide_false];by_cases d:r.any (λb=>decide (b.1=k))=true;·exact i d
     ·have:r.map (λb=>if b.1=k then(b.1,v)else b)=r:=by
       conv=>rhs;rw[<-List.map_id r]
       refine sN λq f=>?_;rw[if_neg];·rfl
       intro e;exact d<|DG.mpr<|aO q f<|by simpa using e
      exact U this<|U (if_neg λe=>g e.symm) V
   ·simp only[c,if_false];by_cases g:p.1=x
    ·have:¬x=k:=λe=>c (g.trans e);simp[g,this]
    ·simp only[g,decide_false];exact i (by simpa[List.any_cons,c]using h:r.any (λb=>decide (b.1=k))=true)
 ·rename_i h;refine U DD ?_;by_cases g:x=k
  ·subst g;have:a.find? (λb=>decide (b.1=x))=O:=DC.mpr λp c=>by simpa using(λp c e=>h<|DG.mpr<|aO p c<|e) p c
   simp[this]
  ·refine U (if_neg g) ?_;have:¬k=x:=λe=>g e.symm;simp[this]
def acw{K:Type}[DecidableEq K](l:List<|K×Addr×bI)(k:K)(a:Addr)(v:bI)(x:K):
  (kS (si l k a v) x).map (·.2)=if x=k then Y v else(kS l x).map (·.2):=by
 unfold si;split
 ·rename_i h;induction l with
  |nil=>simp[kS]at h
  |cons p r i=>
   unfold kS at h |-;simp only[sM,sQ]at h |-;refine U (by unfold oK;split<;>rfl:(oK k v p).1=p.1) ?_;by_cases j:p.1=x
   ·simp only[j,decide_true,Option.map_some];unfold oK;by_cases b:p.1=k;·exact U (if_pos b)<|U (if_pos<|j▸b) V
    ·exact U (if_neg b)<|U (if_neg<|j▸b) V
   ·simp only[j,decide_false];by_cases b:p.1=k
    ·have c:¬x=k:=λe=>j (b.trans e.symm);refine U (if_neg c) ?_;have f:∀(r:List<|K×Addr×bI),((r.map<|oK k v).find? λq=>decide (q.1=x)).map (·.2)=(r.find? λq=>decide (q.1=x)).map (·.2):=λr=>by
      induction r with
      |nil=>rfl
      |cons q r i=>
       simp only[sM,sQ];refine U (by unfold oK;split<;>rfl:(oK k v q).1=q.1) ?_;by_cases d:q.1=x
       ·simp only[d,decide_true];unfold oK;exact U (if_neg λe=>c<|d▸e) V
       ·simp only[d,decide_false];exact i
     exact U (f r) V
    ·simp only[b,decide_false]at h;exact i h
 ·rename_i h;have g:kS l k=O:=by cases q:kS l k with
   |none=>rfl
   |some p=>rw[q]at h;exact absurd V h
  unfold kS at g |-;rw[LO]at g;refine U DD ?_;by_cases j:x=k;·subst j;simp[g]
  ·refine U (if_neg j) ?_;have:¬k=x:=λe=>j e.symm;simp[this]
def PB{K}[DecidableEq K](x:List<|K×Addr×bI)(k:K)a v:(si x k a v).length=x.length+(if(kS x k).isSome then 0 else 1):=by unfold si;split<;>simp[*]
def UR{K:Type}[DecidableEq K]{c:List<|K×Addr×bI}{k:K}{a:Addr}{v:bI}{x:K×Addr×bI}(h:x∈si c k a v):x.2.1=a\/∃y∈c,y.2.1=x.2.1:=by
 unfold si at h;split at h
 ·rw[iG]at h
  (refine aH h λy b e=>?_;clear h;subst e)
  refine .inr<|aO y b ?_;unfold oK;split<;>rfl
 ·refine bq (fM.mp h) (λh=>?_) λh=>?_;·exact .inr<|aO x h V
  ·simp at h;subst h;exact .inl V
def wq{K}[DecidableEq K](a:List<|K×bI)(k:K)v:(stored a k v).length=a.length+(if(valueAt a k).isSome then 0 else 1):=by
 have:(valueAt a k).isSome=a.any (λb=>decide (b.1=k)):=by refine U Option.isSome_map<|U (propext nO)<|U (propext List.find?_isSome) ?_;simp
 unfold stored;split<;>simp[*]
section
variable {W:Wd}{A:di}{E:VK}{H:Hp}{s:bU}
def Nx.D(g:bu W H s.heap){a:Addr}{o o':AO}{h':Heap}(e:H a=Y o)(h:o.l a=[a])(f:o'.l a=[a])(b:sW a s.heap h')(t:∃ob,h'.get? a=Y ob)
  (new:df W.fr H s.heap (H.ag a o') h'->gE W.T W.p W.w (aU W.fr<|H.ag a o') h' a o'):Nx W H s (H.ag a o') {s with heap:=h',toks:=k}:=by
 refine bp (g.z.ag (o':=o') e (λC d vs q=>absurd q<|(λC d vs q=>by rw[q]at f;simp[AO.l]at f) C d vs) (λC d vs q=>absurd q<|(λC d vs q=>by rw[q]at h;simp[AO.l]at h) C d vs) (λx hx=>by rw[h,dm]at hx;exact b.2 x hx) (λx hx=>by rw[h,dm]at hx;subst hx;exact t) new) λc R=>?_
 exact⟨c,λx ob hx q=>.i<|(b.2 x λz=>by have:=(g.z.W x hx).1;rw[z,e]at this;exact aS<|cc this).trans q,g.ah c R λx ob q=>b.2 x λz=>g.F x ob q<|.inl ⟨o,z▸e⟩,V,V⟩
def zZ{K:Type}[DecidableEq K]{f:K->Option AV}{g a:K->Option bI}{T}(s:df W.fr H h H' h'){i}(c:aT T (aU W.fr H) h v u)
  (e:∀x,a x=if x=i then Y u else g x) (b:∀k,gy (aT T (aU W.fr H) h) (f k)<|g k):∀k,gy (aT T (aU W.fr H') h') (if k=i then Y v else f k)<|a k:=
 tM (λ_ _ r=>r.d s) (c.d s) e b
def Jv(ok:W.y)(g:bu W H s.heap)(c:cZ A){va X Z}{a i v}{K}(ra:aT W.T (aU W.fr H) s.heap va a)(N:aT W.T (aU W.fr H) s.heap X i)(M:aT W.T (aU W.fr H) s.heap Z v)
  (d:pE va X Z K H):aQ W A E RU (λ(_:Unit)=>K) (uU a i v) H s:=by
 have C:=eJ
 (refine cj d λx o ea e I=>?_;subst ea)
 subst ra;induction o using bc.AO.casesOn with
 |b l=>
  refine cj I λn j G ej q=>aF (G▸N) λt L=>cw (g.z.M _ _ e) λitems pl S a0=>?_;subst L;refine fG (zM ej) λe1 Q e3 e4=>?_;refine Q0 pl (by unfold DZ;simp only[lu,decide_eq_true_eq];exact i5 (b9 λa1=>aJ [_,_] [_] [.e 1 af<|.c<|.n 1048576,.l 1 aG af,.l 1 (.g aG) aI,.l 1 (.a aI aM)<|.g<|.n 9223372036854775808] V (nE C) (nl a0) e3 a1)<|fR λa1=>aJ [_,_] [_] [.e 1 af<|.c<|.n 1048576,.l 1 aG af,.l 1 (.a aI aM) aG,.l 1 (.n 9223372036854775808) aI] V (nE C) (nl a0) e4 a1) ((eP S)▸e1) (by exact aW [_,_,_] (.a (.v 0)<|.n 1) (.v 1) [(.v 2,.v 1),(.a (.v 0)<|.n 1,.v 2)] V (bb<|cc<|eP S) Q) λh' a2 b=>?_;refine⟨(),_,?_,trivial,q⟩;refine Nx.D g e V V b (zC a2) λp=>cq _ a2 ?_<|by simpa using a0
  exact U Array.toList_setIfInBounds<|(S.L j M).d p
 |c f n=>
  refine cw I λk G m q=>aF (G▸N) λt L=>cw (g.z.M _ _ e) λD F B u=>?_;subst L;refine Lb (pT _ t) F (λh' h b=>?_)<|aW [_,_,_,_] (.v 0) (.v 1) [(.n 16777216,.v 1),(.v 2,.n 1048576),(.a (.v 3)<|.n 1,.v 2),(.v 0,.v 3)] V (bb<|cc fT) (bb C) m B;refine⟨(),_,?_,trivial,q⟩;refine Nx.D g e V V b (let⟨o,_,_,q,_⟩:=h;⟨o,q⟩) λp=>cq _ h ?_<|zZ p M (qU D _ v) u;refine U (wq _ _ _)<|U ((u _).a) ?_;exact aW [_,_,_] (.a (.v 0)<|.v 1) (.a (.v 2)<|.v 1) [(.v 0,.v 2)] V B
 |e f n=>
  refine kC I λk G hf m q=>aF (G▸N) λt L=>cw (g.z.M _ _ e) λD F B u=>?_;subst L;refine Lb (A5 _ t) F (λh' h b=>?_)<|aW [_,_,_,_] (.v 0) (.v 1) [(.n 16777216,.v 1),(.v 2,.n 1048576),(.a (.v 3)<|.n 1,.v 2),(.v 0,.v 3)] V (bb<|cc fT) (bb C) m B;refine⟨(),_,?_,trivial,q⟩;refine Nx.D g e V V b (let⟨o,_,_,q,_⟩:=h;⟨o,q⟩) λp=>cq _ h ?_<|zZ p M (qU D _ v) u;refine U (wq _ _ _)<|U ((u _).a)<|U hf ?_;exact B
 |g f n=>
  refine cw I λk ek m q=>kC (g.z.M _ _ e) λxs F B P u=>?_
  (refine cw (AW (prog:=W.p) (w:=W.w) N ek) λx R hx a3=>?_;subst R)
  refine wpAny_setItem_heap (CS<|by have:=c.a;exact aW [_,_] (.a (.a (.v 0)<|.n 1)<|.n 1) (.v 1) [(.a (.a (.v 0)<|.n 60)<|.n 1,.v 1)] V this) a3 F (λh' h b=>?_)<|aW [_,_,_,_] (.v 0) (.v 1) [(.n 16777216,.v 1),(.v 2,.n 1048576),(.a (.v 3)<|.n 1,.v 2),(.v 0,.v 3)] V (bb<|cc fT) (bb C) m B;refine bQ () _ ?_ trivial q;refine Nx.D g e V V b (let⟨o,_,_,q,_⟩:=h;⟨o,q⟩) λp=>(jH _ h ?_ (λy hy=>?_) λq=>?_);·refine U (PB _ _ _ _)<|U ((u k).a) ?_;exact aW [_,_,_] (.a (.v 0)<|.v 1) (.a (.v 2)<|.v 1) [(.v 0,.v 2)] V B
  ·refine gA a3 λo' T n' eo _=>bq (UR hy) (λq=>?_) λa4=>aH a4 λz C q=>?_;·exact U q<|p.i _ _ eo hx
   ·refine aP q<|lO F λ_ _ _ _ _ _ _ h4 _=>gA (h4 z C) λo2 i2 n2 Q _=>?_;exact p.i _ _ Q<|P z C
  ·refine Gb.mpr (tM (λ_ _ r=>r.d p) (M.d p) (λx=>(acw xs [.inl k.1,.inr k.2] _ v [.inl x.1,.inr x.2]).trans ?_) (λx=>Gb.mp<|u x) q);exact(mA<|x=k).elim (λz=>(if_pos<|U z V).trans (if_pos z).symm) λn=>(if_neg λz=>n<|C8 (Sum.inl.inj (i3 z).1)<|Sum.inr.inj (i3 (i3 z).2).1).trans (if_neg n).symm
 |bF=>exact I.elim
end
section
variable {W:Wd}{A:di}{E:VK}{H:Hp}{s:bU}
def bu.G(o:W.y)(g:bu W H s.heap):W.K.In s.heap:=o.t.keeps g.D
def xw{Q:VK}(g:bu W H s.heap)(h:∀b o,s.heap.get? b=Y o->h'.get? b=Y o)(a:aT W.T (aU W.fr H) h' r v)(q:Q r H):
  ∃b c,Nx W H s c {s with heap:=h',toks:=k}/\RV W c {s with heap:=h',toks:=k}.heap b v/\Q b c:=bQ r H (.r g h) a q
theorem Iy{T}:∀{p}{d},bk T o h (p.map .c) d->LL d p
 |[],[],_=>.nil
 |b::r,u::t,x=>by refine aF x.1 λc a=>?_;subst a;exact .cons _ _<|Iy x.2
 |[],_::_,x=>x.elim
 |_::_,[],x=>x.elim
def V3{T}(e:kx vs=Y p)(x:bk T o h vs us):LL us p:=Iy<|pV e▸x
theorem Iw{T}:∀{p}{g},bk T o h (p.map .c) g->∃f:List<|Int×Tok,f.map (·.1)=p/\g=f.map λq=>C3 q.1 q.2
 |[],[],_=>aO [] V V
 |b::r,u::t,x=>by refine aF x.1 λc a=>?_;subst a;refine aH (Iw x.2) λf d e=>?_;exact aO ((b,c)::f) (by simp[d])<|by simp[e]
 |[],_::_,x=>x.elim
 |_::_,[],x=>x.elim
def V2{T}(e:kx vs=Y p)(x:bk T o h vs us):∃a:List<|Int×Tok,a.map (·.1)=p/\us=a.map λq=>C3 q.1 q.2:=Iw<|pV e▸x
theorem z5(x:List<|Int×Tok):∀n,n<=x.length->preSum (numAt x.toArray) n=((x.map (·.1)).take n).sum
 |0,_=>by simp[preSum]
 |n+1,h=>by have b:n<x.length:=h;rw[preSum,z5 x n<|aW [_,_] (.v 0) (.v 1) [(.a (.v 0)<|.n 1,.v 1)] V h,L8<|by simpa using b,Dj];simp[numAt,b]
def Pu(l:List Int)m(h:∀x∈l,0<=x/\x<=m):0<=l.sum/\l.sum<=l.length*m:=by
 induction l with
 |nil=>simp
 |cons a r i=>
  have:=i λx b=>h x<|.tail _ b;simp only[List.sum_cons,j8,vQ,Int.natCast_one];refine U (yU _ _ _) ?_;exact i5 (b9 λz=>aJ [] [_,_] [.l 1 bJ aI,.l 1 bJ bS,.l 1 (.a (.a bS aI) aM) bJ] V this.1 (h a<|.head _).1 z)<|b9 λz=>aJ [] [_,_,_,_] [.l 1 aI bS,.l 1 eO D3,.l 1 (.a (.a bS<|.m 1 D3) aM)<|.a eO aI] V this.2 (h a<|.head _).2 z
noncomputable def qf:Bi->bI
 |.b=>.builtin "len"|.n=>.builtin "abs"|.t=>.builtin "max"|.r=>.builtin "min"|.u=>.builtin "sum"
 |.m=>.type "int"|.o=>.type "list"|.k=>.type "bytes"|_=>.none
def Zi(ok:W.y)(g:bu W H s.heap)(c:cZ A)(a2:qf op≠.none)(r:bk W.T (aU W.fr H) s.heap vs us)(d:gC op vs Q H):
  aQ W A E (RV W) Q (call (qf op) us) H s:=by
 have a:=eJ;induction op using bc.Bi.casesOn<;>first|exact absurd V a2|skip
 case b=>
  refine bq d (λd=>?_) λd=>?_
  ·(refine aH d λb h q=>?_;subst h)
   (refine BB (hY r) λu f t C zb=>?_;subst f;subst C)
   refine len_bytes (by simp;exact aW [_,_] (.v 0) (.n 1099511627776) [(.v 1,.n 1048576),(.v 0,.v 1)] V (bb a) zb) ?_;exact dU g (iQ) q
  ·(refine cj d λv l h e q=>?_;subst h)
   (refine aH (hY r) λu f I=>?_;subst f)
   (refine eh ((λr e=>hB g r e) I e) λx items f N D F=>?_;subst f)
   refine Calls.call_len_list N.isList (fR λy=>aJ [_,_,_] [] [.e 1 af<|.c<|.n 1048576,.l 1 aG af,.e 1 bf aG,.l 1 (.n 9223372036854775808) bf] V (nE a) (nl F) (nE<|eP D) y) ?_;exact U (eP D)<|dU g iQ q
 case n=>
  (refine aH d λi h q=>?_;subst h)
  (refine xB (hY r) λu f t C=>?_;subst f;subst C)
  refine adm λS k=>dU g (r:=.c _) ⟨S,?_⟩ q;congr 1;split<;>omega
 case t=>
  (refine fY d λi j h q=>?_;subst h)
  (refine BA (lF r) λu v f B S K=>aF B λt L=>?_;subst f;subst K;subst L)
  refine max_two_ints c.b λh' tk G=>xw g G ?_ q;split;·exact⟨_,by congr 1;exact Ax (i) (j) (λw z=>cA [] [_,_] aI bS [.e (-1) bS aI] V z) λw z=>(aJ [] [_,_] [.l 1 (.a aI aM) bS,.l 1 bS aI] V (‹(j>i)›) w).elim⟩
  ·exact⟨_,by congr 1;exact Ax (i) (j) (λw z=>fZ (λy=>aJ [] [_,_,_] [.l 1 bS aI,.e 1 eO bS,.l 1 (.a aI aM) eO] V (pN<|‹(¬j>i)›) z y) λy=>aJ [] [_,_] [.l 1 aI bS,.l 1 (.a bS aM) aI] V (MK (i)<|j) y) λw z=>cA [] [_,_] aI bS [.e (-1) bS aI] V z⟩
 case r=>
  (refine fY d λi j h q=>?_;subst h)
  (refine BA (lF r) λu v f B S K=>aF B λt L=>?_;subst f;subst K;subst L)
  refine min_two_ints c.b λh' tk G=>xw g G ?_ q;split;·exact⟨_,by congr 1;exact Au (i) (j) (λw z=>(aJ [] [_,_] [.l 1 (.a aI aM) bS,.l 1 bS aI] V (‹(j<i)›) w).elim) λw z=>cA [] [_,_] aI bS [.e (-1) bS aI] V z⟩
  ·exact⟨_,by congr 1;exact Au (i) (j) (λw z=>cA [] [_,_] aI bS [.e (-1) bS aI] V z) λw z=>fZ (λy=>aJ [] [_,_] [.l 1 bS aI,.l 1 (.a aI aM) bS] V (MG (i)<|j) y) λy=>aJ [] [_,_,_] [.l 1 bS aI,.e (-1) eO aI,.l 1 (.a eO aM) bS] V (pN<|‹(¬j<i)›) z y⟩
 case u=>
  (refine lP d λv l' l h e1 e2 m q=>?_;subst h)
  (refine aH (hY r) λu f I=>?_;subst f)
  (refine eh ((λr e=>hB g r e) I e1) λx items f N D F=>?_;subst f)
  refine aH (V2 e2 D) λxs h1 h2=>?_;have hi:items=intItems xs.toArray:=by apply vY.mp;refine U h2 ?_;simp[intItems]
  subst hi;subst h1;have a1:xs.length=l'.length:=by have:=D.f;simp[intItems]at this;exact dB (aW [_,_] (.v 0) (.v 1) [(.v 0,.v 1)] V<|bb<|cc this)<|aW [_,_] (.v 1) (.v 0) [(.v 1,.v 0)] V<|bb this
  have M:∀n,0<=((xs.map (·.1)).take n).sum/\((xs.map (·.1)).take n).sum<=1048576*1048576:=λn=>by have:=Pu ((xs.map _).take n) sz λx hx=>m x<|vz hx;refine⟨(a▸this).1,DR (a▸this).2 ?_⟩;exact Int.mul_le_mul_of_nonneg_right (by simp;exact b9 λy=>aJ [_,_,_,_] [] [.e 1 af<|.c<|.n 1048576,.l 1 aG af,.e 1 bf aG,.l 1 (.a (.n 1048576) aM) cM,.l 1 cM bf] V (nE a) (nl F) (nE a1) y<|nl<|j6 (n)<|xs.length)<|by decide
  refine sum_intList c.b N.isList (λj P=>?_) λh' tk S G=>xw g G ?_ q
  ·have P:j<xs.length:=P;refine U (z5 xs _<|by exact aW [_,_] (.a (.v 0)<|.n 1) (.v 1) [(.a (.v 0)<|.n 1,.v 1)] V P) ?_;have:=M<|j+1;have h4:=m (xs[j].1)<|iG.mpr<|aO _ (vF P) V;refine U (by simp[numAt,P]:numAt xs.toArray j=xs[j].1) ?_;exact i5 (i5 (b9 λy=>aJ [] [_] [.l 1 bJ aI,.l 1 (.a aI aM)<|.g<|.n 9223372036854775808] V h4.1 y)<|fR λy=>aJ [_] [_] [.e 1 af<|.c<|.n 1048576,.l 1 aI af,.l 1 (.n 9223372036854775808) aI] V (nE a) h4.2 y)<|i5 (b9 λy=>aJ [] [_] [.l 1 bJ aI,.l 1 (.a aI aM)<|.g<|.n 9223372036854775808] V this.1 y)<|fR λy=>aJ [] [_] [.l 1 aI<|.m 1048576<|.n 1048576,.l 1 (.n 9223372036854775808) aI] V this.2 y
  ·refine⟨S,?_⟩;refine U (z5 xs _<|by simp) ?_;congr 1;exact U (vu<|by simp) V
 case m=>
  refine bq d (λd=>?_) λd=>?_
  ·(refine aH d λi h q=>?_;subst h)
   (refine xB (hY r) λu f t C=>?_;subst f;subst C)
   exact call_int_int<|fv g iQ q
  ·(refine aH d λi h q=>?_;subst h)
   (refine aH (hY r) λu f I=>?_;subst f)
   subst I;exact call_int_bool<|dU g iQ q
 case o=>
  have R:∀T x items l,(T="list"\/T="tuple")->(∃o n,s.heap.get? x=Y o/\o.cls=.type T/\o.data=.seq items n)->bk W.T (aU W.fr H) s.heap l items.toList->l.length<=sz->Q (.g l) H->
    aQ W A E (RV W) Q (call (.type "list") [.ref x]) H s:=λT x items l hT hh D F d=>cj hh λo n ho hc Z=>by
   refine call_list_seq x hT ho hc Z (λh' c' G a0=>?_)<|aW [_,_,_,_] (.v 0) (.v 1) [(.n 16777216,.v 1),(.v 2,.n 1048576),(.v 3,.v 2),(.v 0,.v 3)] V (bb<|cc fT) (bb a) F<|bb<|eP D;have n:=Nx.r (t:=s.toks) g G;exact bQ (.g l) H n (kr _ items V g.L ⟨c',a0⟩ (D.d n.j) F) d
  refine bq d (λX=>bp X λh q=>?_) λd=>?_
  ·subst h
   (refine aH (hY r) λu f I=>?_;subst f)
   (refine iv I λx items f _ B D F=>um B λo ho hc n Z=>?_;subst f)
   exact R "tuple" x items [] (.inr V) (bQ o n ho hc Z) D F q
  ·(refine cj d λv l h e q=>?_;subst h)
   (refine aH (hY r) λu f I=>?_;subst f)
   (refine eh ((λr e=>hB g r e) I e) λx items f B D F=>aF B λn N=>?_;subst f)
   exact R "list" x items l (.inl V) (bQ _ n N V V) D F q
 case k=>
  (refine cw d λi h m q=>?_;clear d;subst h)
  (refine YV (hY r) λu f x items C _ N D F=>?_;subst f;subst C)
  have:=N.isList;have this:=(NN (xs:=items)).symm▸this;refine call_bytes_ints this (V3 (p:=[_]) V D) (λn a0=>?_) (by have:=eP D;simp at this;simp;exact aW [_,_] (.v 0) (.v 1) [(.n 16777216,.v 1),(.v 0,.n 1)] V (bb<|cc fT)<|bb this) c.b λh' t k G=>xw g G ?_ q;·simp at a0;subst a0;exact m
  ·exact aO t V<|by simp[a]
def BG(o:W.y)(g:bu W H s.heap){Q:VK}(r:aT W.T (aU W.fr H) s.heap (.d b) u):
  (Q (.e true) H->aQ W A E (RV W) Q (call (.builtin "isinstance") [u,.type "bytes"]) H s)/\(Q (.e false) H->aQ W A E (RV W) Q (call (.builtin "isinstance") [u,.type "str"]) H s)/\
  (∀a,s.heap.get? a=Y {cls:=.type "tuple",data:=.seq #[.type "bytes",.type "str"]}->Q (.e true) H->aQ W A E (RV W) Q (call (.builtin "isinstance") [u,.ref a]) H s):=by
 (refine aH r λt e _=>?_;clear r;subst e)
 exact(bW (λd=>kia_one CY (g.G o) trivial V nofun λc=>dU g eW d) (λd=>kia_one CY (g.G o) trivial V nofun λc=>dU g eW d) λa h d=>kia_tup (K:=W.K) CY (g.G o) trivial (its:=[.type "bytes",.type "str"]) h V nofun λc=>dU g eW d)
end
noncomputable def kt:Bi->Option (String×String×String)
 |.a=>Y ("list","append","list.append")|.c=>Y ("list","extend","list.extend")|.l=>Y ("list","pop","list.pop")|.e=>Y ("list","reverse","list.reverse")
 |.s=>Y ("dict","get","dict.get")|.d=>Y ("dict","setdefault","dict.setdefault")
 |.q=>Y ("bytes","find","bytes.find")|.j=>Y ("bytes","join","bytes.join")|.i=>Y ("bytes","strip","bytes.strip")|.h=>Y ("bytes","rstrip","bytes.rstrip")
 |.f=>Y ("bytes","isalpha","bytes.isalpha")|.g=>Y ("bytes","split","bytes.split")
 |_=>O
section
variable {W:Wd}{A:di}{E:VK}{H:Hp}{s:bU}
def wi(g:bu W H s.heap)(e:H a=Y (.b l))(p:s.heap.get? a=Y {cls:=.type "list",data:=.seq items n})
  (c:f items=items') (q:bk W.T (aU W.fr H) s.heap l' items'.toList) (z:l'.length<=sz):
  Nx W H s (H.ag a<|.b l') {s with heap:=s.heap.update a<|Obj.mapSeq f}:=by
 have h:(s.heap.update a _).PlainList a items':=⟨_,c▸IsL.update p f⟩;exact Nx.D g e V V (MR ..) (zC h) λb=>cq items' h (q.d b) z
def UQ{T d i:String}{G:Prop}(h:Y (a,b,c)=Y (T,d,i))(n:a≠T):G:=absurd (congrArg yp<|bz h) n
@[elab_as_elim] def GL{M:String->String->String->Prop}{T i}(h:Y (a,b,c)=Y (T,nm,i))(k:M a b c):M T nm i:=
 aP (P:=λx=>M x.1 x.2.1 x.2.2) (bz h) k
def Zg(ok:W.y)(g:bu W H s.heap)(c:cZ A){T nm id}(P:kt op=Y (T,nm,id))(hT:T≠"bytes")
  (r:bk W.T (aU W.fr H) s.heap vs us) (d:gC op vs Q H):aQ W A E (RV W) Q (call (.builtin id) us) H s:=by
 have N:=eJ;have M:=fT;revert hT;induction op using bc.Bi.casesOn<;>first|exact aS P|(refine GL P ?_;first|exact absurd V|(intro hT;clear P hT))
 case a=>
  (refine fw d λx y l m e a1 q=>?_;clear d;subst m)
  (refine cj (lF r) λu v b i C=>?_;subst b)
  subst i;refine cw (g.z.M _ _ e) λa z B S=>aF z λn p=>?_;refine kQ M5 (aO _ p V) F.entry_list_append (F.args_list_append_2 _ _) (PySem.list_append _ a n v<|aW [_,_,_,_] (.v 0) (.v 1) [(.n 16777216,.v 1),(.v 2,.n 1048576),(.a (.v 3)<|.n 1,.v 2),(.v 0,.v 3)] V (bb<|cc M) (bb N) a1<|bb<|eP B) ⟨p,?_⟩;refine bQ .k _ (wi g e p V ?_<|by simp;exact aW [_,_] (.a (.v 0)<|.n 1) (.v 1) [(.a (.v 0)<|.n 1,.v 1)] V a1) V q;exact U D1<|B.g ⟨C,trivial⟩
 case c=>
  (refine Bx d λx y l l2 m e e2 _ a1 q=>?_;clear d;subst m)
  (refine cj (lF r) λu v b i C=>?_;subst b)
  subst i;refine cw (g.z.M _ _ e) λa z B S=>aF z λn p=>?_
  (refine eh (hB g C e2) λx I b G a3 zl2=>aF G λn2 Sy=>?_;subst b)
  refine kQ M4 (aO _ p V) F.entry_list_extend (F.args_list_extend_2 _ _) (AutoSeq1.list_extend_list_list_0 _ a n x I n2 ?_ (aW [_,_,_,_,_] (.v 0) (.v 1) [(.n 16777216,.v 1),(.v 2,.n 1048576),(.a (.v 3)<|.v 4,.v 2),(.v 0,.v 3)] V (bb<|cc M) (bb N) a1<|bb<|eP B)<|aW [_,_,_,_,_,_] (.a (.v 0)<|.v 1) (.a (.v 2)<|.n 1) [(.n 16777216,.v 2),(.v 3,.n 1048576),(.a (.v 4)<|.v 5,.v 3),(.v 1,.v 5),(.v 0,.v 4)] V (bb<|cc M) (bb N) a1 (bb<|eP a3)<|bb<|eP B)<|bW p Sy ?_;·simp only[ND,lu,decide_eq_true_eq];exact λZ=>aJ [_,_,_,_,_,_] [] [.e 1 af<|.c<|.n 1048576,.e (-1) aG<|.c<|.n 16777216,.l 1 (.c<|.a bA bK) af,.e 1 dA bf,.e 1 jS cM,.l 1 (.c<|.a aZ aX)<|.c<|.a cX dy] V (nE N) (nE M) (nl a1) (nE<|eP B) (nE<|eP a3)<|nl Z.2
  ·refine(bQ .k _ (wi g e p V (l':=_++_) ?_<|by simp;exact aW [_,_,_] (.a (.v 0)<|.v 1) (.v 2) [(.a (.v 0)<|.v 1,.v 2)] V a1) V q);exact U NL<|B.g a3
 case l=>
  (refine fw d λx l y m e ey q=>?_;clear d;subst m)
  (refine aH (hY r) λu b i=>?_;subst b)
  subst i;refine cw (g.z.M _ _ e) λa z B S=>aF z λn p=>?_;have es:=eP B;rw[yJ]at ey;refine aH (B.B ey) λu R i=>?_;have hu:a[a.size-1]? =Y u:=by refine U es<|aP vZ ?_;exact R
  refine kQ M3 (aO _ p V) F.entry_list_pop (F.args_list_pop_1 _) (list_pop_last _ a n u hu<|aW [_,_,_,_] (.v 0) (.v 1) [(.n 16777216,.v 1),(.v 2,.n 1048576),(.v 3,.v 2),(.v 0,.v 3)] V (bb<|cc M) (bb N) S<|bb es) ⟨p,?_⟩;have L:0<a.size:=by
   refine bq (nH a.size) (λh=>?_) λh=>?_;·rw[mr<|by exact aW [_,_,_] (.v 0) (.v 1) [(.v 2,.n 0),(.v 0,.v 2)] V (bb h)<|bb<|cc es]at ey;exact aS ey
   ·exact h
  have n':=wi g e p (items':=a.pop) (f:=λxs=>xs.eraseIdxIfInBounds<|a.size-1) (l':=l.dropLast) ?_ (U NJ<|B.G)<|by simp;exact aW [_,_] (.v 0) (.a (.v 1)<|.n 1) [(.v 0,.v 1)] V S
  ·exact bQ _ _ n' (i.d n'.j) q
  ·apply vY.mp;rw[NJ,Array.eraseIdxIfInBounds,dif_pos<|by exact b8 λZ=>aJ [_,_] [] [.l 1 (.c<|.a bo aX)<|.c<|.a aZ aX,.e 1 (.c<|.a aZ<|.n 1) af] V Z<|nE<|cb L,Array.toList_eraseIdx,yK,List.eraseIdx_eq_take_drop_succ,qO<|by simp;exact b8 λZ=>aJ [_,_] [] [.l 1 (.c<|.a (.a aZ<|.n 1) aX) af,.e (-1) (.c<|.a aZ<|.n 1) af] V Z<|nE<|cb L,gJ,mD]
 case e=>
  (refine cj d λx l m e q=>?_;subst m)
  (refine aH (hY r) λu b i=>?_;subst b)
  have i:=i;subst i;refine cw (g.z.M _ _ e) λa z B S=>aF z λn p=>?_;refine kQ M1 (aO _ p V) F.entry_list_reverse (F.args_list_reverse_1 _) (AutoSeq1.list_reverse_list_0 _ a n<|aW [_,_,_,_] (.v 0) (.v 1) [(.n 16777216,.v 1),(.v 2,.n 1048576),(.v 3,.v 2),(.v 0,.v 3)] V (bb<|cc M) (bb N) S<|bb<|eP B) ⟨p,?_⟩;refine bQ .k _ (wi g e p V (l':=List.reverse _) ?_<|by simpa using S) V q;exact U Array.toList_reverse<|B.j
 case s=>
  have fin:∀{K}[DecidableEq K]w x k a4 o j(f:K->Option AV)dv du,H x=Y o->w.is k a4=true->s.heap.DictOf w x j->
    gy (aT W.T (aU W.fr H) s.heap) (f k) (valueAt j k)->aT W.T (aU W.fr H) s.heap dv du->
    Q ((f k).getD dv) H->aQ W A E (RV W) Q (call (.builtin "dict.get") [.ref x,a4,du]) H s:=λw x k a4 o j f dv du e a0 D hr rd d=>by
   refine C1 M8 D.typeIs F.entry_dict_get (F.args_dict_get_3 _ _ _) (meets_dict_get_default w x a0 (g.I ok e) du)<|aO _ D.mapOf ?_;cases hf:f k with
   |some v=>
    rw[hf]at hr d;refine aH hr λu R i=>?_;exact U R<|dU g i d
   |none=>
    rw[hf]at hr d;exact U hr<|dU g rd d
  refine bq d (λz=>Bw z λy k dv f n m e q=>?_) λG=>Bw G λy k dv f n m e q=>?_
  ·subst m
   (refine fw (tF r) λu v x b i C X=>?_;subst b)
   have i:=i;subst i
   (refine aF C λt b=>?_;clear C;subst b)
   exact cw (g.z.M _ _ e) λj D a2 a0=>fin (ny W.p W.w) y k _ _ j f dv x e (pT k t) D (a0 k) X q
  ·subst m
   (refine fw (tF r) λu v x b i C X=>?_;subst b)
   have i:=i;subst i
   (refine aF C λt b=>?_;clear C;subst b)
   exact cw (g.z.M _ _ e) λj D a2 a0=>fin (oO W.p W.w) y k _ _ j f dv x e (A5 k t) D (a0 k) X q
 case d=>
  rcases d with⟨aa,kk,dv,f,n,m,e,xl,d⟩;subst m
  (refine fw (tF r) λu v x b i C X=>?_;subst b)
  subst i
  (refine aF C λt b=>?_;clear C;subst b)
  refine cw (g.z.M _ _ e) λj D a2 a0=>?_;have hv:=a0 kk;refine bq d (λz=>aH z λv m q=>?_) λG=>bp G λm q=>?_
  ·refine aH (m▸hv) λu' Jq i=>C1 DU D.typeIs Nd (Ng _ _ _) (Lq (ny W.p W.w) _ (pT (W:=W) kk t) (g.I ok e) x) (jH j D (aW [_,_,_,_] (.v 0) (.v 1) [(.n 16777216,.v 1),(.v 2,.n 1048576),(.a (.v 3)<|.n 1,.v 2),(.v 0,.v 3)] V (bb<|cc M) (bb N) xl a2) (λu R=>?_) λq=>?_)
   ·cases R.symm.trans Jq;exact dU g i ‹_›
   ·exact aS<|q.symm.trans Jq
  ·have hv:=m▸hv;refine C1 DU D.typeIs Nd (Ng _ _ _) (Lq (ny W.p W.w) _ (pT (W:=W) kk t) (g.I ok e) x)<|jH j D (aW [_,_,_,_] (.v 0) (.v 1) [(.n 16777216,.v 1),(.v 2,.n 1048576),(.a (.v 3)<|.n 1,.v 2),(.v 0,.v 3)] V (bb<|cc M) (bb N) xl a2) (λu R=>?_) λq' h' xp d7=>?_;·exact aS<|Eq.trans hv.symm R
   ·have n':Nx W H s (H.ag aa<|.c (λy=>if y=kk then Y dv else f y)<|n+1) {s with heap:=h',toks:=s.toks+1}:=Nx.D g e V V d7 (let⟨o,_,_,q,_⟩:=xp;⟨o,q⟩) λst=>(cq _ xp ?_<|zZ st X (qU j _ x) a0);·exact bQ _ _ n' (X.d n'.j) q
    ·refine U (wq _ _ _)<|U q' ?_;simp;exact aW [_,_] (.v 0) (.v 1) [(.v 0,.v 1)] V a2
end
end bc
end
section
open PySem PySem.W PyProof.Rows PySem.SeqAt PySem.MeetsSeq PySem.Builtin
namespace bc.B
def E2:Slot "bytes" "find" "bytes.find":=
 .of (owner:="bytes") (n:="find") (by refine U (oJ _ _)<|U oM ?_;kernel_rfl) (by decide+kernel) (by decide+kernel) (by decide+kernel)
  (by first|exact .inl (by decide+kernel)|exact .inr<|by decide+kernel) (by refine U (nw _ _) ?_;kernel_rfl)
def OO:oI (.builtin "bytes.find")=pure (.type "method_descriptor"):=by refine U sr ?_;kernel_rfl
def Y8:qz table "bytes.find"=Y Builtin.«bytes.find»:=qy<|by kernel_rfl
def acG a b c:qB "bytes.find" ⟨[a,b,c],[]⟩:=by refine U (qw (id:="bytes.find") (n:=['d','n','i','f']) (by kernel_rfl) qR) ?_;kernel_rfl
def E0:Slot "bytes" "join" "bytes.join":=
 .of (owner:="bytes") (n:="join") (by refine U (oJ _ _)<|U oM ?_;kernel_rfl) (by decide+kernel) (by decide+kernel) (by decide+kernel)
  (by first|exact .inl (by decide+kernel)|exact .inr<|by decide+kernel) (by refine U (nw _ _) ?_;kernel_rfl)
def OM:oI (.builtin "bytes.join")=pure (.type "method_descriptor"):=by refine U sr ?_;kernel_rfl
def Y6:qz table "bytes.join"=Y Builtin.«bytes.join»:=qy<|by kernel_rfl
def acE a b:qB "bytes.join" ⟨[a,b],[]⟩:=by refine U (qw (id:="bytes.join") (n:=['n','i','o','j']) (by kernel_rfl) qR) ?_;kernel_rfl
def EX:Slot "bytes" "strip" "bytes.strip":=
 .of (owner:="bytes") (n:="strip") (by refine U (oJ _ _)<|U oM ?_;kernel_rfl) (by decide+kernel) (by decide+kernel) (by decide+kernel)
  (by first|exact .inl (by decide+kernel)|exact .inr<|by decide+kernel) (by refine U (nw _ _) ?_;kernel_rfl)
def OJ:oI (.builtin "bytes.strip")=pure (.type "method_descriptor"):=by refine U sr ?_;kernel_rfl
def Y2:qz table "bytes.strip"=Y Builtin.«bytes.strip»:=qy<|by kernel_rfl
def acA a b:qB "bytes.strip" ⟨[a,b],[]⟩:=by refine U (qw (id:="bytes.strip") (n:=['p','i','r','t','s']) (by kernel_rfl) qR) ?_;kernel_rfl
def EZ:Slot "bytes" "rstrip" "bytes.rstrip":=
 .of (owner:="bytes") (n:="rstrip") (by refine U (oJ _ _)<|U oM ?_;kernel_rfl) (by decide+kernel) (by decide+kernel) (by decide+kernel)
  (by first|exact .inl (by decide+kernel)|exact .inr<|by decide+kernel) (by refine U (nw _ _) ?_;kernel_rfl)
def OL:oI (.builtin "bytes.rstrip")=pure (.type "method_descriptor"):=by refine U sr ?_;kernel_rfl
def Y4:qz table "bytes.rstrip"=Y Builtin.«bytes.rstrip»:=qy<|by kernel_rfl
def acC a:qB "bytes.rstrip" ⟨[a],[]⟩:=by refine U (qw (id:="bytes.rstrip") (n:=['p','i','r','t','s','r']) (by kernel_rfl) qR) ?_;kernel_rfl
def E1:Slot "bytes" "isalpha" "bytes.isalpha":=
 .of (owner:="bytes") (n:="isalpha") (by refine U (oJ _ _)<|U oM ?_;kernel_rfl) (by decide+kernel) (by decide+kernel) (by decide+kernel)
  (by first|exact .inl (by decide+kernel)|exact .inr<|by decide+kernel) (by refine U (nw _ _) ?_;kernel_rfl)
def ON:oI (.builtin "bytes.isalpha")=pure (.type "method_descriptor"):=by refine U sr ?_;kernel_rfl
def Y7:qz table "bytes.isalpha"=Y Builtin.«bytes.isalpha»:=qy<|by kernel_rfl
def acF a:qB "bytes.isalpha" ⟨[a],[]⟩:=by refine U (qw (id:="bytes.isalpha") (n:=['a','h','p','l','a','s','i']) (by kernel_rfl) qR) ?_;kernel_rfl
def EY:Slot "bytes" "split" "bytes.split":=
 .of (owner:="bytes") (n:="split") (by refine U (oJ _ _)<|U oM ?_;kernel_rfl) (by decide+kernel) (by decide+kernel) (by decide+kernel)
  (by first|exact .inl (by decide+kernel)|exact .inr<|by decide+kernel) (by refine U (nw _ _) ?_;kernel_rfl)
def OK:oI (.builtin "bytes.split")=pure (.type "method_descriptor"):=by refine U sr ?_;kernel_rfl
def Y3:qz table "bytes.split"=Y Builtin.«bytes.split»:=qy<|by kernel_rfl
def acB a b:qB "bytes.split" ⟨[a,b],[]⟩:=by refine U (qw (id:="bytes.split") (n:=['t','i','l','p','s']) (by kernel_rfl) qR) ?_;kernel_rfl
section
variable {b:Array UInt8}{t:Tok}
def Ko{i}:Nz i (.bytes b t)=pure b:=by unfold Nz;refine U DJ ?_;rfl
def zP:DY .bytes (.bytes b t)=pure (.bytes b t):=by rfl
def Pc{i}:Np i (.bytes b t) 0=pure (Y (b,O)):=by
 unfold Np;refine U (KBy.special_eq KBy.look_buffer)<|U KBy.own_buffer<|U (by decide:(0==Bytes.fullReadOnly)=false)<|U DJ ?_
 kernel_rfl
def Pb{i}:Nn i (.bytes b t) 0=pure (Y (b,O)):=by unfold Nn;refine U Pc ?_;rfl
def aaP:NA O=pure O:=V
def aaQ i:NA (Y<|.int i t)=pure (Y i):=by refine(?_:(specialOf (.int i t) "__index__">>=λr=>_)=_);refine U (V:specialOf (.int i t) "__index__"=qr (.type "int") "__index__")<|U M7.lookup ?_;rfl
end
def Xi b t:Gives («bytes.isalpha» ⟨[.bytes b t],[]⟩)<|.val<|.bool<|Bytes.allOf Bytes.isAlpha b.toList:=.of_eq V
def BM p(l:List UInt8):(l.dropWhile p).length<=l.length:=(List.dropWhile_suffix p).length_le
def UU b t:Meets («bytes.rstrip» ⟨[.bytes b t],[]⟩) λ_ R s=>b.size<=jY/\∀(c:List UInt8)f k,c.length<=b.size->R (.ok<|.ret<|.bytes c.toArray f) {s with toks:=k}:=
 .of_wp λp w A R s e=>by
  refine bp e λg h=>?_;have a:(b.toList.reverse.dropWhile Nw).reverse.length<=b.size:=by have:=BM Nw b.toList.reverse;simp only[yE,mD]at this |- ;exact this
  refine jr (λd=>?_) λd=>?_
  ·refine aN (oF ?_);refine aN<|oG zP<|br<|aO _ V ?_;have:=h b.toList t s.toks<|by simp
   exact this
  ·exact aN<|uT (br<|aO _ V<|h _ _ _ a)<|by simp only[mi];exact aE a g
def US b x t u:Meets («bytes.strip» ⟨[.bytes b t,.bytes x u],[]⟩) λ_ R s=>b.size<=jY/\∀(c:List UInt8)l k,c.length<=b.size->R (.ok<|.ret<|.bytes c.toArray l) {s with toks:=k}:=
 .of_wp λp w A R s i=>by
  refine bp i λm h=>?_;have a:∀n,selfAndSome n "strip" 0 1 ⟨[.bytes b t,.bytes x u],[]⟩=pure _:=λ_=>V;have j:«bytes.strip» ⟨[.bytes b t,.bytes x u],[]⟩=(if(((b.toList.dropWhile x.contains).reverse.dropWhile x.contains).reverse.length==b.size)=true then(do rule s!"{"bytes.strip"}.unchanged";ret (<-DY .bytes<|.bytes b t))else(do ret (<-mkBytes ((b.toList.dropWhile x.contains).reverse.dropWhile x.contains).reverse.toArray))):=by refine(?_:Nq .bytes "strip" true true _=_);unfold Nq;simp only[a,pure_bind,Ko];rfl
  refine U j ?_;have d:((b.toList.dropWhile x.contains).reverse.dropWhile x.contains).reverse.length<=b.size:=by have f:=BM x.contains b.toList;have e:=BM x.contains (b.toList.dropWhile x.contains).reverse;simp only[yE,mD]at f e |- ;exact aW [_,_,_] (.v 0) (.v 1) [(.v 2,.v 1),(.v 0,.v 2)] V f e
  refine jr (λg=>?_) λg=>?_
  ·refine aN (oF ?_);refine aN<|oG zP<|br<|aO _ V ?_;have:=h b.toList t s.toks<|by simp
   exact this
  ·exact aN<|uT (br<|aO _ V<|h _ _ _ d)<|by simp only[mi];exact aE d m
theorem I9:∀l a s,ir l a s=(match(fV l.length).find? (λj=>decide (s<=a+j)&&(l[j]? ==Y 10))with|some j=>(a+j:Nat)|none=>-1)
 |[],a,s=>rfl
 |c::r,a,s=>by
  rw[ir,j8,Mc,sQ,I9 r (a+1) s];simp only[mh,List.getElem?_cons_zero,List.find?_map];by_cases b:s<=a/\c=10
  ·(refine bp b λb d=>?_;subst d)
   simp[b]
  ·refine U (if_neg b) ?_;have:(decide (s<=a)&&(Y c==Y 10))=false:=by
    refine U (propext NI) ?_;exact bq (Decidable.not_and_iff_not_or_not.mp b) (λh=>.inl<|by simpa using h) λh=>.inr<|by simpa using h
   simp only[this];have e:((λj=>decide (s<=a+j)&&((c::r)[j]? ==Y 10))∘Dd)=(λj=>decide (s<=a+1+j)&&(r[j]? ==Y 10)):=by funext j;simp only[MV,vH,Nat.succ_eq_add_one];congr 2;exact U (show a+(j+1)=a+1+j from by exact dB (aW [_,_] (.a (.v 0)<|.a (.v 1)<|.n 1) (.a (.a (.v 0)<|.n 1)<|.v 1) [] V)<|aW [_,_] (.a (.a (.v 0)<|.n 1)<|.v 1) (.a (.v 0)<|.a (.v 1)<|.n 1) [] V) V
   refine U e ?_;cases(fV r.length).find? _ with
   |none=>rfl
   |some j=>simp only[Option.map_some,Nat.succ_eq_add_one];congr 1;exact dB (aW [_,_] (.a (.a (.v 0)<|.n 1)<|.v 1) (.a (.v 0)<|.a (.v 1)<|.n 1) [] V)<|aW [_,_] (.a (.v 0)<|.a (.v 1)<|.n 1) (.a (.a (.v 0)<|.n 1)<|.v 1) [] V
def Jc(b:Array UInt8)i c:(b.extract i (i+1)==#[c])=(b.toList[i]? ==Y c):=by
 refine U (propext nO)<|U (propext beq_iff_eq)<|U (propext beq_iff_eq) ?_;constructor
 ·intro h;have d:=congrArg (λx=>x[0]?) h;simp only[Array.getElem?_extract]at d;simp at d;have k:=congrArg Array.size h;simp at k;refine aP d.2 ?_;simp
 ·intro h;have g:i<b.size:=by
   rw[et]at h;refine aF h λh _=>?_;exact h
  apply Array.ext;·simp;exact i7 (Min.min _ b.size) (i) (λz f=>cN<|cA [_,_,_] [] aG (.c<|.n 1) [.e 1 bf<|.c<|.a bo<|.n 1,.e 1 (.c<|.a aZ bo) bf] V (nE<|fB g) f) λz f=>(aJ [_,_] [] [.e (-1) aG<|.c<|.a bo<|.n 1,.l 1 aG af] V (nE<|fB g) z).elim
  ·intro j m d;simp at d;subst d;refine U (Array.getElem_extract _) ?_;simp at h |-;rw[NR g]at h;simpa using h
def Xw b(i:Nat):(match(if((b.size:Int)-i<(#[10]:Array UInt8).size)then O else Y (i,b.size)).bind λp=>Ny b #[10] p.1 p.2 with|some j=>j|none=>-1)=ir b.toList 0 i:=by
 refine U (I9 _ _ _) ?_;simp only[cy];by_cases h:((b.size:Int)-i<(#[10]:Array UInt8).size)
 ·refine U (if_pos h) ?_;simp at h;have:(fV b.toList.length).find? (λj=>decide (i<=j)&&(b.toList[j]? ==Y 10))=O:=by
   refine U (propext DC) ?_;intro x a;simp at a |-;omega
  refine U this ?_;rfl
 ·refine U (if_neg h) ?_;simp at h;simp only[Option.bind_some,Ny];refine U (by simp;exact cN (cA [_,_,_] [] af (.c<|.a aZ bA) [.e (-1) (.c<|.a bA aZ) af] V<|nE<|cb<|b8 λz=>aJ [_,_] [] [.l 1 aM<|.s af aG,.l 1 (.c<|.a bo aX) aG] V h z):b.toList.length=i+(b.size-i))<|U List.range_add<|U DD ?_;have:(fV i).find? (λj=>decide (i<=j)&&(b.toList[j]? ==Y 10))=O:=by
   refine U (propext DC) ?_;intro x a;simp at a |-;omega
  refine U this ?_;refine U (by simp:b.size+1-(i+(#[(10:UInt8)]).size)=b.size-i) ?_;refine U (by funext x;exact dB (aW [_,_] (.a (.v 0)<|.v 1) (.a (.v 1)<|.v 0) [] V) (aW [_,_] (.a (.v 1)<|.v 0) (.a (.v 0)<|.v 1) [] V):(λx=>i+x)=(λx=>x+i)) ?_;have g:∀l:List Nat,(∀x∈l,i<=x)->l.find? (λj=>b.extract j (j+(#[10]:Array UInt8).size)==#[10])=l.find? (λj=>decide (i<=j)&&(b.toList[j]? ==Y 10)):=λl f=>by
   induction l with
   |nil=>rfl
   |cons x r k=>
    have d:(b.extract x (x+(#[(10:UInt8)]).size)==#[10])=(decide (i<=x)&&(b.toList[x]? ==Y 10)):=by refine U (show x+(#[(10:UInt8)]).size=x+1 from V)<|U (Jc _ _ _) ?_;simp[f x<|.head _]
    exact U sQ<|U sQ<|U d<|U (k λy m=>f y<|.tail _ m) V
  exact U (g _ λx a=>by simp at a;omega) V
def UX b t u v(i:Nat):Meets («bytes.find» ⟨[.bytes b t,.bytes #[10] u,.int i v],[]⟩) λ_ R s=>∀o k,R (.ok<|.ret<|.int (ir b.toList 0 i) o) {s with toks:=k}:=
 .of_wp λa w A R s h=>by
  have n:Nt .bytes "find" ⟨[.bytes b t,.bytes #[10] u,.int i v],[]⟩=pure (b,#[10],if((b.size:Int)-i<(#[10]:Array UInt8).size)then O else Y (i,b.size)):=by
   have c:∀l,selfAndSome l "find" 1 3 ⟨[.bytes b t,.bytes #[10] u,.int i v],[]⟩=pure _:=λ_=>V;unfold Nt;simp only[c,pure_bind,vH,List.getElem?_cons_zero,Dy,aaQ,aaP,List.headD_cons,DJ];have g:Nu (.bytes b t)=pure b:=V;simp only[g,pure_bind];have f:Nm b.size (Y i) O=((i:Int),(b.size:Int)):=by unfold Nm;have p:¬((i:Int)<0):=λz=>aJ [_] [] [.l 1 (.a af aM) bJ] V z;have m:¬((b.size:Int)<0):=λz=>aJ [_] [] [.l 1 (.a af aM) bJ] V z;simp only[Option.getD_some,Option.getD_none,p,m,if_false];simp
   refine U f ?_;rfl
  refine aN<|oG n ?_;have d:=Xw b i;simp only[y4,if_false];split
  ·rename_i j e;have d:=e▸d;exact aN<|qp<|br<|aO _ V<|by have:=h s.toks<|s.toks+1;rw[<-d]at this;exact this
  ·rename_i e;have d:=e▸d;refine aN<|oF ?_;exact aN<|qp<|br<|aO _ V<|by have:=h s.toks<|s.toks+1;rw[<-d]at this;exact this
inductive iB:List bI->List (List UInt8)->Prop
 |b:iB [] []
 |a {p:List UInt8} {t:Tok} {vs:List bI} {ps:List<|List UInt8}:iB vs ps->iB (.bytes p.toArray t::vs) (p::ps)
theorem iB.c(h:iB vs ps):vs.length=ps.length/\∀j a(b:j<ps.length),∃t,vs[j]=.bytes ps[j].toArray t:=by
 induction h with
 |b=>exact⟨V,λj a=>by simp at a⟩
 |a _ i=>
  refine bp i λc k=>?_;refine⟨by simp[c],λj a b=>?_⟩;induction j using Nat.casesAuxOn with
  |zero=>exact⟨_,V⟩
  |succ j=>exact k j (by simpa using a)<|by simpa using b
noncomputable def jb:List UInt8->Nat->List Nat
 |[],_=>[]
 |c::r,k=>if c=10 then k::jb r (k+1)else jb r<|k+1
theorem F5:∀l k,jb l k=((fV l.length).filter λi=>l[i]? ==Y 10).map (k+·)
 |[],_=>rfl
 |c::r,k=>by
  rw[j8,Mc,vJ,List.filter_map,jb,F5 r<|k+1];refine U (by funext j;rfl:((λi=>(c::r)[i]? ==Y 10)∘Dd)=(λi=>r[i]? ==Y 10)) ?_;have e:((λx=>k+x)∘Dd)=(λx=>k+1+x):=by funext j;simp only[MV];exact dB (aW [_,_] (.a (.v 0)<|.a (.v 1)<|.n 1) (.a (.a (.v 0)<|.n 1)<|.v 1) [] V)<|aW [_,_] (.a (.a (.v 0)<|.n 1)<|.v 1) (.a (.v 0)<|.a (.v 1)<|.n 1) [] V
  by_cases h:c=10;·subst h;simp[e]
  ·simp[h,e]
theorem Gi(b:Array UInt8):∀n,∃m,((fV n).foldl (λc i=>if(decide (i>=c.2)&&b.extract i (i+(#[(10:UInt8)]).size)==#[10])=true then(i::c.1,i+(#[(10:UInt8)]).size)else c) ([],0))=(((fV n).filter λi=>b.toList[i]? ==Y 10).reverse,m)/\m<=n
 |0=>aO 0 V<|bN _
 |n+1=>by
  refine aH (Gi b n) λm e d=>?_;refine U Dp<|U Mr<|U e<|U (vK _ _)<|U Dm ?_;simp only[sP,List.foldl_nil];refine U (Jc b n 10) ?_;refine U (by simpa using d:decide (n>=m)=true)<|U (vT _)<|U vJ<|U Mt ?_;by_cases h:(b.toList[n]? ==Y 10)=true;·refine U (if_pos h)<|U (if_pos h) ?_;exact aO _ V<|bN _
  ·refine U (if_neg h)<|U (if_neg h) ?_;exact aO m V<|aW [_,_] (.v 0) (.a (.v 1)<|.n 1) [(.v 0,.v 1)] V d
def SX b:(Nv b #[10] 0 b.size).take (b.size+1)=jb b.toList 0:=by
 refine aH (Gi b b.size) λm e _=>?_;unfold Nv;dsimp only;refine U (by simp:(fV _).map _=fV b.size) ?_;have:=congrArg yp e;simp only at this;refine U this<|U (List.reverse_reverse _)<|U (F5 _ _) ?_;have h:((fV b.size).filter λi=>b.toList[i]? ==Y 10).length<=b.size:=by have:=vD (λi=>b.toList[i]? ==Y 10)<|fV b.size;simpa using this
 refine U (vu<|by exact aW [_,_] (.v 0) (.a (.v 1)<|.n 1) [(.v 0,.v 1)] V h) ?_;simp
def wy:∀l,dD l≠[]
 |[]=>by simp[dD]
 |c::r=>by
  unfold dD;split;·simp
  ·split<;>simp
theorem Ci(b:Array UInt8):∀l k(f:Array<|Array UInt8)(d:Nat),d<=k->k<=b.size->b.toList.drop k=l->
  ((let p:=(jb l k).foldl (λ(x:Array (Array UInt8)×Nat)p=>(x.1.push<|b.extract x.2 p,p+1)) (f,d)
   p.1.push (b.extract p.2 b.size)).toList.map nP)=f.toList.map nP++(match dD l with|h::r=>(((b.toList.drop d).take (k-d))++h)::r|[]=>[])
 |[],k,f,d,j,o,i=>by
  have m:k=b.size:=by have:=congrArg qM i;simp at this;exact cN<|cA [_,_,_] [] af aG [.e (-1) bf<|.c<|.n 0,.e 1 (.c<|.a bA bo) aG] V (nE this)<|nE<|cb o
  subst m;simp[jb,dD,NK,List.extract]
 |c::r,k,f,d,j,o,i=>by
  have m:k<b.size:=by have:=congrArg qM i;simp at this;exact b8 λw=>aJ [_,_,_,_] [] [.e (-1) bf<|.c<|.a bK<|.n 1,.l 1 (.c<|.a aZ aX)<|.c<|.a bo aX,.e 1 (.c<|.a bA bo) aG] V (nE this) w<|nE<|cb o
  have u:b.toList[k]? =Y c:=by have:=congrArg (λl=>l[0]?) i;simpa using this
  have s:b.toList.drop (k+1)=r:=by refine aP DF<|U i ?_;rfl
  unfold jb dD;by_cases g:c=10
  ·refine U (if_pos g) (U (if_pos g)<|U sP ?_);have:=Ci b r (k+1) (f.push<|b.extract d k) (k+1) (bN _) (aW [_,_] (.a (.v 0)<|.n 1) (.v 1) [(.a (.v 0)<|.n 1,.v 1)] V m) s;simp only at this |-;refine U this ?_;cases q:dD r with
   |nil=>exact absurd q<|wy r
   |cons h t=>simp[NK,List.extract]
  ·refine U (if_neg g) (U (if_neg g) ?_);have:=Ci b r (k+1) f d (aW [_,_] (.v 0) (.a (.v 1)<|.n 1) [(.v 0,.v 1)] V j) (aW [_,_] (.a (.v 0)<|.n 1) (.v 1) [(.a (.v 0)<|.n 1,.v 1)] V m) s;refine U this ?_;cases q:dD r with
   |nil=>exact absurd q<|wy r
   |cons h t=>
    simp only[List.append_cancel_left_eq,List.cons.injEq,and_true];have:(b.toList.drop d).take (k+1-d)=(b.toList.drop d).take (k-d)++[c]:=by refine U (show k+1-d=(k-d)+1 by exact cN<|cA [_,_,_,_] [] bf (.c<|.a bK<|.n 1) [.e 1 (.c<|.a bA bo)<|.c<|.a aZ<|.n 1,.e (-1) (.c<|.a bK bo) aG] V (nE<|cb<|b8 (a:=d) (b:=k+1) λz=>aJ [_,_] [] [.l 1 af aG,.l 1 (.c<|.a (.a aZ<|.n 1) aX) af] V (nl j) z)<|nE<|cb j) (U vv<|U sO<|U (show d+(k-d)=k by exact cN<|cA [_,_,_] [] (.c<|.a bo bA) aG [.e 1 (.c<|.a bA bo) aG] V<|nE<|cb j)<|U u ?_);rfl
    refine U this<|U (f7 _ _ _) ?_;rfl
def KC b:(NB b 1<|jb b.toList 0).map nP=dD b.toList:=by
 have:=Ci b b.toList 0 #[] 0 (bN _) (cB _) V;simp only at this |-;refine U this ?_;cases a:dD b.toList with
 |nil=>exact absurd a<|wy _
 |cons h t=>simp
def PJ l:∀k,jb l k=[]->dD l=[l]:=by
 induction l with
 |nil=>intro k _;rfl
 |cons c r i=>
  intro k h;unfold jb at h;split at h;·cases h
  ·rename_i a;unfold dD;exact U (if_neg a)<|U (i _ h) V
def EU l:∀p∈dD l,p.length<=l.length:=by
 induction l with
 |nil=>simp[dD]
 |cons c r i=>
  unfold dD;split
  ·intro p b;rcases gH.mp b with rfl|b;·simp
   ·have:=i p b;simp;exact aW [_,_] (.v 0) (.a (.v 1)<|.n 1) [(.v 0,.v 1)] V this
  ·cases d:dD r with
   |nil=>exact absurd d<|wy r
   |cons h t=>
    have i:=d▸i;intro p b;rcases gH.mp b with rfl|b;·have:=i h<|.head _;simp;exact aW [_,_] (.v 0) (.v 1) [(.v 0,.v 1)] V this
    ·have:=i p<|.tail _ b;simp;exact aW [_,_] (.v 0) (.a (.v 1)<|.n 1) [(.v 0,.v 1)] V this
def EV l:(dD l).length<=l.length+1:=by
 induction l with
 |nil=>simp[dD]
 |cons c r i=>
  unfold dD;split;·simp;exact aW [_,_] (.v 0) (.a (.v 1)<|.n 1) [(.v 0,.a (.v 1)<|.n 1)] V i
  ·cases b:dD r with
   |nil=>simp
   |cons h t=>rw[b]at i;simp at i |- ;exact aW [_,_] (.v 0) (.a (.v 1)<|.n 1) [(.v 0,.v 1)] V i
theorem GU:∀(c:List<|Array UInt8)s Q,(∀x∈c,x.size<=jY)->
  (∀v k,iB v (c.map nP)->Q v {s with toks:=k})->bw M A (c.mapM mkBytes) Q E s
 |[],s,Q,_,h=>by exact U List.mapM_nil<|br<|h [] s.toks .b
 |x::r,s,Q,d,h=>by refine U List.mapM_cons ?_;refine aN<|uT ?_<|d x<|.head _;refine aN<|GU r _ _ (λy b=>d y<|.tail _ b) λv k a=>br ?_;refine h _ k ?_;have:=iB.a (p:=x.toList) (t:=s.toks) a;exact this
def UT b t u:Meets («bytes.split» ⟨[.bytes b t,.bytes #[10] u],[]⟩) (λ_ R s=>b.size<jY/\∀v k,iB v (dD b.toList)->
  R (.ok (.ret (.ref s.heap.objs.size))) {s with heap:=s.heap.push {cls:=.type "list",data:=.seq v.toArray},toks:=k}):=
 .of_wp λa w A R s d=>by
  refine bp d λi h=>?_;have f:«bytes.split» ⟨[.bytes b t,.bytes #[10] u],[]⟩=(if(jb b.toList 0).isEmpty=true then(do rule s!"{"bytes.split"}.no-separator";ret (<-newList [<-DY .bytes<|.bytes b t]))else(do ret (<-newList<|<-(NB b 1<|jb b.toList 0).mapM mkBytes))):=by refine(?_:Nr .bytes "split" false _=_);unfold Nr;simp only[(by decide:(s!"{Bytes.Kind.bytes.name}.{"split"}")="bytes.split"),(by kernel_rfl:Bytes.bindOptional "bytes.split" "split" ["sep","maxsplit"] [.bytes #[10] u] []=pure [Y<|.bytes #[10] u,none]),pure_bind,Ko];have g:Nu (.bytes b t)=pure b:=V;simp only[g,pure_bind];refine U (V:(if(-1)<0 then b.size+1 else(-1).toNat)=b.size+1)<|U (SX _) ?_;rfl
  refine U f ?_;refine jr (λe=>?_) λe=>?_
  ·refine aN (oF ?_);refine aN<|oG zP ?_;refine aN<|wpAny_newList (br<|aO _ V ?_)<|by simp[fT]
   refine h _ _ ?_;refine U (PJ _ 0<|by simpa using e) ?_;have:=iB.a (p:=b.toList) (t:=t) .b;exact this
  ·refine aN (GU _ _ _ (λx j=>?_) λv k c=>?_)
   ·have:=EU _ _ ((KC b)▸iG.mpr (aO x j V));simp at this;exact aW [_,_,_] (.v 0) (.v 1) [(.a (.v 2)<|.n 1,.v 1),(.v 0,.v 2)] V d.1 this
   ·have c:=(KC b)▸c;have:=EV b.toList;refine aN<|wpAny_newList (br<|aO _ V<|h _ _ c)<|by simp at this;exact aW [_,_,_,_] (.v 0) (.v 1) [(.a (.v 2)<|.n 1,.v 1),(.v 3,.a (.v 2)<|.n 1),(.v 0,.v 3)] V d.1 this<|bb c.c.1
def Ip b:(DX #[] b).toList=(b.map nP).flatten:=by
 have k:∀(l:List<|Array UInt8×Nat)(a:Array UInt8),(l.foldl (λo(p,i)=>(if i>0 then o++#[]else o)++p) a).toList=a.toList++((l.map (·.1)).map nP).flatten:=λl=>by
  induction l with
  |nil=>intro a;simp
  |cons p r c=>intro a;refine U sP<|U (c _) ?_;obtain⟨p,i⟩:=p;by_cases h:i>0<;>simp[h]
 refine U (k _ _) ?_;simp
theorem y7:∀t,(∀p∈t,p.2=O)->Q () s->bw M A (Bytes.joinLetGo t keep) Q E s
 |[],_,h=>br h
 |(x,some w)::r,hn,h=>absurd (hn _<|.head _) nofun
 |(x,none)::r,hn,h=>by exact aN<|wpAny_letGo<|y7 r (λp a=>hn p<|.tail _ a) h
def I5(b:Array<|Array UInt8)(k:Nat):Array.foldl (λx(c:Array UInt8)=>x+c.size) k b=k+((b.toList.map nP).flatten).length:=by
 refine aP (NT _) ?_;generalize b.toList=l;induction l generalizing k with
 |nil=>simp
 |cons p r i=>refine U sP<|U (i _) ?_;simp;exact dB (aW [_,_,_] (.a (.a (.v 0)<|.v 1)<|.v 2) (.a (.v 0)<|.a (.v 1)<|.v 2) [] V)<|aW [_,_,_] (.a (.v 0)<|.a (.v 1)<|.v 2) (.a (.a (.v 0)<|.v 1)<|.v 2) [] V
def UW l t c n C(M:iB c.toList C):Meets («bytes.join» ⟨[.bytes #[] t,.ref l],[]⟩)
  (λ_ R s=>s.heap.get? l=Y {cls:=.type "list",data:=.seq c n}/\C.flatten.length<=jY/\∀a0 k,R (.ok<|.ret<|.bytes C.flatten.toArray a0) {s with toks:=k}):=
 .of_wp λprog w A R s P=>by
  refine dN P λL hz h=>?_;refine aN<|oG ((λ_=>V) _) ?_;refine aN ?_;refine aN<|wpAny_typeOf (aO _ L V) ?_;refine br ?_;refine aN<|yc L V ?_;obtain⟨a⟩:=c;refine bp M.c λm K=>?_
  replace m:a.length=C.length:=m
  have go:∀F G,
    (∀i(x:List UInt8)u f d Q E,a[i]? =Y (.bytes x.toArray u)->(∀p∈d,p.1.onHeap=false/\p.2=O)->
     Q (.yield (f.push x.toArray,d++[(.bytes x.toArray u,O)])) s->bw _ A.in1 (F i (f,d)) Q E s)->
    (∀f d,f.toList.map nP=C->(∀p∈d,p.2=O)->bw (bM prog w) A.in1 (G (f,d)) (λfin W=>∃v,fin=Fin.done (Flow.ret v)/\R _ W) (λe W=>R _ W) s)->
    bw (bM prog w) A.in1 ((forIn [:(Array.mk a).size] (#[],([]:List<|bI×Option bI)) F)>>=G) (λfin W=>∃v,fin=Fin.done _/\R (Except.ok<|Flow.ret v) W) (λe W=>R (Except.error e) W) s:=λF G T S=>by
   refine aN ?_;refine U (ac6 _ _ _) ?_;refine U (by simp[Ly]:(Ly [:(Array.mk a).size])=a.length) ?_;refine CN _ (λB b W=>W=s/\(∀p∈b.2,p.1.onHeap=false/\p.2=O)/\∃i,B=List.range' i (a.length-i) 1/\i<=a.length/\b.1.toList.map nP=C.take i) _ ?turn ?fin _ _ ⟨V,λ_ h=>(dM h).elim,0,V,cB _,V⟩
   case turn=>
    rintro i B ⟨f,d⟩ W ⟨rfl,q,j,H,I,o⟩
    refine bq (hO j a.length) (λg=>?_) λD=>?_
    ·rw[(cN (cA [_,_,_,_] [] bf (.c<|.a bK<|.n 1) [.e 1 (.c<|.a bA aZ) af,.e (-1) (.c<|.a bK<|.a aZ<|.n 1) af] V (nE<|cb I)<|nE<|cb g):a.length-j=(a.length-(j+1))+1),Md]at H;injection H with WC Bf;subst WC;refine aF (K i g<|aW [_,_,_] (.a (.v 0)<|.n 1) (.v 1) [(.v 2,.v 1),(.a (.v 0)<|.n 1,.v 2)] V (bb m) g) λu X=>?_;refine T i _ u f d _ _ (et.mpr ⟨g,X⟩) q ?_;refine⟨V,λp o=>?_,i+1,Bf,g,?_⟩
     ·refine bq (fM.mp o) (λh=>?_) λh=>?_;·exact q p h
      ·simp at h;subst h;exact⟨V,V⟩
     ·refine U (L8<|aW [_,_,_] (.a (.v 0)<|.n 1) (.v 1) [(.v 2,.v 1),(.a (.v 0)<|.n 1,.v 2)] V (bb m) g)<|U D1<|U cz<|U o ?_;rfl
    ·rw[show a.length-j=0 by exact cN<|fZ (λN=>aJ [_] [] [.l 1 (.a af aM)<|.c<|.n 0] V N) λN=>aJ [_,_,_] [] [.l 1 af aG,.e 1 (.c<|.a bA aZ) af,.l 1 (.a (.c<|.n 0) aM) bf] V (nl D) (nE<|cb I) N]at H;simp at H
   case fin=>
    rintro ⟨f,d⟩ W ⟨rfl,q,j,H,I,o⟩
    have:j=a.length:=by
     refine bq (hO j a.length) (λg=>?_) λD=>?_
     ·rw[show a.length-j=(a.length-(j+1))+1 by exact cN<|cA [_,_,_,_] [] bf (.c<|.a bK<|.n 1) [.e 1 (.c<|.a bA aZ) af,.e (-1) (.c<|.a bK<|.a aZ<|.n 1) af] V (nE<|cb I)<|nE<|cb g,Md]at H;cases H
     ·exact dB (aW [_,_] (.v 0) (.v 1) [(.v 0,.v 1)] V I)<|aW [_,_] (.v 1) (.v 0) [(.v 1,.v 0)] V D
    subst this;refine S f d ?_ λp o=>(q p o).2;exact U o<|U m<|U il V
  have body:∀i(x:List UInt8)u,a[i]? =Y (.bytes x.toArray u)->(Array.mk a).getD i Lw=.bytes x.toArray u:=λi x u e=>by simp[Array.getD_eq_getD_getElem?,e]
  have z:∀d:List<|bI×Option bI,(∀p∈d,p.1.onHeap=false/\p.2=O)->(d.any λx=>x.1.onHeap)=false:=λd h=>by refine U (propext Mw) ?_;intro p o;simp[(h p o).1]
  rcases a with _|⟨x,_|⟨y,r⟩⟩
  rotate_left
  ·cases M with
   |a M=>
    cases M;refine aN<|wpAny_typeOf (iD s _ _) ?_;refine aN<|oF<|br<|aO _ V ?_;have:=h ‹_› s.toks;simp only[vI,List.flatten_nil,gJ]at this;exact this
  rotate_left
  ·refine go _ _ (λi x u f d Q E X q Z=>?_) λf d o q=>?_;·simp at X
   ·refine(?_:bw _ _ (if y0 _=true then _ else _) _ _ s);refine U (I5 _ _)<|U o ?_;refine U (if_neg<|by unfold y0;simp only[decide_eq_true_eq];intro hc;simp only[mi,yF,u6,cy]at hc;exact u9 0<|aW [_,_] (.n 1) (.n 0) [(.v 0,.v 1),(.a (.v 1)<|.n 1,.v 0)] V hz hc) ?_;have I:(DX #[] f.toList)=C.flatten.toArray:=by apply vY.mp;exact U (Ip _)<|U o V
    refine U I ?_;refine aN<|uT ?_<|by simp only[mi];exact hz
    refine aN<|e5<|wpAny_point ?_;exact aN<|y7 _ q<|br<|aO _ V<|h _ _
  ·refine go _ _ (λi x u f d Q E X q Z=>?_) λf d o q=>?_
   ·refine aN (yc L V ?_);dsimp only;refine U (body i _ u X) ?_;refine jr (λhc=>?_) λ_=>?_
    ·have hc:=hc;rw[z d q]at hc;exact aV hc
    ·refine aN (e5<|oG Pb ?_);refine aN<|yc L V ?_;refine jr (λhc=>?_) λ_=>br Z;simp at hc
   ·refine(?_:bw _ _ (if y0 _=true then _ else _) _ _ s);refine U (I5 _ _)<|U o ?_;refine U (if_neg<|by unfold y0;simp only[decide_eq_true_eq];intro hc;simp only[mi,yF,u6,cy]at hc;exact u9 0<|aW [_,_] (.n 1) (.n 0) [(.v 0,.v 1),(.a (.v 1)<|.n 1,.v 0)] V hz hc) ?_;refine U (by apply vY.mp;exact U (Ip _) (U o V):(DX #[] f.toList)=C.flatten.toArray) ?_;refine aN<|uT ?_<|by simp only[mi];exact hz
    refine aN<|e5<|wpAny_point ?_;exact aN<|y7 _ q<|br<|aO _ V<|h _ _
end bc.B
end
section
set_option backward.match.sparseCases false
open PySem PySem.W PyProof.Rows PySem.SeqAt PySem.MeetsSeq
namespace bc
section
variable {W:Wd}{A:di}{E:VK}{H:Hp}{s:bU}
def iB.R1{T}{a}(x:B.iB vs a)(b:∀p∈a,p.length<=sz):bk T o h (a.map .d) vs:=by
 induction x with
 |b=>trivial
 |a _ i=>exact⟨aO _ V<|b _<|.head _,i λp c=>b p<|.tail _ c⟩
theorem Km{T}:∀{p}{c},bk T o h (p.map .d) c->B.iB c p
 |[],[],_=>.b
 |b::r,u::t,x=>by
  (refine aH x.1 λa e _=>?_;subst e)
  exact .a<|Km x.2
 |[],_::_,x=>x.elim
 |_::_,[],x=>x.elim
def aaH{T}(e:jj vs=Y p)(x:bk T o h vs us):B.iB us p:=Km<|Ca e▸x
def Zk(ok:W.y)(g:bu W H s.heap)(c:cZ A){id}(F:kt op=Y ("bytes",nm,id))
  (r:bk W.T (aU W.fr H) s.heap vs us) (d:gC op vs Q H):aQ W A E (RV W) Q (call (.builtin id) us) H s:=by
 induction op using bc.Bi.casesOn<;>first|exact aS F|exact UQ F (by decide)|refine GL F ?_
 case q=>
  (refine cj d λy i j a1 q=>?_;clear d;subst j)
  (refine YU (tF r) λu v x f h N X o=>aH h λt K w=>aH N λG a _=>?_;subst f;subst o;subst a;subst K)
  (refine aF (yS a1) λi f=>?_;subst f)
  refine kQ B.E2 (iD s _ _) B.Y8 (B.acG _ _ _) (B.UX _ t G X i) λL k=>?_;exact dU g iQ<|q
 case j=>
  (refine lP d λy l' l j Z a2 D S=>?_;subst j)
  (refine cj (lF r) λu v f h T=>aH h λt m w=>?_;subst f;subst m)
  (refine eh (hB g T Z) λx items f h P zl=>aF h λn a0=>?_;subst f)
  refine kQ B.E0 (iD s _ _) B.Y6 (B.acE _ _) (B.UW x t items n l<|aaH a2 P)<|bW a0 (aW [_,_,_] (.v 0) (.v 1) [(.n 16777216,.v 1),(.v 2,.n 1048576),(.v 0,.v 2)] V (bb<|cc fT) (bb eJ) D) λL k=>?_;exact dU g (tE D) S
 case i=>
  (refine fY d λy z j q=>?_;clear d;subst j)
  (refine xA (lF r) λu v f h G m _=>aH h λt o w=>?_;subst f;subst m;subst o)
  refine kQ B.EX (iD s _ _) B.Y2 (B.acA _ _) (B.US _ _ t G) ⟨by simp;exact aW [_,_,_] (.v 0) (.v 1) [(.n 16777216,.v 1),(.v 2,.n 1048576),(.v 0,.v 2)] V (bb<|cc fT) (bb eJ) w,λM L k I=>?_⟩;exact dU g (tE<|by simp at I;exact aW [_,_,_] (.v 0) (.v 1) [(.v 2,.v 1),(.v 0,.v 2)] V w I)<|q M
 case h=>
  (refine aH d λy j q=>?_;clear d;subst j)
  (refine BB (hY r) λu f t C w=>?_;subst f;subst C)
  refine kQ B.EZ (iD s _ _) B.Y4 (B.acC _) (B.UU _ t) ⟨by simp;exact aW [_,_,_] (.v 0) (.v 1) [(.n 16777216,.v 1),(.v 2,.n 1048576),(.v 0,.v 2)] V (bb<|cc fT) (bb eJ) w,λM L k I=>?_⟩;exact dU g (tE<|by simp at I;exact aW [_,_,_] (.v 0) (.v 1) [(.v 2,.v 1),(.v 0,.v 2)] V w I)<|q M
 case f=>
  (refine aH d λy j q=>?_;clear d;subst j)
  (refine BB (hY r) λu f t C w=>?_;subst f;subst C)
  refine uX B.E1 (iD s _ _) B.Y7 (B.acF _) (B.Xi _ t) ?_;exact fv g eW<|q _
 case g=>
  (refine cw d λb j D q=>?_;clear d;subst j)
  (refine xA (lF r) λu v f h G m _=>aH h λt o w=>?_;subst f;subst m;subst o)
  refine kQ B.EY (iD s _ _) B.Y3 (B.acB _ _) (B.UT _ t G) ⟨by have:=D;simp;exact aW [_,_,_] (.a (.v 0)<|.n 1) (.v 1) [(.n 16777216,.v 1),(.v 2,.n 1048576),(.a (.v 0)<|.n 1,.v 2)] V (bb<|cc fT) (bb eJ) D,λus k R=>?_⟩;have n:Nx W H s H {s with heap:=s.heap.push {cls:=.type "list",data:=.seq us.toArray},toks:=k}:=Nx.r g λ_ _ e=>fC _ e;refine bQ (.g<|(dD b).map .d) H n (kr _ us.toArray V g.L ⟨_,kb _ V⟩ ?_<|by simp;have:=D;exact aW [_,_,_] (.v 0) (.v 1) [(.a (.v 2)<|.n 1,.v 1),(.v 0,.a (.v 2)<|.n 1)] V D<|B.EV b) q;exact iB.R1 R λp hp=>aE ((B.EU b) p hp) w
end
structure dZ where
 t:Nat
 p:Pos
 l:List Expr
 s:Str
 n:Nat
 c:Const
 m:List Expr
 o:List (Option Expr)
 q:List CmpOp
 g:List Comprehension
 z:oN
 u:UnaryOp
 b:BoolOp
 r:u5
 k:List Keyword
noncomputable def dZ.d(t:Nat)(p:Pos)(l:List Expr):dZ:=⟨t,p,l,default,0,.none,[],[],[],[],default,.Not,.And,.Add,[]⟩
noncomputable def dZ.e:dZ:=.d 99 default []
noncomputable def bR(e:Expr):dZ:=match e with
 |.Name s p=>{dZ.d 0 p []with s:=s}
 |.Constant c n p=>{dZ.d 1 p []with c:=c,n:=n}
 |.UnaryOp u x p=>{dZ.d 2 p [x]with u:=u}
 |.BinOp x r y p=>{dZ.d 3 p [x,y]with r:=r}
 |.Compare x q m p=>{dZ.d 4 p [x]with q:=q,m:=m}
 |.BoolOp b l p=>{dZ.d 5 p l with b:=b}
 |.IfExp x y z p=>dZ.d 6 p [x,y,z]
 |.Call f l k p=>{dZ.d 7 p [f]with m:=l,k:=k}
 |.Attribute x s p=>{dZ.d 8 p [x]with s:=s}
 |.Subscript x y p=>dZ.d 9 p [x,y]
 |.Slice x y z p=>{dZ.d 10 p []with o:=[x,y,z]}
 |.List l p=>dZ.d 11 p l
 |.Tuple l n p=>{dZ.d 12 p l with n:=n}
 |.Dict o l p=>{dZ.d 13 p l with o:=o}
 |.ListComp x g z p=>{dZ.d 14 p [x]with g:=g,z:=z}
 |_=>dZ.e
noncomputable def hd{α:Type}[Inhabited α]:Nat->List α->α
 |0,a::_=>a
 |n+1,_::l=>hd n l
 |_,[]=>default
noncomputable def z8(v:dZ)(t:Nat):Option Expr:=match t with
 |0=>Y<|.Name v.s v.p
 |1=>Y<|.Constant v.c v.n v.p
 |2=>Y<|.UnaryOp v.u (hd 0 v.l) v.p
 |3=>Y<|.BinOp (hd 0 v.l) v.r (hd 1 v.l) v.p
 |4=>Y<|.Compare (hd 0 v.l) v.q v.m v.p
 |5=>Y<|.BoolOp v.b v.l v.p
 |6=>Y<|.IfExp (hd 0 v.l) (hd 1 v.l) (hd 2 v.l) v.p
 |7=>Y<|.Call (hd 0 v.l) v.m v.k v.p
 |8=>Y<|.Attribute (hd 0 v.l) v.s v.p
 |9=>Y<|.Subscript (hd 0 v.l) (hd 1 v.l) v.p
 |10=>Y<|.Slice (hd 0 v.o) (hd 1 v.o) (hd 2 v.o) v.p
 |11=>Y<|.List v.l v.p
 |12=>Y<|.Tuple v.l v.n v.p
 |13=>Y<|.Dict v.o v.l v.p
 |14=>Y<|.ListComp (hd 0 v.l) v.g v.z v.p
 |_=>O
def Oc e:(bR e).t=99\/z8 (bR e) (bR e).t=Y e:=by induction e using PySem.Expr.casesOn<;>first|exact .inr V|exact .inl V
def vw(h:(bR e).t=k)(a:k<99)(q:z8 (bR e) k=Y x):e=x:=
 (Oc e).elim (λn=>(dk _<|(h.symm.trans n)▸a).elim) λs=>bz<|s.symm.trans<|h▸q
noncomputable def ic{β:Type}{f:β->Expr}(e:Expr)(k:Nat)(b:β)(a:k<99)(q:z8 (bR e) k=Y (f b)):Option {p:β//e=f p}:=
 if h:(bR e).t=k then Y ⟨b,vw h a q⟩else O
def lH(h:cond b True P)(e:b=false):P:=by subst e;exact h
def Aa(h:cond b P True)(e:b=true):P:=by subst e;exact h
noncomputable def Go(e:Expr):Bool:=Nat.blt (bR e).t 99
noncomputable def dW(l:List Expr):Bool:=l.all Go
def PG a r e:cond (Go e) (iY (e::r) a=(false,eval e a)::iY r a) True:=by induction e using PySem.Expr.casesOn<;>first|exact kW|exact mz _
def KS(h:(a&&b)=true):a=true/\b=true:=ef.mp h
def PF b a(h:dW a=true):iY a b=a.map λe=>(false,eval e b):=by
 induction a with
 |nil=>rfl
 |cons e r i=>exact(Aa (PG b r e) (KS h).1).trans<|congrArg _<|i (KS h).2
def jk p a(h:dW args=true):j1 p (iY args a)=args.map λe=>(false,eval e a):=by refine U (PF a args h) ?_;unfold j1;refine U lr ?_;rfl
section
variable {W:Wd}{i:Cx}{A:di}{E:VK}{m a:ba}{H:Hp}{s:bU}
def ud(o:W.y)(c:i.f)(g:bu W H s.heap){d}{E}(a:i.env.kindOf d=Y .globalImplicit)(b:(d==("__debug__"))=false)
  (e:nsIn W.K d9 d=Y (Y v)) (h:Q v s):bw (bM W.p W.w) A (eval (.Name d pos) i.env) Q E s:=by
 refine Nl c.a a ?_ b;refine aN ?_;refine U c.f ?_;refine(looks_nsIn (g.G o) e).here ?_;exact br h
def mU(o:W.y)(c:i.f)(g:bu W H s.heap){j}{E}(a:i.env.kindOf j=Y .globalImplicit)(f:(j==("__debug__"))=false)
  (e:nsIn W.K d9 j=Y O) (b:gX j=Y v) (d:j≠"__name__") (h:Q v s):bw (bM W.p W.w) A (eval (.Name j pos) i.env) Q E s:=by
 refine Nl c.a a ?_ f;refine aN ?_;refine U c.f<|U c.j ?_;refine(looks_nsIn (g.G o) e).here ?_;refine aN<|wpAny_nsGet (o.w.keeps g.D) ?_;refine U (o.r j d)<|U b ?_;exact br h
noncomputable def mQ(o:Expr):Bool:=!(gG (bR o).t 7&&(gG (bR<|hd 0 (bR o).l).t 0&&!((bR<|hd 0 (bR o).l).s !=("super"))))
def Pr n e t o:cond (gG (bR o).t 7) True<|qA o n e t=t:=by induction o using PySem.Expr.casesOn<;>first|exact kW|exact mz t
def Pq n e t a k p o:cond (gG (bR o).t 0) True<|qA (.Call o a k p) n e t=t:=by induction o using PySem.Expr.casesOn<;>first|exact kW|exact mz t
def Pp{i:Str}(h:(i !=("super"))=true):qA (.Call (.Name i q) es ks p) name env t=t:=by
 rcases es with _|⟨_,_⟩
 ·rcases ks with _|⟨_,_⟩;·exact if_pos<|U h V
  ·rfl
 ·rfl
def zE(h:mQ o=true):qA o name env t=t:=by
 cases e:gG (bR o).t 7 with
 |false=>exact lH (Pr name env t o) e
 |true=>
  have q:=vw (vn e) (by decide) V;cases a:gG (bR _).t 0 with
  |false=>exact U q<|lH (Pq name env t _ _ _ _) a
  |true=>
   refine U q<|U (vw (vn a) (by decide) V)<|Pp ?_;unfold mQ at h;rw[e,a]at h;cases z:(bR _).s !=("super")with
   |true=>rfl
   |false=>rw[z]at h;exact aV h
end
def Ae{h:Heap}(k:h.Ns a m):∃o,h.get? a=Y o/\∀p,sk p o=Y (m p):=by
 refine fw k λo r l j d g i=>?_;refine(aO o j λp=>?_);unfold sk;refine U d ?_;dsimp only;have c:(r.toList.find? λe=>e.key.isStr p).map (·.val)=m p:=by refine aP (i p) ?_;unfold nsFind findBy;exact aP Array.find?_toList V
 cases q:r.toList.find? λe=>e.key.isStr p with
 |some e=>rw[q]at c;simp only[Option.map_some]at c;refine(?_:Y _=_);exact U c V
 |none=>
  rw[q]at c;have:(r.toList.any λe=>e.refKey)=false:=by refine U (propext Mw) λe f=>gR (g e<|by simpa using f) λn t b=>?_;simp[DictEntry.refKey,b]
  refine(?_:(if(r.toList.any λe=>e.refKey)=true then aY else Y aY)=_);refine U this<|aP c ?_;rfl
noncomputable def xO(K:Frag)(t:x8):Bool:=
 (clsIn K t.a).isSome&&qx K t.a&&plainGet K t.a ""&&(fb K (.ref t.a) "__setattr__"==Y (Y<|.builtin "object.__setattr__"))&&plainOver K t.a&&
 t.b.all (λf=>fb K (.ref t.a) f==Y O)&&decide (t.b.Nodup)&&decide (t.b.length<=100)
structure jq(K:Frag)(t:x8):Prop where
 y:(clsIn K t.a).isSome=true
 q:qx K t.a=true
 r:fb K (.ref t.a) "__getattribute__"=Y (Y<|.builtin "object.__getattribute__")/\fb K (.ref t.a) "__getattr__"=Y O
 w:fb K (.ref t.a) "__setattr__"=Y (Y<|.builtin "object.__setattr__")
 v:plainOver K t.a=true
 p:∀f∈t.b,fb K (.ref t.a) f=Y O
 o:t.b.Nodup
 u:t.b.length<=100
def jq.x{K}(h:xO K t=true):jq K t:=by unfold xO at h;simp only[lu,decide_eq_true_eq,my,beq_iff_eq]at h;refine bp h λb f=>bp b λe k=>bp e λc g=>bp c λa l=>bp a λd j=>bp d λz n=>bp z λm i=>?_;exact⟨m,i,plainGet_of n,j,l,g,k,f⟩
theorem G3{α:Type}:∀{a:List Str}{d:List α}{i:Nat}{n}{u},a.Nodup->a[i]? =Y n->d[i]? =Y u->(a.zip d).lookup n=Y u
 |[],_,_,_,_,_,h,_=>by simp at h
 |_::_,[],_,_,_,_,_,h=>by simp at h
 |f::a,x::d,0,n,u,hn,h,b=>by simp at h b;subst h b;simp
 |f::a,x::d,i+1,n,u,hn,h,b=>by
  have c:n≠f:=λe=>by rw[i1]at hn;exact hn.1<|e▸mm h
  refine U lp<|U jw ?_;refine U (beq_eq_false_iff_ne.mpr c) ?_;exact G3 (i1.mp hn).2 h b
theorem GZ{α:Type}:∀{a:List Str}{u:List α}{i}{n}{v},a.Nodup->a[i]? =Y n->i<u.length->∀y,(a.zip<|u.set i v).lookup y=if y=n then Y v else(a.zip u).lookup y
 |[],_,_,_,_,_,h,_,_=>by simp at h
 |_::_,[],_,_,_,_,_,h,_=>by simp at h
 |f::a,x::u,0,n,v,hn,h,c,y=>by
  simp at h;subst h;simp only[List.set_cons_zero,lp,jw];by_cases b:y=f;·subst b;simp
  ·exact U (beq_eq_false_iff_ne.mpr b)<|U (if_neg b) V
 |f::a,x::u,i+1,n,v,hn,h,c,y=>by
  simp only[vH]at h;simp only[List.set_cons_succ,lp,jw];by_cases b:y=f
  ·subst b;have:y≠n:=λe=>by
    rw[i1]at hn;exact hn.1<|e▸mm h
   simp[this]
  ·exact U (beq_eq_false_iff_ne.mpr b)<|GZ (i1.mp hn).2 h (by simpa using c) y
theorem G1{α:Type}:∀{a:List Str}{u:List α}{n}{v},a.Nodup->a[u.length]? =Y n->∀y,(a.zip<|u++[v]).lookup y=if y=n then Y v else(a.zip u).lookup y
 |[],_,_,_,_,h,_=>by simp at h
 |f::a,[],n,v,hn,h,y=>by
  simp at h;subst h;simp only[vy,lp,List.zip_nil_right,jw];by_cases b:y=f;·subst b;simp
  ·exact U (beq_eq_false_iff_ne.mpr b)<|U (if_neg b) V
 |f::a,x::u,n,v,hn,h,y=>by
  simp only[j8,vH]at h;simp only[List.cons_append,lp,jw];by_cases b:y=f
  ·subst b;have:y≠n:=λe=>by
    rw[i1]at hn;exact hn.1<|e▸mm h
   simp[this]
  ·exact U (beq_eq_false_iff_ne.mpr b)<|G1 (i1.mp hn).2 h y
def G0{α:Type}{a:List Str}{b:List α}(h:y∉a):(a.zip b).lookup y=O:=by
 induction a generalizing b with
 |nil=>simp
 |cons f a i=>
  induction b using List.casesOn with
  |nil=>simp
  |cons u b=>
   refine U lp<|U jw ?_;refine U (beq_eq_false_iff_ne.mpr (λe=>h (e▸gZ):y≠f)) ?_;exact i λq=>h<|lq _ q
section
variable {W:Wd}{A:di}{E:VK}{H:Hp}{s:bU}
def A7(g:bu W H s.heap)(r:aT W.T (aU W.fr H) s.heap a v)(u:CI H a C vs):
  ∃x i o A,v=.ref x/\InstAt s.heap x i (W.T C).a (Y o)/\(∀z,sk z o=Y (((W.T C).b.zip A).lookup z))/\bk W.T (aU W.fr H) s.heap vs A:=by
 rcases u with n|⟨d,q,n,e⟩
 ·subst n
  (refine Je r λx q i A j y t f c k w b m=>?_;clear r;subst j)
  exact aH (Ae b) λo l h=>Ao x i o A V ⟨f,c,k,by exact U w<|l⟩ h m
 ·subst n;exact kC (g.z.M _ _ e) λA f b m p=>aH (Ae b.ns) λo l h=>Ao d _ o A r ⟨f,V,V,l⟩ h m
def JD(f:W.y)(g:bu W H s.heap)(c:jq W.K<|W.T C)(b:(W.T C).b[i]? =Y nm)(p:aT W.T (aU W.fr H) s.heap va a)(d:ov C i va Q H):
  aQ W A E (RV W) Q (getAttr a nm true) H s:=by
 refine cj d λz v n m q=>?_
 (refine uk (A7 g p n) λx w o y e I h k=>?_;subst e)
 refine aH (k.B m) λu j r=>?_;have l:handedIn u=true:=by
  induction v using bc.AV.casesOn<;>simp only[aT]at r
  case k=>subst r;rfl
  case e=>subst r;rfl
  case c=>(refine aF r λt e=>?_;clear r;subst e);rfl
  case m=>(refine aF r λt e=>?_;clear r;subst e);rfl
  case d=>(refine aH r λt e _=>?_;clear r;subst e);rfl
  case l=>(refine fY r λ_ _ e _=>?_;clear r;subst e);rfl
  case g=>(refine fY r λ_ _ e _=>?_;clear r;subst e);rfl
  case n=>(refine rO r λ_ _ _ _ e _=>?_;clear r;subst e);rfl
  case f=>subst r;rfl
 exact get_value (g.G f) I c.r.1 (findObj_own c.q (c.p nm<|mm b) V<|U (h _)<|U (G3 c.o b j) V) l<|dU g r q
def UP(d:W.y)(g:bu W H s.heap){E}(c:jq W.K<|W.T C)(m:nm∉(W.T C).b)
  (k:fb W.K (.ref (W.T C).a) nm=Y (Y<|.ref f)) (j:l4 W.K (.ref f)=Y (.type "function")) (r:aT W.T (aU W.fr H) s.heap va a) (i:lR H va=Y C) (h:Q (.ref f,[a]) s):
  bw (bM W.p W.w) A (getMethod a nm p) Q E s:=by
 refine Nj (aao i) λv l=>?_
 (refine uk (A7 g r l) λx q o u e I b n=>?_;subst e)
 exact method_fn (g.G d) I c.r.1 c.r.2 k j (by refine(?_:(sk nm o).map _=_);refine U (b _)<|U (G0 m) ?_;rfl) h
def Jw(a1:W.y)(g:bu W H s.heap)(c:cZ A){K}(m:jq W.K<|W.T C)(N:(W.T C).b[i]? =Y nm)(ra:aT W.T (aU W.fr H) s.heap va a)(rv:aT W.T (aU W.fr H) s.heap M v)
  (d:ke C i va M K H):aQ W A E RU (λ(_:Unit)=>K) (setAttr a nm v) H s:=by
 (refine ia d λx t T ea e r=>?_;clear d;subst ea)
 subst ra;obtain⟨us,hg,a2,a0,D⟩:=g.z.M _ _ e;obtain⟨o,ho,P⟩:=Ae a2.ns;have I:InstAt s.heap _ _ (W.T C).a<|Y o:=⟨hg,V,V,ho⟩;have B:t≠_:=λq=>by have:=g.z.S _ _ _ _ e;rw[q,e]at this;cases this
 refine set_plain (g.G a1) I m.w<|osa_open (g.G a1) I m.v (by unfold takerIn;rw[m.p nm<|mm N];rfl) λb=>?_;obtain⟨cd,Z,Q⟩:=any_some m.q;refine aN<|br<|aN<|aN<|wpAny_loadPart hg<|aN<|Looks.here (looks_clsIn (g.G a1) Z) ?_;rw[Q];refine br<|aN<|br<|aN ?_;have hw:Within (λn=>((W.T C).b.zip us).lookup n) (W.T C).b:=λy k=>by
  rcases mA (y∈(W.T C).b)with q|q;·exact q
  ·exact absurd (G0 q) k
 refine wpAny_nsSet1 a2 λh' f h=>?_;obtain⟨oD,esD,epD,a3,S,a4⟩:=f.count<|Lu nm v hw;refine aN<|Ld a3 (by rw[S];exact Lp<|aE a4<|by rw[j8];have:=m.u;rw[fT];exact aW [_] (.a (.v 0)<|.n 1) (.a (.n 16777216)<|.n 1) [(.v 0,.n 100)] V this)<|br ?_;have G:∀u j,(∀y,((W.T C).b.zip u).lookup y=if y=nm then Y v else((W.T C).b.zip us).lookup y)->bk W.T _ s.heap j u->u.length<=(W.T C).b.length->K _->
   ∃b H',Nx W H s H' {s with heap:=h',toks:=s.toks+1+1}/\RU H' h' b ()/\K H':=λu j hu X l d=>by
  obtain⟨L,R⟩:=g.z.ag (o':=.bF C t j) e (λC Zs T q=>by cases q;exact⟨_,V⟩) λC Zs T q=>by cases q;exact⟨_,V⟩
   (λy k=>by simp only[AO.l,gH,dM,or_false,not_or]at k;exact h.2 y k.2)
   (λy k=>by
    simp only[AO.l,gH,dM,or_false]at k;rcases k with rfl|rfl;·exact⟨_,(h.2 _<|gr B).trans hg⟩
    ·exact jA f.ns)
   (λL=>(jH u ((h.2 _<|gr B).trans hg) (by rw[(funext hu)];exact f) (X.d L) l))
  exact bQ () _ ⟨L,λy ob k q=>.i<|(h.2 y λz=>(g.z.W y k).2 _ _ _<|z▸e).trans q,g.ah L R λy ob q=>h.2 y λz=>g.F y ob q<|.inr<|.inl<|kq _ C T<|z▸e,V,V⟩ trivial d
 have F:=a0.f;by_cases w:i<T.length
 ·rw[if_pos w]at r;exact G _ _ (GZ m.o N<|aW [_,_,_] (.a (.v 0)<|.n 1) (.v 1) [(.v 2,.v 1),(.a (.v 0)<|.n 1,.v 2)] V (bb F) w) (a0.L i rv) (by simpa using D) r
 ·rw[if_neg w]at r;obtain⟨w,r⟩:=r;have p:(W.T C).b[us.length]? =Y nm:=by rw[<-F,<-w];exact N
  refine G (us++[v]) (T++[M]) (G1 m.o p) (a0.g ⟨rv,trivial⟩) ?_ r;rw[et]at p;obtain⟨h1,_⟩:=p;simp;exact aW [_,_] (.a (.v 0)<|.n 1) (.v 1) [(.a (.v 0)<|.n 1,.v 1)] V h1
end
def AD{α:Type}{a:List Str}{f:List α}(c:a.Nodup){i k:Nat}{g:Str}(h:a[i]? =Y g)(b:i<f.length):(((a.zip f).take k).lookup g)=if i<k then f[i]? else O:=by
 induction a generalizing f i k with
 |nil=>simp at h
 |cons n a d=>
  induction f using List.casesOn with
  |nil=>simp at b
  |cons v f=>
   induction k using Nat.casesAuxOn with
   |zero=>simp
   |succ k=>
    refine U lp<|U List.take_succ_cons<|U jw ?_;induction i using Nat.casesAuxOn with
    |zero=>simp at h;subst h;simp
    |succ i=>
     refine U (beq_eq_false_iff_ne.mpr (λe=>(i1.mp c).1 (e▸mm h):g≠n)) ?_;simp only[j8,Nat.add_lt_add_iff_right]at b;refine U (d (i1.mp c).2 h b) ?_;simp
theorem I'{α:Type}:∀(a:List Str)e,a.Nodup->a.length=e.length->∀(s:List<|Str×α),(∀(i:Nat)f,a[i]? =Y f->s.lookup f=e[i]?)->a.filterMap (λn=>(s.lookup n).map (n,·))=a.zip e
 |[],_,_,_,_,_=>rfl
 |n::a,[],_,h,_,_=>by simp at h
 |n::a,v::e,hn,c,s,h=>by have d:=h 0 n<|V;refine U List.filterMap_cons<|U d ?_;exact U (I' a e (i1.mp hn).2 (by simpa using c) s λi f b=>by have:=h (i+1) f<|b;exact this) V
def Zt{α:Type}{P:List α}{a}{r}(h:a::r=P.drop k):P[k]? =Y a/\r=P.drop (k+1):=
 ⟨by have:=sO (xs:=P) (i:=k) (j:=0);rw[<-h]at this;exact this.symm,by refine aP DF<|aP h ?_;rfl⟩
def aaJ{α:Type}{n:List Str}{v W:List α}(h:v.length<=n.length):n.zip v=(n.zip<|v++W).take v.length:=U sG<|U sG<|U List.take_zipWith<|U (List.take_left' V)<|aP sG<|aP sG<|U List.zip_eq_zip_take_min<|U (ju h)<|U il V
def aaK{α:Type}{a:List Str}{m:List α}{d}(e:a.Nodup)(i:m.length=a.length)(b:a[j]? =Y n)(g:c<=j->m[j]? =Y d):
  (c<=j->((a.zip m).take<|max c j).lookup n=O/\(a.zip m).take (max c j)++[(n,d)]=(a.zip m).take (max c<|j+1))/\(j<c->(∃v,((a.zip m).take<|max c j).lookup n=Y v)/\(a.zip m).take (max c j)=(a.zip m).take (max c<|j+1)):=by
 have f:=i▸(et.mp b).1;have l:=AD (k:=max c j) e b f;refine⟨λh=>?_,λh=>?_⟩
 ·rw[vd h]at l |-;rw[if_neg<|dk _]at l;refine⟨l,?_⟩;refine U (vd<|gY h) (U vv<|U (show(a.zip m)[j]? =Y (n,d)from Mo.mpr ⟨b,g h⟩) ?_);rfl
 ·rw[sy<|cI h]at l |-;rw[if_pos h,hU f]at l;exact⟨⟨_,l⟩,by exact U (sy h) V⟩
def aaN{α:Type}{v d:List α}{c f j k:Nat}(a:v.length=c)(b:f<=c)(h:c<=j)(e:j=f+k):(v++d.drop (c-f))[j]? =d[k]? :=by exact U (nL<|a▸h)<|U sO<|U a<|U (fh _ _)<|U (Df h b)<|U e<|U (vo _ _) V
def aaM{α:Type}{b:List Str}{v:List α}(e:b.Nodup)(d:f<=v.length)(j:v.length<=b.length):(b.take f).filter (λn=>((b.zip v).lookup n).isNone)=[]:=
 DE.mpr λa g=>by
  refine aF (List.mem_iff_getElem?.mp g) λi c=>?_;rw[Dx]at c;by_cases h:i<f
  ·have:=AD (k:=v.length) e (if_pos h▸c) (bX h d);rw[vu<|U Mj<|j6 _ _,if_pos<|bX h d,hU<|bX h d]at this;exact U this<|vX
  ·rw[if_neg h]at c;exact aS c
def aaO{α:Type}{n:List Str}{d:List α}{f k:Nat}(h:[]=((n.drop f).zip d).drop k)(e:f+d.length=n.length):n.length<=f+k:=by have:=List.drop_eq_nil_iff.mp h.symm;rw[Mj,mq,<-e,vo,LZ]at this;exact aP e<|ff this f
def aaL{L:Nat}(b:D<=L)(h:L<=c+D)(e:f=L-D):c+D-L=c-f/\f<=c/\f+D=L:=by have a:=e▸cb b;exact bW (aP a<|U (Nat.add_sub_add_right _ _ _) V) (yy<|a▸h) a
def Cd{α:Type}{v a:List α}{L}(h:L<=v.length+a.length)(f:v.length<=L):(v++a.drop (v.length+a.length-L)).length=L:=by refine U bZ<|U mq ?_;exact i7 _ _ (λb z=>cN<|cA [_,_,_,_,_] [] (.c<|.a aZ bK) af [.e (-1) (.c<|.a cX bo)<|.c<|.a aZ bA,.e 1 (.c<|.a bK cX) bf] V (nE<|cb h) z) λb z=>cN<|fZ (λd=>aJ [_,_,_,_,_] [] [.e 1 (.c<|.a cX bo)<|.c<|.a aZ bA,.l 1 bf dA,.l 1 (.a (.c<|.a aZ bK) aM) af] V (nE<|cb h) b d) λd=>aJ [_,_,_] [] [.l 1 aG af,.e 1 bf bJ,.l 1 (.a af aM)<|.c<|.a aZ bA] V (nl f) z d
def aaY(u:fd.params.posonlyargs=[])(g:fd.params.kwonlyargs=[])(c:fd.params.vararg=O)(q:fd.params.kwarg=O)(j:fd.params.args.map (·.arg)=ns)(a:ns.Nodup)(b:gK.length<=ns.length)(G:dv.length<=ns.length)(t:ns.length<=gK.length+dv.length)
  (m:∀M A E Q,(∀o,(o.getD #[]).toList=dv->Q o s)->bw M A (seqItems? fd.defaults) Q E s):
  BindsTo s fd ⟨gK,[]⟩ (ns.zip<|gK++dv.drop (gK.length+dv.length-ns.length)):=λM A E Q P=>by
 obtain⟨fn,fq,⟨a1,a2,S,a4,X,a6,a7⟩,W,a5,fg,fc,N,fk,I,Z,T,K,L,a3⟩:=fd;dsimp only at u g c q j m;subst u g c q j;have a8:∀l:List Arg,([]:List Arg).map (λx=>x.arg)++l.map (λx=>x.arg)=l.map λx=>x.arg:=λ_=>V;refine aN<|br ?_;refine aN<|m M A _ _ λo R=>?_;refine jr (λh=>?_) λ_=>?_;·exact(dj.mpr b<|of_decide_eq_true (ef.mp h).1).elim
 subst R;have H:(o.getD #[]).toList.drop ((o.getD #[]).toList.length-(a2.map _).length)=(o.getD #[]).toList:=U (u7 G)<|U vL V;obtain⟨f,y⟩:∃f,f=(a2.map (·.arg)).length-((o.getD #[]).toList.drop<|(o.getD #[]).toList.length-(a2.map (·.arg)).length).length:=⟨_,V⟩;have p:=aaL G t<|y.trans<|U H V;refine jr (λh=>?_) λ_=>?_
 ·have:=aaM a p.2.1 b;have this:=y▸this;exact aV<|(congrArg (λl=>!l.isEmpty) this).symm.trans h
 refine aN<|CN _ (λr z s'=>s'=s/\∃k,r=(((a2.map _).drop f).zip (o.getD #[]).toList).drop k/\z=((a2.map (·.arg)).zip<|gK++(o.getD #[]).toList.drop (gK.length+(o.getD #[]).toList.length-(a2.map (·.arg)).length)).take (max gK.length<|f+k)) _ ?turn ?fin _ _<|tO V 0 (show(((a2.map _).drop _).zip _)=(((a2.map _).drop f).zip (o.getD #[]).toList).drop 0 from by refine aP y<|U H ?_;rfl) ?init
 case init=>
  refine U (mh _)<|U (sy p.2.1) ?_;exact aaJ b
 case turn=>
  rintro ⟨n,d⟩ r z s' ⟨rfl,k,D,rfl⟩
  refine bp (Zt D) λu g=>?_;refine bp (Mo.mp u) λc q=>?_;rw[sO]at c;have F:=aaK a (Cd t b) c λh=>(by exact U p.1<|(aaN V p.2.1 h V).trans q);dsimp only;refine bq (hO (f+k) gK.length) (λl=>?_) λl=>?_;·refine bp (F.2 l) λB e=>aF B λv C=>jr (λh=>(by rw[C]at h;exact aV h)) λ_=>br<|tO V _ g e
  ·refine bp (F.1 l) λC e=>jr (λ_=>br<|tO V _ g e) λh=>(h<|by refine U C ?_;rfl).elim
 case fin=>
  rintro z s' ⟨rfl,k,D,rfl⟩
  refine aN<|br ?_;refine jr (λh=>aV h) λ_=>br ?_;have e:=I' _ _ a (Cd t b).symm _ λi nm w=>by have:=AD (k:=max gK.length<|f+k) a w<|(Cd t b)▸(et.mp w).1;rw[if_pos<|bX (et.mp w).1<|aE (aaO D p.2.2)<|yz _ _]at this;exact this
  have a0:(a2.map (λx:Arg=>x.arg)++[]).filterMap (λn=>(oX n<|((a2.map λx:Arg=>x.arg).zip<|gK++(o.getD #[]).toList.drop (gK.length+(o.getD #[]).toList.length-(a2.map λx:Arg=>x.arg).length)).take<|max gK.length<|f+k).map (n,·))=(a2.map λx=>x.arg).zip (gK++(o.getD #[]).toList.drop (gK.length+(o.getD #[]).toList.length-(a2.map λx=>x.arg).length)):=by exact U (gJ _)<|e
  exact a0.symm▸P
end bc
end
section
open PySem PySem.W PyProof.Rows PySem.SeqAt PySem.MeetsSeq
namespace bc
theorem B8:∀T n a b,(a.lookup b).isSome=true->((sq n T a).lookup b).isSome=true
 |[],_,_,_,h=>h
 |(x,k)::r,n,a,b,h=>by
  unfold sq;split
  ·refine B8 r _ _ b<|U jw ?_;split;·rfl
   ·exact h
  ·exact B8 r _ _ b h
theorem xQ:∀T n a b,(b,NameKind.cell)∈T->((sq n T a).lookup b).isSome=true
 |(x,k)::r,n,a,b,h=>by
  unfold sq;refine bq (gH.mp h) (λe=>?_) λh=>?_
  ·cases e;refine U (if_pos<|by rfl) ?_;exact B8 r _ _ _<|by simp
  ·split;·exact xQ r _ _ b h
   ·exact xQ r _ _ b h
theorem Kx:∀{b}{m}{nm},(∀p∈b,p.1≠nm)->bindL k b m nm=m nm
 |[],_,_,_=>rfl
 |(n,v)::r,m,nm,h=>by refine U (Kx λp a=>h p<|.tail _ a) ?_;have:nm≠n:=λe=>h _ (.head _) e.symm;split<;>simp[this]
theorem Kz:∀{b}{m}{nm},(∀p∈b,p.1≠nm)->bindC k b m nm=m nm
 |[],_,_,_=>rfl
 |(n,v)::r,m,nm,h=>by refine U (Kz λp a=>h p<|.tail _ a) ?_;have:nm≠n:=λe=>h _ (.head _) e.symm;split<;>simp[this]
theorem Ky:∀{a:List Str}{us}{m}{i:Nat}{nm}{u},a.Nodup->a[i]? =Y nm->us[i]? =Y u->k nm=Y .local->bindL k (a.zip us) m nm=Y u
 |[],_,_,_,_,_,_,h,_,_=>by simp at h
 |_::_,[],_,_,_,_,_,_,h,_=>by simp at h
 |n::a,v::us,m,0,nm,u,hn,h,b,c=>by simp at h b;subst h b;rw[lp,bindL,Kx (nm:=n) λp d e=>(i1.mp hn).1<|e▸(Ds d).1,if_pos c];simp
 |n::a,v::us,m,i+1,nm,u,hn,h,b,c=>by rw[lp,bindL];exact Ky (i1.mp hn).2 (h) (b) c
theorem KA:∀{a:List Str}{us}{m}{i:Nat}{nm}{u},a.Nodup->a[i]? =Y nm->us[i]? =Y u->k nm=Y .cell->bindC k (a.zip us) m nm=Y u
 |[],_,_,_,_,_,_,h,_,_=>by simp at h
 |_::_,[],_,_,_,_,_,_,h,_=>by simp at h
 |n::a,v::us,m,0,nm,u,hn,h,b,c=>by simp at h b;subst h b;rw[lp,bindC,Kz (nm:=n) λp d e=>(i1.mp hn).1<|e▸(Ds d).1,if_neg<|by refine U c ?_;decide];simp
 |n::a,v::us,m,i+1,nm,u,hn,h,b,c=>by rw[lp,bindC];exact KA (i1.mp hn).2 (h) (b) c
structure cY(W:Wd)(H:Hp)(s:bU)(H':Hp)(s':bU):Prop where
 p:df W.fr H s.heap H' s'.heap
 y:∀x o,W.v x->s.heap.get? x=Y o->d8 s'.heap x o
 w:bu W H' s'.heap
 r:s'.gens=s.gens
 z:s'.os=s.os
def cY.v(g:bu W H s.heap):cY W H s H s:=⟨.r _ _ _,λ_ _ _ e=>.i e,g,V,V⟩
def cY.q(a:cY W H s kJ s₁)(b:cY W kJ s₁ uP lA):cY W H s uP lA:=
 ⟨a.p.j b.p,λx o h e=>(a.y x o h e).j λd c=>b.y x d h c,b.w,b.r.trans a.r,b.z.trans a.z⟩
noncomputable def Wd.t(W:Wd)(env:Env):Wd:={W with fr:=λx=>W.fr x\/x=env.locals\/∃n,env.cells.lookup n=Y x,v:=W.fr}
def Wd.y.v{W:Wd}(o:W.y)env:(W.t env).y:=⟨o.t,o.w,o.r,o.q,o.u⟩
section
variable {W:Wd}{env:Env}{H H':Hp}{s s₁ s':bU}
def mE(f:∀x,x=env.locals\/(∃n,env.cells.lookup n=Y x)->s.heap.get? x=O)(e:s.heap.get? x=Y o)(n:¬aU W.fr H x):¬aU (W.t env).fr H x:=by
 rintro (h|h|h|h)
 ·exact n<|.inl h
 ·exact n<|.inr<|.inl h
 ·exact n<|.inr<|.inr h
 ·rw[f x h]at e;exact aS e
def tc(n:¬aU (W.t env).fr H x):¬aU W.fr H x:=by
 rintro (h|h|h)
 ·exact n<|.inl h
 ·exact n<|.inr<|.inl h
 ·exact n<|.inr<|.inr<|.inl h
def bu.aj(g:bu W H s.heap)(h:∀x o,s.heap.get? x=Y o->s₁.heap.get? x=Y o)(f:∀x,x=env.locals\/(∃n,env.cells.lookup n=Y x)->s.heap.get? x=O)
  (t:∀x,x=env.locals\/(∃n,env.cells.lookup n=Y x)->∃o,s₁.heap.get? x=Y o):bu (W.t env) H s₁.heap/\∀a v,aT W.T (aU W.fr H) s.heap a v->aT W.T (aU (W.t env).fr H) s₁.heap a v:=by
 have c:df (W.t env).fr H s.heap H s₁.heap:=⟨λx o e _=>.i<|h x o e,λ_ _ _ n=>n,λx o e=>⟨o,h x o e⟩⟩;refine⟨⟨λx o e=>h x o<|g.D x o e,λx o e=>mE f (g.D x o e)<|g.F x o e,⟨λa o e=>?_,g.z.inj,g.z.S,λx i=>?_,λx i=>?_⟩⟩,λa v r=>(r.i λx o e n=>mE f e n).d c⟩
 ·exact((g.z.M a o e).ah λx o e n=>mE f e n).Z c λb d=>by refine aF ((g.z.M a o e).X b d) λk q=>?_;exact U q<|h b k q
 ·refine bq i (λi=>?_) λi=>?_;·exact g.z.W x i
  ·refine⟨?_,λa C j q=>?_⟩
   ·cases q:H x with
    |none=>rfl
    |some o=>exact absurd (.inl ⟨o,q⟩)<|g.z.N<|f x i
   ·exact absurd (.inr<|.inl<|kq a C j q)<|g.z.N<|f x i
 ·exact bq i (λi=>aF (g.z.Q x i) λo e=>⟨o,h x o e⟩) λi=>t x i
def bu.ak(g:bu (W.t env) H s.heap):bu W H s.heap:=
 ⟨g.D,λx o e=>tc<|g.F x o e,⟨λa o e=>(g.z.M a o e).ah λ_ _ _ n=>tc n,g.z.inj,g.z.S,λx h=>g.z.W x<|.inl h,λx h=>g.z.Q x<|.inl h⟩⟩
def Nx.N(h:∀x o,s.heap.get? x=Y o->s₁.heap.get? x=Y o)(a:s₁.gens=s.gens)(b:s₁.os=s.os)(f:∀x,x=env.locals\/(∃n,env.cells.lookup n=Y x)->s.heap.get? x=O)
  (u:cY (W.t env) H s₁ H' s'):Nx W H s H' s':=
 ⟨⟨λx o e n=>u.p.g x o (h x o e)<|mE f e n,λx o e n=>tc<|u.p.i x o (h x o e)<|mE f e n,λx o e=>u.p.f x o<|h x o e⟩,
  λx o c e=>u.y x o c (h x o e),u.w.ak,u.r.trans a,u.z.trans b⟩
end
structure uN(A:di)(n:Nat):Prop where
 c:A.depth+3*n+11<recursionLimit
 b:A.units+12*n+69<cLine
structure Ar(W:Wd)(H:Hp)(h:Heap)(A:di)(l:List Env)(n:Nat):Prop where
 b:ac0 A n
 c:A.handled=O
 e:A.frames=Y l
 d:fa W H h l
structure x7(W:Wd)(fn:Fn)(T:List Str)(a:Addr)(fd:pf)(body:List Stmt):Prop where
 i:∃c d sl,W.K.lookup a=Y ⟨c,d,.func fd,sl⟩
 m:codeIn W.K fd.code fd.qualname=true
 p:fd.body=.stmts body
 B:fd.scope.isCoroutine=false
 t:fd.scope.isGenerator=false
 e:fd.scope.kind=.function
 u:fd.closure=[]
 j:fd.globals=d9
 C:fd.builtins=yn
 y:fd.params.posonlyargs=[]
 x:fd.params.kwonlyargs=[]
 w:fd.params.vararg=O
 v:fd.params.kwarg=O
 q:fd.params.args.map (·.arg)=T.take fn.c
 b:T.Nodup
 r:T.length=fn.g
 z:fn.c<=fn.g
 g:fn.b.length<=fn.c
 f:∀nm∈T,fd.scope.names.lookup nm=Y .local\/fd.scope.names.lookup nm=Y .cell
 k:∃dv,(∀(s:bU),W.K.In s.heap->∀(M:Model)(A:di)(E:bI->bU->Prop)(Q:Option (Array bI)->bU->Prop),(∀o,(o.getD #[]).toList=dv->Q o s)->bw M A (seqItems? fd.defaults) Q E s)/\
  ∀(H:Hp)(h:Heap),bu W H h->bk W.T (aU W.fr H) h fn.b dv
section
variable {W:Wd}{A:di}{H:Hp}{s:bU}{fn:Fn}{T:List Str}{a:Addr}{fd:pf}{body:List Stmt}{l:List Env}{n:Nat}
def Av{α:Type}{l:List<|Str×α}{v}(h:l.lookup nm=Y v):(nm,v)∈l:=kM h
def Kk(ok:W.y)(F:x7 W fn T a fd body)(g:bu W H s.heap)(ar:Ar W H s.heap A l<|n+1)(vl:bk W.T (aU W.fr H) s.heap vs us)(hb:fn.d vs=Y m)
  (h:∀cx s₁,cx.f->cx.b=T->cx.e=false->cx.env=callEnvC fd s.heap.objs.size a->cx.A=A.deeper cx.env->cx.a=cx.env::l->uN cx.A n->St (W.t cx.env) cx m [] H s₁->
   (∀x o,s.heap.get? x=Y o->s₁.heap.get? x=Y o)->s₁.gens=s.gens->s₁.os=s.os->(∀x,x=cx.env.locals\/(∃n,cx.env.cells.lookup n=Y x)->s.heap.get? x=O)->
   bw (bM W.p W.w) cx.A (iZ body cx.env) (λf s'=>R (.ok<|.ret (match f with|.ret v=>v|_=>.none)) s')
    (λe s'=>bw (bM W.p W.w) cx.A (leaving cx.env e) (λ_ wI=>R (.error e) wI) (λe' wI=>R (.error e') wI) s') s₁):
  kP (bM W.p W.w) A (.call (.ref a) ⟨us,[]⟩) R s:=by
 refine Jf F.i λc d sl a4=>?_;refine aH F.k λdv WN p7=>?_;have B:=(p7 H s.heap g).f;have p:=vl.f;unfold Fn.d at hb;split at hb
 ·rename_i j
  (have hb:=bz hb;subst hb)
  have N:(T.take fn.c).length=fn.c:=by refine U nK<|U F.r ?_;have:=F.z;exact cN<|cA [_,_] [] aG af [.e 1 aG af] V<|nE<|fB this
  have a3:=aaY F.y F.x F.w F.v F.q (F.b.sublist<|L9 _ _) (by refine U N<|aW [_,_,_] (.v 0) (.v 1) [(.v 2,.v 1),(.v 0,.v 2)] V j.1<|bb<|cc p) (by refine U N ?_;have:=F.g;exact aW [_,_,_] (.v 0) (.v 1) [(.v 2,.v 1),(.v 0,.v 2)] V this<|bb<|cc B) (by refine U N<|b8 λC=>aJ [_,_,_,_,_,_] [] [.e 1 af aG,.e 1 bf cM,.l 1 jS af,.l 1 (.c<|.a (.a bK aZ) aX) dA,.e (-1) (.c<|.a dy bA) dA] V (nE B) (nE p) (nl j.2) C<|nE<|cb j.1)<|WN s<|g.G ok;have M:bk W.T (aU W.fr H) s.heap (vs++fn.b.drop (fn.b.length-(fn.c-vs.length)))<|us++dv.drop (us.length+dv.length-(T.take fn.c).length):=by refine vl.g ?_;refine U (by refine U N ?_;have:=F.g;exact cN (fZ (λC=>aJ [_,_,_,_,_,_,_,_] [] [.e 1 af aG,.e 1 bf cM,.e (-1) (.c<|.a dy bA) dA,.e (-1) (.c<|.a (.v 6) cX)<|.c<|.a bK aZ,.e 1 (.c<|.a (.v 7) dy) af,.l 1 (.a (.c<|.v 6) aM)<|.c<|.v 7] V (nE B) (nE p) (nE<|cb j.1) (nE<|cb<|b8 (a:=fn.c) (b:=us.length+dv.length) λZ=>aJ [_,_,_,_,_,_] [] [.e 1 af aG,.e 1 bf cM,.l 1 jS af,.e (-1) (.c<|.a dy bA) dA,.l 1 (.c<|.a (.a bK aZ) aX) dA] V (nE B) (nE p) (nl j.2) (nE<|cb j.1) Z) (nE<|cb j.2) C) λC=>aJ [_,_,_,_,_,_,_,_] [] [.e (-1) af aG,.e (-1) bf cM,.e 1 (.c<|.a dy bA) dA,.e 1 (.c<|.a (.v 6) cX)<|.c<|.a bK aZ,.e (-1) (.c<|.a (.v 7) dy) af,.l 1 (.a (.c<|.v 7) aM)<|.c<|.v 6] V (nE B) (nE p) (nE<|cb j.1) (nE<|cb<|b8 (a:=fn.c) (b:=us.length+dv.length) λZ=>aJ [_,_,_,_,_,_] [] [.e 1 af aG,.e 1 bf cM,.l 1 jS af,.e (-1) (.c<|.a dy bA) dA,.l 1 (.c<|.a (.a bK aZ) aX) dA] V (nE B) (nE p) (nl j.2) (nE<|cb j.1) Z) (nE<|cb j.2) C):us.length+dv.length-(T.take fn.c).length=fn.b.length-(fn.c-vs.length)) ?_;exact(p7 H s.heap g).K _
  generalize WE:us++dv.drop (us.length+dv.length-(T.take fn.c).length)=full at a3 M;have xm:full.length=fn.c:=by refine aP WE<|U bZ<|U mq<|U N ?_;have:=F.g;exact i7 (dv.length) (us.length+dv.length-fn.c) (λD z=>cN<|cA [_,_,_,_,_] [] (.c<|.a aZ bK) bf [.e (-1) (.c<|.a cX bA)<|.c<|.a aZ bo,.e 1 (.c<|.a bK cX) af] V (nE<|cb<|b8 (a:=fn.c) (b:=us.length+dv.length) λZ=>aJ [_,_,_,_,_,_] [] [.e 1 af aG,.e 1 bf cM,.l 1 jS af,.e (-1) (.c<|.a dy bA) dA,.l 1 (.c<|.a (.a bK aZ) aX) dA] V (nE B) (nE p) (nl j.2) (nE<|cb j.1) Z) z) λD z=>cN<|fZ (λC=>aJ [_,_,_,_,_] [] [.e 1 (.c<|.a cX bA)<|.c<|.a aZ bo,.l 1 af dA,.l 1 (.a (.c<|.a aZ bK) aM) bf] V (nE<|cb<|b8 (a:=fn.c) (b:=us.length+dv.length) λZ=>aJ [_,_,_,_,_,_] [] [.e 1 af aG,.e 1 bf cM,.l 1 jS af,.e (-1) (.c<|.a dy bA) dA,.l 1 (.c<|.a (.a bK aZ) aX) dA] V (nE B) (nE p) (nl j.2) (nE<|cb j.1) Z) D C) λC=>aJ [_,_,_,_] [] [.e (-1) af aG,.l 1 af bf,.e 1 cM bJ,.l 1 (.a bf aM)<|.c<|.a aZ bK] V (nE p) (nl j.1) z C
  refine codeAny_call_function (aW [_,_,_] (.a (.v 0)<|.n 1) (.v 1) [(.a (.a (.a (.v 0)<|.m 3<|.a (.v 2)<|.n 1)<|.n 9)<|.n 1,.v 1)] V ar.b.a) ((g.G ok) _ _ a4) V F.B F.t F.p (codeRec_of (g.G ok) F.m)<|a3 _ _ _ _ ?_;refine U F.u ?_;have S:∀x∈(T.take fn.c).zip full,fd.scope.names.lookup x.1=Y .local\/(fd.scope.names.lookup x.1=Y .cell/\((sq (s.heap.objs.size+1) fd.scope.names []).lookup x.1).isSome=true):=λx hx=>by exact bq (F.f _<|vz (Ds hx).1) (λh=>.inl h) λh=>.inr ⟨h,xQ _ _ _ _<|Av h⟩
  refine wpAny_newFunctionEnv_cells F.e S λenv X s₁ x=>?_;have P:=x.toInCall.keep
  (refine gR x.toInCall.same λa1 tk jg=>?_;subst jg)
  have nx:Nx W H s H {s with heap:=a1,toks:=tk}:=Nx.r g P;refine⟨(ok.q.keeps g.D).keeps P,codeAny_func ?_⟩;have K:env.locals=s.heap.objs.size:=by refine U X ?_;rfl
  have r:env.scope=fd.scope:=by refine U X ?_;rfl
  have Q:env.frame=Y s.heap.objs.size:=by refine U X ?_;rfl
  have I:=λnm c k=>by have:=x.above nm c<|Av k;rw[K]at this;exact cI this
  have G:∀c,s.heap.objs.size<=c->s.heap.get? c=O:=λc k=>pe k;have t:∀c,s.heap.get? c=O->W.r.get? c=O:=λc k=>by
   cases q:W.r.get? c with
   |none=>rfl
   |some o=>rw[g.D c o q]at k;exact aS<|cc k
  have hL:s.heap.get? env.locals=O:=by refine U K<|kz _
  have E:∀x,x=env.locals\/(∃n,env.cells.lookup n=Y x)->s.heap.get? x=O:=λx hx=>by
   rcases hx with rfl|⟨nm,k⟩;·exact hL
   ·exact G x<|I nm x k
  have there:∀y,y=env.locals\/(∃n,env.cells.lookup n=Y y)->∃o,a1.get? y=Y o:=λy hy=>by
   rcases hy with rfl|⟨nm,k⟩;·exact jA x.toInCall.ns
   ·exact ri<|x.cell nm y k
  refine bp (g.aj (s₁:={s with heap:=a1,toks:=tk}) P E there) λgw vw=>?_;refine h ⟨A.deeper env,env,env::l,T,[],false⟩ _ ⟨by refine U r<|F.e,by refine U X<|F.j,by refine U X<|F.C,ar.c,by refine(?_:A.frames.map _=_);refine U ar.e ?_;rfl,
   λnm k=>?_,x.apart,λnm c k=>f5 (x.above nm c k),F.b⟩ V V (by refine U X ?_;rfl) V V ⟨by exact aW [_,_,_] (.a (.a (.a (.a (.v 0) (.n 1)) (.m 3 (.v 1))) (.n 11)) (.n 1)) (.v 2) [((.a (.a (.a (.v 0) (.m 3 (.a (.v 1) (.n 1)))) (.n 9)) (.n 1)),(.v 2))] V ar.b.a,by exact aW [_,_,_] (.a (.a (.a (.a (.v 0) (.n 3)) (.m 12 (.v 1))) (.n 69)) (.n 1)) (.v 2) [((.a (.a (.a (.v 0) (.m 12 (.a (.v 1) (.n 1)))) (.n 60)) (.n 1)),(.v 2))] V ar.b.b⟩ ⟨gw,?_⟩ P V V E
  ·have:=xQ fd.scope.names (s.heap.objs.size+1) [] nm (Av (by refine aP r<|k:fd.scope.names.lookup nm=Y .cell));exact LQ.mp<|(by refine U X ?_;rfl:env.cells=sq (s.heap.objs.size+1) fd.scope.names []).symm▸this
  ·refine⟨(eX _ _ x.toInCall.ns x.cell (λi nm v hn a0=>?_) λh=>aV h),.inr<|.inl V,λnm c k=>.inr<|.inr ⟨nm,k⟩,λq=>(by refine aF (g.z.Q _ q) λo e=>?_;rw[hL]at e;exact aS e),λnm c k q=>(by refine aF (g.z.Q _ q) λo e=>?_;rw[G c<|I nm c k]at e;exact aS e),λy hy=>.inl hy,t _ hL,λnm c k=>t _<|G c<|I nm c k,?_⟩
   ·have hi:i<fn.c:=by
     refine bq (hO i fn.c) (λh=>?_) λh=>?_;·exact h
     ·rw[nL<|by simp;have:=F.g;exact b8 λC=>i7 (fn.b.length) (fn.b.length-(fn.c-vs.length)) (λD z=>aJ [_,_,_,_,_,_,_] [] [.l 1 bf dA,.l 1 (.c<|.a cX aX)<|.c<|.a aZ dy,.e 1 (.c<|.a bK aZ) bf,.e (-1) (.c<|.a (.v 6) bK) af,.e 1 (.c<|.a dy<|.v 6) af] V (nl h) C (nE<|cb j.1) (nE<|cb j.2) z) λD z=>aJ [_,_,_,_] [] [.l 1 af aG,.l 1 aG bf,.l 1 (.c<|.a bA aX)<|.c<|.a bo bK,.e 1 cM bJ] V (nl j.1) (nl h) C z]at a0;have a0:=vG▸a0;split at a0<;>cases a0
    have Wg:(vs++fn.b.drop (fn.b.length-(fn.c-vs.length)))[i]? =Y v:=by
     rw[jx<|by simp;have:=F.g;exact b8 λC=>i7 (fn.b.length) (fn.b.length-(fn.c-vs.length)) (λD z=>aJ [_,_,_,_,_,_,_] [] [.l 1 (.c<|.a cX aX) bf,.l 1 (.c<|.a (.a aZ dy) aX)<|.c<|.a cX aX,.e (-1) (.c<|.a bK aZ) bf,.e 1 (.c<|.a (.v 6) bK) af,.e (-1) (.c<|.a dy<|.v 6) af] V (nl hi) C (nE<|cb j.1) (nE<|cb j.2) z) λD z=>aJ [_,_,_,_,_,_,_] [] [.l 1 (.c<|.a cX aX) bf,.l 1 (.c<|.a (.a aZ dy) aX)<|.c<|.a cX aX,.e (-1) (.c<|.a bK aZ) bf,.e 1 (.c<|.a (.v 6) bK) af,.l 1 af<|.c<|.v 6] V (nl hi) C (nE<|cb j.1) (nE<|cb j.2) D,gh]at a0;rw[qE]at a0;refine aH a0 λw hw e=>?_
     (have e:=bz e;subst e);exact hw
    refine aH (((M.N λy o e n=>mE E e n).d (H':=H) (h':=a1) ⟨λy o e _=>.i<|P y o e,λ_ _ _ n=>n,λy o e=>⟨o,P y o e⟩⟩).B Wg) λu eu ru=>?_;have IQ:(T.take fn.c)[i]? =Y nm:=by refine U (List.getElem?_take_of_lt hi) ?_;exact hn
    have GA:=F.b.sublist<|L9 fn.c T;exact⟨λ_ P=>aO u (Ky GA IQ eu P) ru,λP=>aO u (KA GA IQ eu P) ru⟩
   ·intro e a2;rcases gH.mp a2 with rfl|a2
    ·refine ia x.toInCall.ns λo es ep Wu xp _=>?_;have IM:(W.t e).fr s.heap.objs.size:=.inr<|.inl K.symm;exact jI (by refine U r<|U F.e ?_;decide) s.heap.objs.size o Q (t _<|kz _) (K▸Wu) (pQ _ _ xp) IM
    ·refine ib (ar.d e a2) λq1 L o q2 q3 q4 q5 q6=>jI q1 L o q2 q3 (P _ _ q4) q5<|.inl q6
 ·exact aS hb
end
end bc
end
section
set_option backward.match.sparseCases false
open PySem PySem.W PyProof.Rows PySem.SeqAt PySem.MeetsSeq
namespace bc
section
variable {W:Wd}{w:Cx}{A:di}{m T:ba}{H:Hp}{s:bU}
def v7(g:bu W H s.heap)(i:W.fr a)(l:¬W.v a)(j:W.r.get? a=O)(h:sW a s.heap h')(t:∃o,h'.get? a=Y o):cY W H s H {s with heap:=h',toks:=k}:=by
 have f:df W.fr H s.heap H h':=⟨λx o e n=>.i<|(h.2 x λq=>n<|q▸.inr (.inr i)).trans e,λ_ _ _ n=>n,λx o e=>by
  by_cases q:x=a;·subst q;exact t
  ·exact⟨o,(h.2 x q).trans e⟩⟩
 have d:=g.z.W a i;refine⟨f,λx o p e=>.i<|(h.2 x λq=>l<|q▸p).trans e,⟨λx o e=>(h.2 x λq=>by rw[q,j]at e;exact aS e).trans<|g.D x o e,g.F,⟨λb o e=>?_,g.z.inj,g.z.S,g.z.W,λx p=>?_⟩⟩,V,V⟩
 ·refine(g.z.M b o e).Z f λy c=>h.2 y λq=>?_;subst q;induction o using bc.AO.casesOn with
  |bF C m v=>
   simp only[AO.l,gH,dM,or_false]at c;rcases c with rfl|rfl;·rw[d.1]at e;exact aS e
   ·exact d.2 _ _ _ e
  |_=>simp only[AO.l,dm]at c;subst c;rw[d.1]at e;exact aS e
 ·exact aF (g.z.Q x p) λo e=>f.f x o e
def fa.C(x:fa W H s.heap l)(m:sW a s.heap h')(t:(∃o p n,h'.get? a=Y o/\o.data=.dict p n)\/∃o,s.heap.get? a=Y o/\∀p n,o.data≠.dict p n):fa W H h' l:=λr k=>by
 refine ib (x r k) λi L o f j h b g=>?_;by_cases q:L=a
 ·subst q;refine bq t (λc=>gA c λu p n e d=>?_) λz=>aH z λu e d=>?_;·exact jI i L u f j e (pQ p n d) g
  ·rw[h]at e;(have e:=bz e;subst e);refine gR b λp n b=>?_;exact absurd b<|d p n
 ·exact jI i L o f j ((m.2 L q).trans h) b g
def ug(h:(m.set i x)[j]? =Y (Y v)):(j=i/\x=Y v)\/(j≠i/\m[j]? =Y (Y v)):=by
 rw[qN]at h;split at h
 ·rename_i e;split at h;·exact .inl ⟨e.symm,by simpa using h⟩
  ·exact aS h
 ·rename_i e;exact .inr ⟨λq=>e q.symm,h⟩
def nU(D:w.f)(st:St W w m T H s)(S:w.e=false)(L:w.b[i]? =Y nm)(B:w.env.kindOf nm=Y .local\/w.env.kindOf nm=Y .cell)
  (a2:aT W.T (aU W.fr H) s.heap v u) (a3:∀s',cY W H s H s'->St W w (m.set i<|Y v) T H s'->Q () s'):bw (bM W.p W.w) A (storeName w.env nm u) Q E s:=by
 obtain⟨g,⟨ml,X,a4,hc,K⟩,mV,iT,mK,pz,uf,M,R,I⟩:=st;have x:∀{j}{d},w.b[j]? =Y d->j≠i->d≠nm:=λ{j d}e t q=>t (by subst q;exact(Dz ((et.mp e).1) D.e).mp (e.trans L.symm))
 refine bq B (λB=>?_) λB=>?_
 ·refine K9 B a4 (λh' C f=>?_) (by refine U D.a ?_;rfl);have n:=v7 (k:=s.toks+1) g mV mK M f<|jA C;refine a3 _ n ⟨n.w,(eX _ X C (λd c e=>(hc d c e).sameBut f λq=>D.d d c (kM e) q.symm) (λj d a0 l a1=>?_) λq=>by rw[S]at q;exact aV q),mV,iT,mK,pz,uf,M,R,I.C f (by
   refine ia C λo es ep P N _=>?_;exact .inl (je o es ep P N))⟩
  rcases ug a1 with⟨rfl,p⟩|⟨t,p⟩
  ·(have p:=bz p;subst p)
   rw[L]at l;(have l:=bz l;subst l);exact⟨λ_ _=>aO u (by simp)<|a2.d n.p,λq=>(by rw[B]at q;cases q)⟩
  ·exact⟨λa b=>aH ((K.1 j d a0 l p).1 a b) λF e r=>aO F (by simp[x l t,e])<|r.d n.p,λb=>aH ((K.1 j d a0 l p).2 b) λF e r=>aO F e<|r.d n.p⟩
 ·refine aF (D.h nm B) λc h=>wpAny_storeName_cell D.a B h (hc nm c h) λh' G f=>?_;have n:=v7 (k:=s.toks) g (iT nm c h) (pz nm c h) (R nm c h) f<|ri G;refine a3 _ n ⟨n.w,(eX ml (λy=>if y=nm then Y u else X y) (a4.sameBut f<|D.d nm c<|kM h) (λd Z e=>?_) (λj d a0 l a1=>?_) λq=>by rw[S]at q;exact aV q),mV,iT,mK,pz,uf,M,R,I.C f (by
   refine aH (hc nm c h) λo P N=>?_;exact .inr (aO o P λes n q=>by rw[N]at q;exact su q))⟩
  ·by_cases q:d=nm;·subst q;rw[h]at e;(have e:=bz e;subst e);simpa using G
   ·simp only[q,if_false];exact(hc d Z e).sameBut f λz=>q<|name_of_addr D.g (kM e)<|z▸kM h
  ·rcases ug a1 with⟨rfl,p⟩|⟨t,p⟩
   ·(have p:=bz p;subst p)
    rw[L]at l;(have l:=bz l;subst l);exact⟨λ_ q=>(by rw[B]at q;cases q),λ_=>aO u (by simp)<|a2.d n.p⟩
   ·exact⟨λa b=>aH ((K.1 j d a0 l p).1 a b) λF e r=>aO F e<|r.d n.p,λb=>aH ((K.1 j d a0 l p).2 b) λF e r=>aO F (by simp[x l t,e])<|r.d n.p⟩
end
structure Wd.u(W cK:Wd):Prop where
 T:W.T=cK.T
 a:W.p=cK.p
 w:W.w=cK.w
 K:W.K=cK.K
 b:W.r=cK.r
 g:W.z=cK.z
def Wd.u.d(W:Wd):W.u W:=⟨V,V,V,V,V,V⟩
def Wd.u.c{W:Wd}(x:W.u cK)e:(W.t e).u cK:=⟨x.T,x.a,x.w,x.K,x.b,x.g⟩
def Wd.y.p{W:Wd}(o:cK.y)(x:W.u cK):W.y:=by obtain⟨a,b,c,d,e⟩:=o;obtain⟨j,k,i,h,f,g⟩:=x;exact⟨by refine U h<|U f ?_;exact a,by refine U f<|U g ?_;exact b,by exact U g<|c,by exact U f<|d,by exact U f<|e⟩
noncomputable def RP(W:Wd)(Q E:VK)(H:Hp)(s:bU):Result->bU->Prop:=λr a=>match r with
 |.ok (.ret v)=>∃b c,Nx W H s c a/\RV W c a.heap b v/\Q b c
 |.ok _=>False
 |.error e=>eG W E H s e a
noncomputable def lV(a:Wd)(b:Nat->Addr)(F:cF)(n:Nat):Prop:=
 ∀W,W.u a->∀A l H s f v u Q E,F f v Q E H->bu W H s.heap->Ar W H s.heap A l n->
  bk W.T (aU W.fr H) s.heap v u->kP (bM W.p W.w) A (.call (.ref<|b f) ⟨u,[]⟩) (RP W Q E H s) s
section
variable {W:Wd}{A:di}{E:VK}{H:Hp}{s:bU}
def Nx.L(g:bu W H s.heap)(h:H'.aq H):Nx W H s H' s:=by refine bp (g.z.aj h) λa R=>?_;exact⟨a,λ_ _ _ e=>.i e,⟨g.D,λx o e=>a.i x o (g.D x o e)<|g.F x o e,R⟩,V,V⟩
def JA(g:bu W H s.heap)(w:aT W.T (aU W.fr H) s.heap va a)(d:kA va Q H):∃b I,Nx W H s I s/\RV W I s.heap b a/\Q b I:=by
 (refine aH d λx u E=>?_;clear d;subst u)
 subst w;have f:(H.aB x) x=O:=by simp[Hp.aB]
 have n:=Nx.L g<|H.az x;have c:H x≠O->¬aU W.fr (H.aB x) x:=λK=>by
  rintro (⟨o,e⟩|⟨b,C,G,e⟩|h)
  ·rw[f]at e;exact aS e
  ·have:=g.z.S b C x G ((H.az x) _ _ e);exact K this
  ·exact(λp y=>p (g.z.W x y).1) K h
 refine bq E (λl=>aH l λG e q=>?_) λz=>gA z λC k G e q=>?_;·refine cw (g.z.M _ _ e) λF v t B=>bQ (.g G) _ n (kr x F V (c<|by refine U e ?_;nofun) v (t.d n.j) B) q
 ·refine kC (g.z.M _ _ e) λL A j r m=>(bQ (.n C G) _ n (w5 x k _ L V (c<|by refine U e ?_;nofun) ?_ A V V V j.ns<|r.d n.j) q)
  rintro (⟨o,i⟩|⟨b,M,D,i⟩|h)
  ·have:=g.z.S x C k G e;rw[(H.az x) _ _ i]at this;exact aS<|cc this
  ·have:=g.z.inj _ _ _ _ _ _ _ ((H.az x) _ _ i) e;subst this;rw[f]at i;exact aS i
  ·exact(g.z.W k h).2 _ _ _ e
def Ze(t:W.y)(lk:W.u c){F}(K:lV c D F n)(g:bu W H s.heap)(M:uN A n)(hh:A.handled=O)(u:A.frames=Y l)(fo:fa W H s.heap l){mu:Bool}(P:makesIn W.K (W.T C).a=true)(T:fb W.K (.ref (W.T C).a) "__init__"=Y (Y<|.ref<|D<|gS C))(a0:l4 W.K (.ref<|D<|gS C)=Y (.type "function"))
  (vl:bk W.T (aU W.fr H) s.heap vs us)
  (d:∀a m,H a=O->F (gS C) (.f a::vs) (λr H'=>(match r with|.k=>(if mu then Q (.f a) H' else kA (.f a) Q H')|_=>False)) E (H.ag a<|.bF C m [])):
  aQ W A E (RV W) Q (call (.ref (W.T C).a) us) H s:=by
 obtain⟨h,j,p,B,os⟩:=s;refine qq<|make_core (makes_of (g.G t) P) (uV (g.G t) T) (λi=>bind_fn (g.G t) i a0) (.inl V) ?_;have hx:H (h.objs.size+1)=O:=by
  cases q:H _ with
  |none=>rfl
  |some o=>
   refine aF (g.z.X<|.inl ⟨o,q⟩) λob e=>?_;have:=pd e;exact absurd this<|by simp
 have k:∀b o,h.get? b=Y o->((h.push emptyDict).push<|instObj (W.T C).a h.objs.size).get? b=Y o:=λb o e=>fC _<|fC _ e;have N:h.get? (h.objs.size+1)=O:=pe<|mg _;refine bp (g.z.ah (o:=.bF C h.objs.size []) N (λy L=>by
   simp only[AO.l,gH,dM,or_false]at L;rcases L with rfl|rfl;·exact N
   ·exact kz _) (λC' m vs e=>by cases e;exact f5 (ec _)) (λy ob e=>k y ob e)
  (λw=>(jH [] (by heap_get) (by
   have:(λn=>((W.T C).b.zip ([]:List bI)).lookup n)=λ_=>O:=by funext y;simp
   refine U this<|MS (dG _ _ _ (by heap_get) V (λe a1=>absurd a1 (by simp)) λ_=>V)) trivial (cB _)))) λw R=>?_
 have f:Nx W H ⟨h,j,p,B,os⟩ _ ⟨(h.push emptyDict).push _,j,p,B,os⟩:=
  ⟨w,λy o _ e=>.i<|k y o e,g.ah w R λy o e=>(k y o<|g.D y o e).trans (g.D y o e).symm,V,V⟩
 have S:Ar W _ _ (A.under<|.builtin "type.__call__" ⟨.ref (W.T C).a::us,[]⟩) l n:=
  ⟨⟨by have:=M.c;exact aW [_,_,_] (.a (.a (.a (.a (.v 0)<|.n 1)<|.m 3<|.v 1)<|.n 9)<|.n 1) (.v 2) [(.a (.a (.a (.v 0)<|.m 3<|.v 1)<|.n 11)<|.n 1,.v 2)] V this,by have:=M.b;exact aW [_,_,_] (.a (.a (.a (.a (.v 0)<|.n 1)<|.m 12<|.v 1)<|.n 60)<|.n 1) (.v 2) [(.a (.a (.a (.v 0)<|.m 12<|.v 1)<|.n 69)<|.n 1,.v 2)] V this⟩,hh,u,fo.K f⟩
 refine uW (K W lk _ l _ ⟨(h.push emptyDict).push<|instObj (W.T C).a h.objs.size,j,p,B,os⟩ _ _ (.ref (h.objs.size+1)::us) _ _ (d (h.objs.size+1) h.objs.size hx) f.i S ⟨V,vl.d f.j⟩) λr s' z=>?_
 match r,z with
 |.error e,z=>exact eG.d f z
 |.ok (.ret v),z=>
  refine cj z λb H' I Z q=>?_;split at q
  ·refine⟨Z,?_⟩;induction mu using Bool.casesOn with
   |true=>exact bQ (.f _) H' (f.p I) V<|q
   |false=>
    refine cj (JA (s:=s') (f.p I).i (va:=.f<|h.objs.size+1) (a:=.ref<|h.objs.size+1) V<|q) λb x X G q'=>?_;exact bQ b x ((f.p I).p X) G q'
  ·exact q.elim
end
noncomputable def jW(K:Frag)(f:bI):Prop:=∀M h,K.In h->∃k,(k=Keeper.frame\/k=Keeper.machine\/k=Keeper.boundFrame)/\oU M h (keeperOf f) k
def jW.d{K}(a:js K f=true):jW K f:=λM h X=>keeps_K a h X
def jW.b{K}:jW K<|.builtin x:=λM h X=>aO .machine (.inr<|.inl V)<|.of_pure V
def jW.c{K}:jW K<|.type x:=λM h X=>aO .machine (.inr<|.inl V)<|.of_pure V
structure Ro(cx:Cx)(n:Nat):Prop where
 a:cx.f
 c:uN cx.A n
def Ro.d(r:Ro cx n):cZ cx.A:=⟨r.a.b,by have:=r.c.b;exact aW [_,_,_] (.a (.a (.v 0)<|.n 60)<|.n 1) (.v 1) [(.a (.a (.a (.v 0)<|.m 12<|.v 2)<|.n 69)<|.n 1,.v 1)] V this⟩
def Ro.e(r:Ro cx n)(b:St W cx m mc H s):Ar W H s.heap cx.A cx.a n:=
 ⟨⟨by have:=r.c.c;exact aW [_,_,_] (.a (.a (.a (.v 0)<|.m 3<|.v 1)<|.n 9)<|.n 1) (.v 2) [(.a (.a (.a (.v 0)<|.m 3<|.v 1)<|.n 11)<|.n 1,.v 2)] V this,by have:=r.c.b;exact aW [_,_,_] (.a (.a (.a (.v 0)<|.m 12<|.v 1)<|.n 60)<|.n 1) (.v 2) [(.a (.a (.a (.v 0)<|.m 12<|.v 1)<|.n 69)<|.n 1,.v 2)] V this⟩,r.a.b,r.a.i,b.fr.ag⟩
section
variable {W:Wd}{cx:Cx}{E:VK}{m mc:ba}
def Qp(c:cZ cx.A)(t:bD W cx E m mc da<|eval l cx.env)(q:bD W cx E m mc db<|eval r cx.env)(p:lG o=Y op):
  bD W cx E m mc (λQ=>da λw=>db λv=>iw op mu w v Q) (eval (.BinOp l o r pos) cx.env):=λQ H s d e=>by
 refine(t _ H s d e).C λa w f x k h j=>aQ.C (aQ.y<|q _ f x j<|e.nx k) λb v u y n i g=>?_;exact aQ.z<|aQ.D<|Zm n.i c (aT.d n.j _ _ h) i g p
def P6(h:bD W cx E m mc dx<|eval x cx.env):
  bD W cx E m mc (λQ=>dx λv H=>(match v with|.c i=>Q (.c<|-i) H|_=>False)) (eval (.UnaryOp .USub x pos) cx.env):=λQ H s d c=>by
 refine(h _ H s d c).C λa j f g n r b=>?_;refine aH (IC b) λi e b=>?_;exact aQ.z<|aQ.y<|Zf n.i (e▸r) b
def P4(h:bD W cx E m mc dx<|eval x cx.env):
  bD W cx E m mc (λQ=>dx λv H=>(match v with|.e b=>Q (.e<|!b) H|_=>False)) (eval (.UnaryOp .Not x pos) cx.env):=λQ H s d f=>by
 refine(h _ H s d f).C λa k g j n r c=>?_;refine aH (uD c) λi e c=>?_;exact aQ.z<|aQ.y<|Zb n.i (e▸r) c
def Ql(o:W.y)(c:cZ cx.A)(w:bD W cx E m mc da<|eval l cx.env)(u:bD W cx E m mc db<|eval r cx.env)(i:yo op r=false):
  bD W cx E m mc (λQ=>da λy=>db λv H=>(match uy (ux op) H y v with|some r=>Q (.e r) H|aY=>False)) (eval (.Compare l [op] [r] pos) cx.env):=λQ H s d g=>by
 have k:eval (.Compare l [op] [r] pos) cx.env=(eval l cx.env>>=λa=>iE [a] (eval r cx.env)>>=λb=>gF pos>>=λ_=>l6 [a,b]<|kO op a b):=by refine(?_:(eval l cx.env>>=λa=>compareChain pos a [op] [yk op r _])=_);unfold yk;refine U i ?_;rfl
 refine U k ?_;refine(w _ H s d g).C λa y h z t j q=>aQ.C (aQ.y<|u _ h z q<|g.nx t) λb v x A n p f=>?_;refine aH (Gf f) λr e f=>?_;exact aQ.z<|aQ.D<|JB o n.i c (aT.d n.j _ _ j) p e f
noncomputable def ig(W:Wd)(cx:Cx)(E:VK)(m mc:ba)(d:VK->Hp->Prop)(t:Sem Bool):Prop:=
 ∀K H s,d (λv H=>(match v with|.e b=>K b H|_=>False)) H->St W cx m mc H s->aQ W cx.A E RB K t H s
def zy{K}(g:bu W H s.heap)(r:aT W.T (aU W.fr H) s.heap (.e b) v)(d:K b H):aQ W A E RB K (sh v) H s:=by subst r;exact qo<|bQ b H (.F g) V d
def O8(g:bD W cx E m mc dx<|eval e cx.env)(h:fA e cx.env (eval e cx.env)=(do let v<-eval e cx.env;gF e.pos;iE [v] (sh v))):
  ig W cx E m mc dx (fA e cx.env<|eval e cx.env):=λK H s d c=>by
 refine U h ?_;refine(g _ H s d c).C λa k f j n r b=>?_;refine aH (uD b) λi e b=>?_;exact aQ.z<|aQ.y<|zy n.i (e▸r) b
def O'(C:W.y)(c:cZ cx.A)(u:bD W cx E m mc da<|eval l cx.env)(B:bD W cx E m mc db<|eval r cx.env)(q:yo op r=false):
  ig W cx E m mc (λQ=>da λA=>db λh H=>(match uy (ux op) H A h with|some r=>Q (.e r) H|aY=>False)) (fA (.Compare l [op] [r] pos) cx.env D6):=λK H s d j=>by
 have k:fA (.Compare l [op] [r] pos) cx.env D6=(eval l cx.env>>=λa=>iE [a] (eval r cx.env)>>=λb=>gF pos>>=λ_=>l6 [a,b] (kO op a b)>>=λc=>iE [c]<|sh c):=by refine(?_:(eval l cx.env>>=λa=>testChain pos a [op] [yk op r<|eval r cx.env])=_);unfold yk;refine U q ?_;rfl
 refine U k ?_;refine(u _ H s d j).C λa A o L y t x=>aQ.C (aQ.y<|B _ o L x<|j.nx y) λb h I M n w f=>?_;refine aH (Gf f) λr e f=>?_;refine aQ.z<|aQ.C (aQ.D<|JB C n.i c (aT.d n.j _ _ t) w e (Q:=λv H=>(match v with|.e b=>K b H|_=>False)) f) λv G F D p z g=>?_;refine aH (uD g) λi e g=>?_;exact aQ.y<|zy p.i (e▸z) g
def O9(h:ig W cx E m mc dx<|fA x cx.env<|eval x cx.env):
  ig W cx E m mc (λQ=>dx λv H=>(match v with|.e b=>Q (.e<|!b) H|_=>False)) (fA (.UnaryOp .Not x pos) cx.env D6):=λK H s d a=>by
 refine(h (λb H=>K (!b) H) H s d a).C λb f e g n r c=>?_;subst r;exact aQ.F n.i V c
def P9{t b o:Expr}{u:Pos}{h a c:VK->Hp->Prop}(k:ig W cx E m mc h<|fA t cx.env<|eval t cx.env)(l:bD W cx E m mc a<|eval b cx.env)(p:bD W cx E m mc c<|eval o cx.env):
  bD W cx E m mc (λQ=>h λv H=>(match v with
   |.e true=>a Q H
   |.e false=>c Q H
   |_=>False)) (eval (.IfExp t b o u) cx.env):=λQ H s d f=>by
 refine(?_:aQ W cx.A E (RV W) Q (fA t cx.env (eval t cx.env)>>=λr=>if r then eval b cx.env else eval o cx.env) H s);have e:(λ(v:AV)(H:Hp)=>(match v with|.e b=>(if b=true then a Q H else c Q H)|_=>False))=(λv H=>(match v with
   |.e true=>a Q H
   |.e false=>c Q H
   |_=>False)):=by
  funext v H'
  match v with
  |.e true=>rfl
  |.e false=>rfl
  |.k|.c _|.m _|.d _|.l _|.g _|.n _ _|.f _=>rfl
 refine(k (λr H=>if r=true then a Q H else c Q H) H s (by refine U e ?_;exact d) f).C λr q g w n j i=>?_;subst j;induction r using Bool.casesOn;·exact p Q g w (i)<|f.nx n
 ·exact l Q g w (i)<|f.nx n
end
inductive c6{α β:Type}(R:α->β->Prop):List α->List β->Prop
 |d:c6 R [] []
 |cons {a b r t}:R a b->c6 R r t->c6 R (a::r) (b::t)
def c6.e(x:c6 R l t):l.length=t.length:=by
 induction x with
 |d=>rfl
 |cons _ _ i=>simp[i]
abbrev ei:=VK->Hp->Prop
noncomputable def eL:List ei->(List AV->Hp->Prop)->Hp->Prop
 |[]=>λQ H=>Q [] H
 |d::r=>λQ=>d λv=>eL r λa=>Q<|v::a
noncomputable def ie(b:Bool):List ei->ei
 |[]=>λQ H=>Q (.e b) H
 |d::r=>λQ=>d λv H=>(match v with
   |.e c=>if c=b then(ie b r) Q H else Q (.e c) H
   |_=>False)
section
variable {F:cF}{E:VK}{m mc:ba}
theorem lQ:∀a,jh F E m mc a=eL (a.map<|den F E m mc)
 |[]=>rfl
 |x::r=>congrArg (λ(D:(List AV->Hp->Prop)->Hp->Prop)(Q:List AV->Hp->Prop)=>den F E m mc x λv=>D λb=>Q<|v::b)<|lQ r
theorem rT b:∀a,mW F E m mc b a=ie b (a.map<|den F E m mc)
 |[]=>rfl
 |x::r=>congrArg (λD Q=>den F E m mc x λv H=>(match v with
   |.e c=>if c=b then D Q H else Q (.e c) H
   |_=>False)) (rT b r)
def ZE:den F E m mc (.p f xs)=λQ=>eL (xs.map<|den F E m mc) λv=>F f v Q E:=congrArg (λD Q=>D λv=>F f v Q E)<|lQ xs
def ZA:den F E m mc (.E C mu xs)=λQ=>eL (xs.map<|den F E m mc) λv H=>∀a d,H a=aY->
   F (gS C) (.f a::v) (λr b=>(match r with|.k=>(if mu then Q (.f a) b else kA (.f a) Q b)|_=>False)) E (H.ag a<|.bF C d []):=
 congrArg (λD Q=>D λv H=>∀a d,H a=aY->
   F (gS C) (.f a::v) (λr b=>(match r with|.k=>(if mu then Q (.f a) b else kA (.f a) Q b)|_=>False)) E (H.ag a (.bF C d []))) (lQ xs)
def ZB:den F E m mc (.o C f x xs)=λQ=>den F E m mc x λo H=>lR H o=Y C/\eL (xs.map<|den F E m mc) (λv=>F f (o::v) Q E) H:=
 congrArg (λD Q=>den F E m mc x λo H=>lR H o=Y C/\D (λv=>F f (o::v) Q E) H) (lQ xs)
def ZC:den F E m mc (.m mu xs)=λQ=>eL (xs.map<|den F E m mc) λv=>iR mu v Q:=congrArg (λD Q=>D λv=>iR mu v Q)<|lQ xs
def Zz:den F E m mc (.q xs)=λQ=>eL (xs.map<|den F E m mc) λv=>Q<|.l v:=congrArg (λD(Q:VK)=>D λv=>Q<|.l v)<|lQ xs
def JQ:den F E m mc (.r op<|x::xs)=λQ=>den F E m mc x λo H=>jF op H o/\eL (xs.map<|den F E m mc) (λv=>gC op (o::v) Q) H:=
 congrArg (λD Q=>den F E m mc x λo H=>jF op H o/\D (λv=>gC op (o::v) Q) H) (lQ xs)
def ZF(h:∀H o,jF op H o=True):∀a,den F E m mc (.r op a)=λQ=>eL (a.map<|den F E m mc) λv=>gC op v Q
 |[]=>rfl
 |x::a=>JQ.trans<|funext λQ=>congrArg (den F E m mc x)<|funext λo=>funext λH=>(congrArg (λp=>p/\eL (a.map<|den F E m mc) (λv=>gC op (o::v) Q) H)<|h H o).trans<|true_and _
end
section
variable {W:Wd}{cx:Cx}{E:VK}{m mc:ba}
abbrev x5(W:Wd)(n:Nat):Hp->Heap->List AV->List bI->Prop:=λH h a v=>bk W.T (aU W.fr H) h a v/\a.length=n
def bk.q{T}(x:aT T o h a v)(y:bk T o h r t):bk T o h (a::r)<|v::t:=⟨x,y⟩
def PW:∀{z}{y},c6 (λd e=>bD W cx E m mc d<|eval e cx.env) z y->∀Q H s,eL z Q H->St W cx m mc H s->
  aQ W cx.A E (x5 W y.length) Q (qu<|y.map λe=>(false,eval e cx.env)) H s:=by
 intro z y h;induction h with
 |d=>intro Q H s d st;exact aQ.F (b:=[]) st.ag ⟨trivial,V⟩ d
 |cons B u p=>
  rename_i w e r t;intro Q H s d st;refine(?_:aQ W cx.A E _ Q (eval e cx.env>>=λv=>pure [v]>>=λc=>iE c _>>=λq=>pure _) H s);refine(B _ H s d st).C λa C j A k i l=>?_;refine U (pure_bind _ _) ?_;refine aQ.C (aQ.y<|p _ j A l<|st.nx k) λb o x D n f g=>?_;exact aQ.F n.i ⟨bk.q (aT.d n.j _ _ i) f.1,by simp[f.2]⟩ g
def lB(h:c6 (λd e=>bD W cx E m mc d<|eval e cx.env) ds es)(a:dW es=true)Q H s(d:eL ds Q H)(b:St W cx m mc H s):
  aQ W cx.A E (x5 W es.length) Q (qu<|j1 pos<|iY es cx.env) H s:=by
 refine U (jk pos cx.env a) ?_;exact PW h Q H s d b
def Zd(g:bu W H s.heap)(h:bk W.T (aU W.fr H) s.heap vs us)(d:iR mu vs Q H):aQ W A E (RV W) Q (newList us) H s:=by refine ye (ue g (h) d) ?_;refine(?_:us.toArray.size<=jY);have:=h.f;have:=d.1;have:=eJ;refine U fT ?_;simp;exact b8 λz=>aJ [_,_,_] [] [.e (-1) af aG,.l 1 af bf,.e 1 bf<|.c<|.n 1048576,.l 1 (.c<|.a (.n 16777216) aX) aG] V (nE<|‹(vs.length=us.length)›) (nl<|‹(vs.length<=sz)›) (nE this) z
def Zc{v}{u}{Q:VK}(g:bu W H s.heap)(h:bk W.T (aU W.fr H) s.heap v u)(b:v.length<=sz)(d:Q (.l v) H):aQ W A E (RV W) Q (newTuple u) H s:=by refine ye (Xj g (h) b d) ?_;refine(?_:u.toArray.size<=jY);have:=h.f;have:=eJ;refine U fT ?_;simp;exact b8 λz=>aJ [_,_,_] [] [.l 1 af aG,.e (-1) af bf,.e 1 aG<|.c<|.n 1048576,.l 1 (.c<|.a (.n 16777216) aX) bf] V (nl b) (nE<|‹(v.length=u.length)›) (nE this) z
def P8(h:c6 (λd e=>bD W cx E m mc d<|eval e cx.env) ds es)(c:dW es=true):
  bD W cx E m mc (λQ=>eL ds λv=>iR mu v Q) (eval (.List es pos) cx.env):=λQ H s d b=>by
 exact aQ.z<|aQ.C (lB h c _ H s d b) λu v f g n r a=>Zd n.i r.1 a
def Fa(h:c6 (λd e=>bD W cx E m mc d<|eval e cx.env) ds es)(c:dW es=true)(f:es.length<=30):
  bD W cx E m mc (λQ=>eL ds λv=>Q<|.l v) (eval (.Tuple es k pos) cx.env):=λQ H s d b=>by
 exact aQ.z<|aQ.C (lB h c _ H s d b) λu v i j g r a=>Zc g.i r.1 (by refine U r.2<|U eJ ?_;exact aW [_] (.v 0) (.n 1048576) [(.v 0,.n 30)] V f) a
def Bc{p:Prop}[Decidable p]{a b G:Prop}(d:if p then a else b)(h:p->a->G)(c:¬p->b->G):G:=
 (mA p).elim (λe=>h e<|Eq.mp (if_pos e) d) λe=>c e<|Eq.mp (if_neg e) d
def Fd(u:b=(op==.And)):∀{M}{A},c6 (λd e=>bD W cx E m mc d<|eval e cx.env) M A->A≠[]->∀Q H s,ie b M Q H->St W cx m mc H s->
  aQ W cx.A E (RV W) Q (boolOp pos op<|evalEach A cx.env) H s:=by
 intro M A h;induction h with
 |d=>intro hn;exact absurd V hn
 |cons N p z=>
  rename_i G e r t;intro _ Q H s d st;cases p with
  |d=>
   refine(N _ H s d st).I λa P q S l i f=>?_;refine aH (uD f) λc j f=>?_;exact aO _ (j▸i)<|Bc f (λe f=>e▸f) λ_ f=>f
  |@cons X F I B L p=>
   set_option backward.match.sparseCases true in refine(?_:aQ W cx.A E _ Q (eval e cx.env>>=λv=>gF pos>>=λ_=>iE [v] (sh v)>>=λt=>match op,t with
    |.And,false|.Or,true=>pure v
    |_,_=>boolOp pos op (evalEach (F::B) cx.env)) H s)
   refine(N _ H s d st).C λa P q S l i f=>aQ.z ?_;refine aH (uD f) λc j f=>?_;subst j;refine aQ.C (aQ.y<|zy (K:=λg R=>g=c/\R=q) l.i i ⟨V,V⟩) λg w D T n C x=>?_;refine bp x λy k=>?_;subst C y k;refine Bc f (λo f=>?_) λo f=>?_
   ·have:=z (by simp) Q D T f ((st.nx l).nx n);subst u;induction op using PySem.BoolOp.casesOn<;>induction g using Bool.casesOn<;>first|exact this|(exact absurd o<|by decide)
   ·subst u;induction op using PySem.BoolOp.casesOn<;>induction g using Bool.casesOn<;>first|exact(aQ.F n.i (aT.d n.j _ _ i) f)|(exact absurd V o)
def ED(g:b=(op==.And)):∀{q}{u},c6 (λd e=>ig W cx E m mc d<|fA e cx.env<|eval e cx.env) q u->∀K(H:Hp)(s:bU),
  ie b q (λv H=>(match v with|.e b=>K b H|_=>False)) H->St W cx m mc H s->aQ W cx.A E RB K (allTrue op u cx.env) H s:=by
 intro q u h;induction h with
 |d=>
  intro K H s d st;subst g;exact aQ.F st.ag V d
 |cons x o j=>
  rename_i p e r t;intro K H s d st
  set_option backward.match.sparseCases true in refine(?_:aQ W cx.A E _ K (fA e cx.env (eval e cx.env)>>=λb=>match op,b with
    |.And,false=>pure false
    |.Or,true=>pure true
    |_,_=>allTrue op t cx.env) H s)
  have e:(λ(v:AV)(H:Hp)=>(match v with
   |.e c=>if c=b then(ie b r) (λv H=>(match v with|.e b=>K b H|_=>False)) H else K c H
   |_=>False))=(λv H=>(match v with|.e c=>(if c=b then(ie b r) (λv H=>(match v with|.e b=>K b H|_=>False)) H else K c H)|_=>False)):=V
  refine(x (λc H=>if c=b then(ie b r) (λv H=>(match v with|.e b=>K b H|_=>False)) H else K c H) H s d st).C λc l i w n k a=>?_;subst k;refine Bc a (λf a=>?_) λf a=>?_
  ·have:=j K i w a (st.nx n);subst g;induction op using PySem.BoolOp.casesOn<;>induction c using Bool.casesOn<;>first|exact this|(exact absurd f<|by decide)
  ·subst g;induction op using PySem.BoolOp.casesOn<;>induction c using Bool.casesOn<;>first|exact(aQ.F n.i V a)|(exact absurd V f)
def Jl{E}
  (h:bw M A (qu []) (λv a=>Q ⟨v,[]⟩ a) E s):bw M A (evalArgs f true [] []) Q E s:=by
 refine aN<|cS h (λv a b=>?_) λ_ _ x=>x;refine e5 ?_;exact aN<|br<|aN<|br<|br b
def qc(u:W.y)(g:bu W H s.heap)(y:jW W.K f)(o:dW es=true)
  (j:aQ W A E (x5 W n) Qa (qu<|j1 pos<|iY es env) H s)
  (k:∀C D B z,Nx W H s B z->bk W.T (aU W.fr B) z.heap D C->Qa D B->aQ W A E R Q (call f<|first++C) B z):aQ W A E R Q (kR pos f first (j1 pos<|iY es env) []) H s:=by
 have l:∀w,w.any (·.1)=false->aQ W A E (x5 W n) Qa _ H s->aQ W A E R Q (kR pos f first w []) H s:=λw e j=>by
  refine uY (by simp[e]) (λh X=>y _ h X) ?_;have c:bw (bM W.p W.w) A (qu w) (λC z=>W.K.In z.heap/\bw (bM W.p W.w) A (call f<|first++C) (λv z=>∃b B,Nx W H s B z/\R B z.heap b v/\Q b B) (eG W E H s) z) (eG W E H s) s:=by refine cS j (λC z x=>?_) λ_ _ x=>x;refine cj x λD B d r q=>?_;refine⟨d.i.G u,cS (k C D B z d r.1 q) (λv t x=>?_) λ_ _ x=>x.d d⟩;refine cj x λb m i p F=>?_;exact bQ b m (d.p i) p F
  match w,e with
  |[],_=>exact Jl c
  |(false,x)::a,_=>exact vS c
  |(true,x)::a,e=>simp at e
 refine l _ ?_ j;refine U (jk pos env o) ?_;simp
end
noncomputable def tW(e:Expr):Bool:=gG (bR e).t 10
section
variable {W:Wd}{S:Cx}{E:VK}{m T:ba}{A:di}{H:Hp}{s:bU}
def Jx{b}{o r:bI}{Q:VK}(g:bu W H s.heap)(a:aT W.T (aU W.fr H) s.heap va r)(d:Q va H):aQ W A E (RV W) Q (sm b o r>>=λ_=>pure r) H s:=
 aN (Lf<|br<|bQ va H (.F g) a d)
def Qr(q:W.y){C:Nat}{b:ei}(e:jq W.K<|W.T C)(g:(W.T C).b[i]? =Y nm)(h:mQ x=true)(z:bD W S E m T b<|eval x S.env):
  bD W S E m T (λQ=>b λv=>ov C i v Q) (eval (.Attribute x nm pos) S.env):=λQ H s d p=>by
 have k:eval (.Attribute x nm pos) S.env=(eval x S.env>>=λo=>gF pos.atName>>=λ_=>iE [o] (getAttr o nm true)>>=λr=>sm x o r>>=λ_=>pure r):=by refine(?_:(qA x nm S.env _>>=_)=_);exact U (zE h) V
 refine U k ?_;refine(z _ H s d p).C λa B w D l j t=>aQ.z<|aQ.C (aQ.y<|JD q l.i e g j t) λr u y A n f c=>?_;exact Jx n.i f c
def Pz o i e:cond (tW e) True<|qt e false o i=l6 [o,i] (kN o i):=by induction e using PySem.Expr.casesOn<;>first|exact kW|exact mz<|l6 [o,i] _
def Py o i a b c p:qt (.Slice a b c p) false o i=l6 [i,o] (kN o i)\/qt (.Slice a b c p) false o i=l6 [o,i] (kN o i):=by
 rcases c with _|_;·exact .inl V
 ·exact .inr V
def Px s o i:qt s false o i=l6 [i,o] (kN o i)\/qt s false o i=l6 [o,i] (kN o i):=by
 cases e:tW s with
 |false=>exact .inr<|lH (Pz o i s) e
 |true=>exact U (vw (vn e) (by decide) V)<|Py o i _ _ _ _
def BF{v a:Expr}{o i:bI}{Q:VK}(h:∃T u,s.TypeIs o T/\qr (.type T) "__getitem__"=pure (Y<|.builtin u)/\aQ W A E (RV W) Q (kN o i) H s):
  aQ W A E (RV W) Q (getitemInPython o>>=λp=>qt a p o i>>=λr=>sm v o r>>=λ_=>pure r) H s:=by
 refine cj h λT u d j c=>?_;have b:∀t:Sem bI,aQ W A E (RV W) Q t H s->aQ W A E _ Q (t>>=λr=>sm v o r>>=λ_=>pure r) H s:=λt g=>aQ.C g λr l m w n k e=>Jx n.i k e;have f:aQ W A E (RV W) Q (qt a false o i>>=λr=>sm v o r>>=λ_=>pure r) H s:=by refine b _ ?_;exact bq (Px a o i) (λq=>U q<|aQ.D c) λq=>U q<|aQ.D c
 refine aN ?_;refine U (getitemInPython_of_ne d.not_modules) ?_;exact aN<|wpAny_specialOf d j<|br f
def PV(o:W.y){g f:ei}(c:cZ S.A)(y:bD W S E m T g<|eval x S.env)(j:bD W S E m T f<|eval i S.env):
  bD W S E m T (λQ=>g λw=>f λv=>mM w v Q) (eval (.Subscript x i pos) S.env):=λQ H s d e=>by
 refine U (CZ _ _ _) ?_;refine(y _ H s d e).C λa w k z p l q=>aQ.C (aQ.y<|j _ k z q<|e.nx p) λb t u A n r h=>aQ.z ?_;exact BF<|Ju o n.i c (aT.d n.j _ _ l) r h
noncomputable def Z3:Option ei->ei
 |none=>λQ H=>Q .k H
 |some d=>d
def Fb{lo}{d:Option ei}(h:∀e,lo=Y e->∃c,d=Y c/\bD W S E m T c (eval e S.env))(f:lo=O->d=O):bD W S E m T (Z3 d)<|ym lo S.env:=by
 induction lo using Option.casesOn with
 |none=>exact U (f V)<|λQ H s d g=>aQ.F (b:=.k) g.ag V d
 |some e=>(refine aH (h e V) λc a i=>?_;subst a);exact i
def PX{lo C}{y:ei}(c:cZ S.A)(hx:bD W S E m T dx<|eval x S.env)(I:bD W S E m T y<|ym lo S.env)(N:bD W S E m T dh<|ym C S.env):
  bD W S E m T (λQ=>dx λZ=>y λo=>dh λi=>rk Z o i Q) (eval (.Subscript x (.Slice lo C O p) pos) S.env):=λQ H s d k=>by
 refine U (CZ _ _ _) ?_;refine(hx _ H s d k).C λa Z K s1 B M a0=>aQ.C (R:=λX h(A:Hp×AV×AV)v=>∃j l u,v=.ref j/\A.1=X/\h.IsSliceOf j l u .none/\RV W X h A.2.1 l/\RV W X h A.2.2 u) (Q:=λA X=>rk Z A.2.1 A.2.2 Q X) ?_ λb P D s2 n z f=>aQ.z ?_
 ·refine aQ.y (wpAny_Slice ?_);refine cS (I _ K s1 a0<|k.nx B) (λl s2 x=>?_) λ_ _ x=>x;refine cj x λo D n r f=>?_;refine cS (N _ D s2 f<|(k.nx B).nx n) (λu a1 x=>?_) λ_ _ x=>x.d n;refine cj x λi F q g L=>?_;refine br ?_;have w:=Nx.G q.i {cls:=.type "slice",data:=.fields #[l,u,.none]};exact bQ (F,o,i) F ((n.p q).p w) (pP _ l u V V (MT ..) (aT.d (q.p w).j _ _ r)<|aT.d w.j _ _ g) L
 ·(refine lP z λj l u t e G r g=>?_;clear z;subst t)
  exact BF<|Y9 n.i c (aT.d n.j _ _ M) r g G f
def PY(c:cZ S.A)(D:bD W S E m T dx<|eval x S.env):
  bD W S E m T (λQ=>dx λt=>wM mu t Q) (eval (.Subscript x (.Slice O O (Y<|.UnaryOp .USub (.Constant (.int 1) k p1) p2) p) pos) S.env):=λQ H s d w=>by
 refine U (CZ _ _ _) ?_;refine(D _ H s d w).C λa t o C u q y=>aQ.C (R:=λA h(_:Unit)v=>∃f k,v=.ref f/\h.IsSliceOf f .none .none k/\IsPart k (Y<|-1)) (Q:=λ_ A=>wM mu t Q A) ?_ λb z B F n r i=>aQ.z ?_
 ·refine aQ.y (wpAny_Slice ?_);refine br<|br ?_;refine U (evalPart_some _ _) ?_;refine wpAny_UnaryOp<|?_;refine qp ?_;refine LI ?_;exact bQ () o (Nx.r u.i (h':=C.heap.push {cls:=.type "slice",data:=.fields #[.none,.none,.int (-1) _]}) λ_ _ e=>fC _ e) (bQ _ _ V (MT ..)<|.int _ _) y
 ·(refine cj r λf k g j l=>?_;clear r;subst g)
  exact BF<|Y' n.i c (aT.d n.j _ _ q) l j i
def JC(c:W.u a){F}(i:lV a b F n)(g:bu W H s.heap)(j:Ar W H s.heap A l n)
  (h:bk W.T (aU W.fr H) s.heap vs us) (d:F f vs Q E H):aQ W A E (RV W) Q (call (.ref<|b f) us) H s:=by
 refine qq<|uW (i W c A l H s f vs us Q E d g j h) λr k x=>?_
 match r,x with
 |.ok (.ret v),x=>exact x
 |.error e,x=>exact x
def Qm(o:W.y)(l:W.u cK){F}(t:lV cK c F n)(r:Ro S n)
  (k:S.env.kindOf nm=Y .globalImplicit) (q:(nm==("__debug__"))=false) (u:nsIn W.K d9 nm=Y (Y<|.ref<|c f)) (b:js W.K (.ref<|c f)=true)
  (h:c6 (λd e=>bD W S E m T d<|eval e S.env) ds es) (g:dW es=true):
  bD W S E m T (λQ=>eL ds λv=>F f v Q E) (eval (.Call (.Name nm p) es [] pos) S.env):=λQ H s d a=>by
 refine aN<|ud o r.a a.ag k q u ?_;refine qc o a.ag (.d b) g (lB h g _ H s d a) λy v z x i j w=>?_;exact JC l t i.i (r.e<|a.nx i) j w
def P5(o:W.y)(q:W.u b){F}(z:lV b i F n)(c:Ro S n){I:Bool}
  (w:S.env.kindOf nm=Y .globalImplicit) (y:(nm==("__debug__"))=false) (B:nsIn W.K d9 nm=Y (Y<|.ref (W.T C).a)) (g:js W.K (.ref (W.T C).a)=true)
  (l:makesIn W.K (W.T C).a=true) (u:fb W.K (.ref (W.T C).a) "__init__"=Y (Y<|.ref<|i<|gS C)) (x:l4 W.K (.ref<|i<|gS C)=Y (.type "function"))
  (h:c6 (λd e=>bD W S E m T d<|eval e S.env) ds es) (j:dW es=true):
  bD W S E m T (λQ=>eL ds λA H=>∀a D,H a=aY->
   F (gS C) (.f a::A) (λr v=>(match r with|.k=>(if I then Q (.f a) v else kA (.f a) Q v)|_=>False)) E (H.ag a (.bF C D []))) (eval (.Call (.Name nm p) es [] pos) S.env):=λQ H s d f=>by
 refine aN<|ud o c.a f.ag w y B ?_;refine qc o f.ag (.d g) j (lB h j _ H s d f) λL A v K k t G=>?_;exact Ze o q z k.i c.c c.a.b c.a.i (c.e<|f.nx k).d l u x t G
def Qq(o:W.y)(j:S.f)(c:cZ S.A)
  (l:S.env.kindOf nm=Y .globalImplicit) (q:(nm==("__debug__"))=false) (r:nsIn W.K d9 nm=Y O) (k:gX nm=Y (qf op)) (b:nm≠"__name__") (a:qf op≠.none)
  (h:c6 (λd e=>bD W S E m T d<|eval e S.env) ds es) (g:dW es=true):
  bD W S E m T (λQ=>eL ds λv=>gC op v Q) (eval (.Call (.Name nm p) es [] pos) S.env):=λQ H s d f=>by
 refine aN<|mU o j f.ag l q r k b ?_;have n:jW W.K<|qf op:=by induction op using bc.Bi.casesOn<;>first|exact .b|exact .c|exact absurd V a
 refine qc o f.ag n g (lB h g _ H s d f) λx v y w u i t=>?_;exact Zi o u.i c a i t
def GK(c:mQ o=true)(h:dW es=true)(d:es.length<30)(g:qi.endLine=pos.line):
  eval (.Call (.Attribute o name qi) es [] pos) env=(eval o env>>=λb=>gF qi.atName>>=λ_=>iE [b] (getMethod b name (do return(<-importBound o env).getD true))>>=λf=>kR pos f.1 f.2 (j1 pos<|iY es env) []):=by
 refine(?_:(qA o name env _>>=λb=>gF qi.atName>>=λ_=>methodCall o name qi pos env b _ _ [])=_);refine U (zE c) ?_;have e:methodCallForm (es.length+0) (j1 pos<|iY es env) []=true:=by unfold methodCallForm;refine U (jk pos env h) ?_;simp;exact aW [_] (.a (.v 0)<|.n 1) (.n 30) [(.a (.v 0)<|.n 1,.n 30)] V d
 unfold methodCall calleeOf;refine U e ?_;simp only[if_true,(by unfold methodCallPos;simp[g]:methodCallPos true o env qi pos=pure pos),pure_bind]
def P7(q:W.y)(w:W.u cK){F}(D:lV cK b F n)(u:Ro S n)
  (z:jq W.K<|W.T C) (g:nm∉(W.T C).b) (B:fb W.K (.ref (W.T C).a) nm=Y (Y<|.ref<|b f)) (y:l4 W.K (.ref<|b f)=Y (.type "function")) (j:js W.K (.ref<|b f)=true)
  (l:mQ o=true) (G:es.length<30) (I:qi.endLine=pos.line)
  (M:bD W S E m T dx<|eval o S.env) (h:c6 (λd e=>bD W S E m T d<|eval e S.env) ds es) (i:dW es=true):
  bD W S E m T (λQ=>dx λo H=>lR H o=Y C/\eL ds (λK=>F f (o::K) Q E) H) (eval (.Call (.Attribute o nm qi) es [] pos) S.env):=λQ H s d p=>by
 refine U (GK l i G I) ?_;refine(M _ H s d p).C λa N A L c r t=>aQ.z ?_;refine aN<|e5<|UP q c.i z g B y r t.1 ?_;refine qc q c.i (.d j) i (lB h i _ A L t.2<|p.nx c) λP K X R k x v=>?_;exact JC w D k.i (u.e<|(p.nx c).nx k) (bk.q (aT.d k.j _ _ r) x) v
end
section
variable {W:Wd}{K:Cx}{E:VK}{m mc:ba}{A:di}{H:Hp}{s:bU}
def acs(g:bu W H s.heap)(r:aT W.T (aU W.fr H) s.heap va a)(h:∃d l,va=.f d/\H d=Y (.b l)):∃l i n,a=.ref l/\s.heap.get? l=Y {cls:=.type "list",data:=.seq i n}:=
 fY h λx v b e=>aH (g.z.M _ _ e) λi z _=>aF z λn p=>je x i n (b▸r:aT _ _ _ (.f x) a) p
def acu(g:bu W H s.heap)(r:aT W.T (aU W.fr H) s.heap va a)(m:∃d,va=.f d/\((∃f n,H d=Y (.c f n))\/∃f n,H d=Y (.e f n))):∃d o,a=.ref d/\s.heap.get? d=Y o/\o.cls=.type "dict"/\o.dict=O:=by
 refine aH m λx t e=>?_;have b:s.TypeIs (.ref x) "dict"->(∀y,kU x=.ref y->∃o,s.heap.get? y=Y o/\o.dict=O)->∃d o,a=.ref d/\s.heap.get? d=Y o/\o.cls=.type "dict"/\o.dict=O:=λp u=>
  aH p λo l q=>aH (u x V) λv i c=>eX x o ((t▸r:aT _ _ _ (.f x) a)) l q<|bz (i.symm.trans l)▸c
 exact bq e (λz=>gR z λf n e=>aH (g.z.M _ _ e) λk h _=>b h.typeIs h.mapOf.noDict) λj=>gR j λf n e=>aH (g.z.M _ _ e) λk h _=>b h.typeIs h.mapOf.noDict
def acv(r:aT W.T (aU W.fr H) s.heap va a)(h:∃b,va=.d b):∃b t,a=.bytes b t:=
 Nj h λb c=>aH (c▸r) λt e _=>pQ _ t e
def aa2{T i}(h:kt op=Y (T,nm,i)):PlainAttrs T/\Slot T (j3 nm) i/\oI (.builtin i)=pure (.type "method_descriptor"):=by
 induction op using bc.Bi.casesOn<;>simp only[kt,LN,LM,reduceCtorEq]at h<;>(refine dN h λb e a=>?_;clear h;subst b;subst e;subst a)
 ·exact bW yY M5 F.type_list_append
 ·exact bW yY M4 F.type_list_extend
 ·exact bW yY M3 F.type_list_pop
 ·exact bW yY M1 F.type_list_reverse
 ·exact bW Nb M8 F.type_dict_get
 ·exact bW Nb DU F.type_dict_setdefault
 ·exact bW sX B.E2 B.OO
 ·exact bW sX B.E0 B.OM
 ·exact bW sX B.EX B.OJ
 ·exact bW sX B.EZ B.OL
 ·exact bW sX B.E1 B.ON
 ·exact bW sX B.EY B.OK
def aa1(g:bu W H s.heap){T w}(i:kt op=Y (T,nm,w))(r:aT W.T (aU W.fr H) s.heap va a)(h:jF op H va):
  s.TypeIs a T/\∀x,a=.ref x->∃o,s.heap.get? x=Y o/\o.dict=O:=by
 have l:(∃d l,va=.f d/\H d=Y _)->s.TypeIs a "list"/\∀x,a=.ref x->∃o,s.heap.get? x=Y o/\o.dict=O:=λh=>by
  (refine gA (acs g r h) λl v n c m=>?_;subst c)
  exact⟨aO _ m V,λx e=>by(have e:=u0 e;subst e);exact aO _ m V⟩
 have d:(∃d,va=.f d/\((∃f n,H d=Y _)\/∃f n,H d=Y _))->s.TypeIs a "dict"/\∀x,a=.ref x->∃o,s.heap.get? x=Y o/\o.dict=O:=λh=>by
  (refine eh (acu g r h) λd o c p u q=>?_;subst c)
  exact⟨aO _ p u,λx e=>by(have e:=u0 e;subst e);exact aO _ p q⟩
 have b:(∃b,va=.d b)->s.TypeIs a "bytes"/\∀x,a=.ref x->∃o,s.heap.get? x=Y o/\o.dict=O:=λh=>by
  (refine gR (acv r h) λb t c=>?_;subst c)
  exact⟨iD s b t,λx e=>by cases e⟩
 induction op using bc.Bi.casesOn<;>simp only[kt,LN,LM,reduceCtorEq]at i<;>(refine dN i λc j k=>?_;clear i;subst c;subst j;subst k)<;>first|exact l h|exact d h|exact b h
def U8(g:bu W H s.heap){T j}(b:kt op=Y (T,nm,j)){E}
  (r:aT W.T (aU W.fr H) s.heap va a) (d:jF op H va) (h:Q (.builtin j,[a]) s):bw (bM W.p W.w) A (getMethod a (j3 nm) p) Q E s:=by
 refine dN (aa2 b) λf c e=>?_;refine bp (aa1 g b r d) λt i=>?_;exact getMethod_builtin t f c e i h
def Zl(o:W.y)(g:bu W H s.heap)(c:cZ A){T i}(h:kt op=Y (T,nm,i))
  (r:bk W.T (aU W.fr H) s.heap vs us) (d:gC op vs Q H):aQ W A E (RV W) Q (call (.builtin i) us) H s:=by
 by_cases a:T="bytes";·subst a;exact Zk o g c h r d
 ·exact Zg o g c h a r d
def Qo(l:W.y)(c:cZ K.A){T B}(f:kt op=Y (T,nm,B))(g:mQ o=true)(w:es.length<30)(t:b.endLine=pos.line)
  (C:bD W K E m mc k<|eval o K.env) (h:c6 (λd e=>bD W K E m mc d<|eval e K.env) ds es) (i:dW es=true):
  bD W K E m mc (λQ=>k λo H=>jF op H o/\eL ds (λz=>gC op (o::z) Q) H) (eval (.Call (.Attribute o (j3 nm) b) es [] pos) K.env):=λQ H s d p=>by
 refine U (GK g i w t) ?_;refine(C _ H s d p).C λa F u A n r j=>aQ.z ?_;refine aN<|e5<|U8 n.i f r j.1 ?_;refine qc l n.i .b i (lB h i _ u A j.2<|p.nx n) λG z y D q x v=>?_;exact Zl l q.i c f (bk.q (aT.d q.j _ _ r) x) v
noncomputable def xN(v:AV)(c:Const):Bool:=match v with
 |.k=>decide (c=.none)
 |.e b=>decide (c=.bool b)
 |.c i=>decide (c=.int i)
 |.m x=>decide (c=.str x)
 |.d b=>decide (c=.bytes b)&&decide (b.length<=1000)
 |_=>false
def Qj(h:xN v c=true):bD W K E m mc (λQ H=>Q v H)<|eval (.Constant c k pos) K.env:=λQ H s d a=>by
 refine(?_:aQ W K.A E _ Q (constValue K.env c) H s);induction v using bc.AV.casesOn with
 |k=>exact of_decide_eq_true h▸aQ.F (b:=.k) a.ag V d
 |e b=>exact of_decide_eq_true h▸aQ.F (b:=.e b) a.ag V d
 |c i=>exact of_decide_eq_true h▸qp (dU a.ag iQ d)
 |m x=>
  refine of_decide_eq_true h▸?_;exact λ_ _ _=>dU (r:=.m x) a.ag ⟨_,V⟩ d
 |d b=>
  refine bp (ef.mp h) λe f=>of_decide_eq_true e▸?_;exact λ_ _ _=>dU (r:=.d b) a.ag (aO _ V<|aE (of_decide_eq_true f)<|by decide) d
 |_=>exact aV h
def Qc(o:W.y)(e:K.f)(g:K.env.kindOf nm=Y .globalImplicit)(c:(nm==("__debug__"))=false)
  (f:nsIn W.K d9 nm=Y (Y<|.bytes b.toArray t)) (h:b.length<=1000):bD W K E m mc (λQ H=>Q (.d b) H) (eval (.Name nm p) K.env):=λQ H s d a=>by
 refine ud o e a.ag g c f ?_;exact fv (r:=.d b) a.ag (aO _ V<|U eJ<|aW [_] (.v 0) (.n 1048576) [(.v 0,.n 1000)] V h) d
def Fc(o:W.y)(F:K.f){T w}
  (g:(op=.w/\k=.type "bytes")\/(op=.v/\k=.type "str"))
  (a0:K.env.kindOf w=Y .globalImplicit) (I:(w==("__debug__"))=false) (a1:nsIn W.K d9 w=Y O) (N:gX w=Y (.builtin "isinstance")) (j:w≠"__name__")
  (i:K.env.kindOf T=Y .globalImplicit) (r:(T==("__debug__"))=false) (z:nsIn W.K d9 T=Y O) (l:gX T=Y k) (c:T≠"__name__")
  (hx:bD W K E m mc dx<|eval x K.env) (D:dW [x,.Name T p2]=true):
  bD W K E m mc (λQ=>dx λv=>gC op [v] Q) (eval (.Call (.Name w p) [x,.Name T p2] [] pos) K.env):=λQ H s d G=>by
 refine(?_:aQ W K.A E _ Q (eval _ K.env>>=λv=>kR pos v [] _ []) H s);refine aN<|mU o F G.ag a0 I a1 N j ?_;refine uY (P:=λh=>W.K.In h) (by refine U (jk pos K.env D) ?_;rfl) (λh X=>jW.b _ h X) ?_;refine U (jk pos K.env D) ?_;refine vS<|ph ?_;refine cS (hx _ H s d G) (λv Z y=>?_) λ_ _ y=>y;refine cj y λva M n B C=>?_;refine ph<|mU o F n.i i r z l c<|vR ⟨n.i.G o,?_⟩;have a:∀{t},aQ W K.A E _ Q t M Z->bw _ K.A t (λv s'=>∃b A,Nx W H s A s'/\RV W A s'.heap b v/\Q b A) _ Z:=λR=>
  cS R (λv L x=>by exact cj x λb u f S q'=>bQ b u (n.p f) S q') λ_ _ x=>x.d n
 rcases g with⟨rfl,rfl⟩|⟨rfl,rfl⟩;·exact aH C λb e q=>a<|(BG (b:=b) o n.i<|(i3 e).1▸B).1 q
 ·exact aH C λb e q=>a<|(BG (b:=b) o n.i<|(i3 e).1▸B).2.1 q
def Qb(o:W.y)(F:K.f)
  (T:K.env.kindOf nm=Y .globalImplicit) (S:(nm==("__debug__"))=false) (a1:nsIn W.K d9 nm=Y O) (a2:gX nm=Y (.builtin "isinstance")) (z:nm≠"__name__")
  (l:K.env.kindOf T1=Y .globalImplicit) (C:(T1==("__debug__"))=false) (G:nsIn W.K d9 T1=Y O) (B:gX T1=Y (.type "bytes")) (c:T1≠"__name__")
  (I:K.env.kindOf T2=Y .globalImplicit) (r:(T2==("__debug__"))=false) (u:nsIn W.K d9 T2=Y O) (j:gX T2=Y (.type "str")) (f:T2≠"__name__")
  (hx:bD W K E m mc dx<|eval x K.env) (a0:dW [x,.Tuple [.Name T1 p2,.Name T2 p3] k p4]=true):
  bD W K E m mc (λQ=>dx λv=>gC .p [v] Q) (eval (.Call (.Name nm p) [x,.Tuple [.Name T1 p2,.Name T2 p3] k p4] [] pos) K.env):=λQ H s d M=>by
 refine(?_:aQ W K.A E _ Q (eval _ K.env>>=λv=>kR pos v [] _ []) H s);refine aN<|mU o F M.ag T S a1 a2 z ?_;refine uY (P:=λh=>W.K.In h) (by refine U (jk pos K.env a0) ?_;rfl) (λh X=>jW.b _ h X) ?_;refine U (jk pos K.env a0) ?_;refine vS<|ph ?_;refine cS (hx _ H s d M) (λv s1 y=>?_) λ_ _ y=>y;refine cj y λva L g N a3=>?_;refine ph ?_;refine wpAny_Tuple ?_;refine U (jk p4 K.env V) ?_;refine ph<|mU o F g.i l C G B c<|ph<|mU o F g.i I r u j f<|vR ⟨by decide,vR ?_⟩;have n:=Nx.G g.i {cls:=.type "tuple",data:=.seq #[.type "bytes",.type "str"]};refine⟨n.i.G o,?_⟩;have a:∀{t}{w},Nx W H s L w->aQ W K.A E _ Q t L w->bw _ K.A t (λv s'=>∃b A,Nx W H s A s'/\RV W A s'.heap b v/\Q b A) (eG W E H s) w:=λn Z=>
  cS Z (λv a4 x=>by exact cj x λb D i R q'=>bQ b D (n.p i) R q') λ_ _ x=>x.d n
 exact aH a3 λb e q=>a (g.p n)<|(BG o n.i<|(i3 e).1▸aT.d n.j _ _ N).2.2 _ (kb _ V) q
end
end bc
end
section
set_option backward.match.sparseCases false
open PySem PySem.W PyProof.Rows PySem.SeqAt PySem.MeetsSeq
namespace bc
namespace B
def PM:Slot "bytes" "__repr__" "bytes.__repr__":=
 .of (owner:="bytes") (n:="__repr__") (by refine U (oJ _ _)<|U oM ?_;kernel_rfl) (by decide+kernel) (by decide+kernel) (by decide+kernel)
  (by first|exact .inl (by decide+kernel)|exact .inr<|by decide+kernel) (by refine U (nw _ _) ?_;kernel_rfl)
def Y5:qz table "bytes.__repr__"=Y Builtin.«bytes.__repr__»:=qy<|by kernel_rfl
def acD a:qB "bytes.__repr__" ⟨[a],[]⟩:=by refine U (qw (id:="bytes.__repr__") (n:=['_','_','r','p','e','r','_','_']) (by kernel_rfl) qR) ?_;kernel_rfl
def Xh b t(h:4*b.size+3<=jY):Gives (Builtin.«bytes.__repr__» ⟨[.bytes b t],[]⟩)<|.str<|y3 b:=by
 have e:D0 b=pure (y3 b):=by
  unfold D0;have:NF (4*b.size+3+0)=false:=by simp[NF];exact aW [_,_] (.a (.m 4<|.v 0)<|.n 3) (.v 1) [(.a (.m 4<|.v 0)<|.n 3,.v 1)] V h
  refine U this ?_;rfl
 refine(?_:Gives (D0 b>>=λx=>retStr x) _);refine U e ?_;exact .of_eq V
def QQ(f:Nat->Array Nat)(h:∀c,(f c).size<=4)(l:List UInt8):∀b,(l.foldl (λb c=>b++f c.toNat) b).size<=b.size+4*l.length:=by
 induction l with
 |nil=>intro b;simp
 |cons c r i=>
  intro b;refine U sP ?_;refine aE (i _) ?_;have:=h c.toNat;simp;exact aW [_,_,_] (.a (.a (.v 0)<|.v 1)<|.m 4<|.v 2) (.a (.v 0)<|.m 4<|.a (.v 2)<|.n 1) [(.v 1,.n 4)] V this
def Ve b:(y3 b).length<=4*b.size+3:=by
 refine(?_:(Array.push _ _).size<=_);refine U (Array.size_push _)<|aP (NT _) ?_;have:=QQ (λc=>if(c==(if false=true then 39 else(if b.contains 39&&!b.contains 34 then 34 else 39))||c==92)=true then#[92,c]
  else if(c==9)=true then#[92,116]
  else if(c==10)=true then#[92,110]
  else if(c==13)=true then#[92,114]
  else if(c<32||c>=127)=true then#[92,120,(if c/16<10 then 48+c/16 else 87+c/16),(if c%16<10 then 48+c%16 else 87+c%16)]
  else#[c]) (λc=>by
   repeat' split
   all_goals simp) b.toList #[98,(if b.contains 39&&!b.contains 34 then 34 else 39)]
 refine c7<|aE this ?_;simp;exact aW [_] (.a (.n 2)<|.m 4<|.v 0) (.a (.m 4<|.v 0)<|.n 2) [] V
end B
section
variable {W:Wd}{cx:Cx}{E:VK}{m mc:ba}{A:di}{H:Hp}{s:bU}
noncomputable def zW:AV->Str
 |.c i=>j3<|toString i
 |.d b=>y3 b.toArray
 |_=>default
def Za(g:bu W H s.heap)(j:aT W.T (aU W.fr H) s.heap va a)(o:kh va)
  (d:Q (.m<|zW va) H):aQ W A E (RV W) Q (call (.builtin "repr") [a]) H s:=by
 induction va using bc.AV.casesOn with
 |c i=>
  (refine aF j λt f=>?_;clear j;subst f)
  refine PySem.P.repr_of_int ?_<|dU (r:=.m _) g ⟨_,V⟩ d;have:ix.natAbs=1099511627776:=by decide
  refine bq (nH i.natAbs) (λh=>?_) λh=>?_;·refine U h ?_;decide
  ·have:=(Nat.log2_lt<|by exact λz=>aJ [_] [] [.l 1 (.c<|.a (.n 0) aX) af,.e 1 af<|.c<|.n 0] V (nl h)<|nE z).mpr (show i.natAbs<2^41 by exact b8 λz=>aJ [_,_] [] [.l 1 (.c<|.a bo aX) aG,.e 1 aG<|.c<|.n 1099511627776,.l 1 (.c<|.a (.n 2199023255552) aX)<|.c<|.a bo aX] V (nl o) (nE this) z);exact aW [_] (.a (.v 0)<|.n 1) (.n 1920) [(.a (.v 0)<|.n 1,.n 41)] V this
 |d b=>
  (refine aH j λt f q=>?_;clear j;subst f)
  have p:4*b.toArray.size+3<=jY:=by simp;exact b8 λz=>aJ [_,_,_] [] [.l 4 af aG,.e 4 aG<|.c<|.n 1048576,.e (-1) bf<|.c<|.n 16777216,.l 1 (.c<|.a bA aX)<|.c<|.a (.m 4 bo)<|.n 3] V (nl q) (nE eJ) (nE fT) z
  exact call_repr_gives (iD s _ t) B.PM B.Y5 (B.acD _) (B.Xh _ t p) (dU (r:=.m _) g ⟨_,V⟩ d) (hx:=aE (B.Ve _) p)
 |_=>exact(o).elim
def Qe(I:W.y)(a2:cx.f)(c:cZ cx.A){K}{p1 p2 p3 p pos}{x y}{g F}
  (a1:cx.env.kindOf K=Y .globalImplicit) (L:(K==("__debug__"))=false) (S:nsIn W.K d9 K=Y O) (Z:gX K=Y (.builtin "repr")) (B:K≠"__name__")
  (hx:bD W cx E m mc g<|eval x cx.env) (P:bD W cx E m mc F<|eval y cx.env) (l:dW [x]=true) (z:dW [y]=true):
  bD W cx E m mc (λQ=>g λA H=>kh A/\F (λk H=>kh k/\A=k/\Q (.e true) H) H)
   (eval (.Compare (.Call (.Name K p1) [x] [] p2) [.Eq] [.Call (.Name K p3) [y] [] p] pos) cx.env):=λQ H s d j=>by
 have o:∀{x}{g}{p1 p2},dW [x]=true->bD W cx E m mc g _->∀Q H s,g (λA H=>kh A/\Q A H) H->St W cx m mc H s->
   aQ W cx.A E (λH h A v=>∃t,v=.str (zW A) t) Q (eval (.Call (.Name K p1) [x] [] p2) cx.env) H s:=λ{x g p1 p2}l hx Q H s d j=>by
  refine(?_:aQ W cx.A E _ Q (eval (.Name K p1) cx.env>>=λv=>kR p2 v [] (j1 p2<|iY [x] cx.env) []) H s);refine aN<|mU I a2 j.ag a1 L S Z B ?_;have e:(λv H=>∃A,[v]=[A]/\kh A/\Q A H)=(λA H=>kh A/\Q A H):=by funext v H';exact propext ⟨λX=>aH X λA e h=>by cases e;exact h,λh=>aO v V h⟩
  have N:aQ W cx.A E _ (λvs H=>∃A,vs=[A]/\kh A/\Q A H) (qu<|j1 p2<|iY [x] cx.env) H s:=
   lB (pos:=p2) (c6.cons hx .d) l _ H s (by refine(?_:g (λv H=>∃A,[v]=[A]/\kh A/\Q A H) H);refine U e<|d) j
  have h:aQ W cx.A E (RV W) (λr H'=>∃A,r=.m (zW A)/\Q A H') (kR p2 _ [] _ []) H s:=
   qc I j.ag .b l N λus vs H' s' a4 i G=>by
     (refine cw G λA f a0 q=>?_;clear G;subst f)
     match us,i with
     |[u],i=>exact Za a4.i i.1 a0<|aO A V q
     |[],i=>exact i.elim
     |_::_::_,i=>exact i.2.elim
  exact cS h (λv s' y=>by
   (refine xA y λb H' n r A f q=>?_;subst f)
   exact(bQ A H' n r q)) λ_ _ y=>y
 refine U (V:eval _ cx.env=(eval (.Call (.Name K p1) [x] [] p2) cx.env>>=λa=>iE [a] (eval (.Call (.Name K p3) [y] [] p) cx.env)>>=λb=>gF pos>>=λ_=>l6 [a,b]<|kO .Eq a b)) ?_;refine(o l hx _ H s d j).C λa A R s1 M C T=>aQ.C (aQ.y<|o z P (λk H=>A=k/\Q (.e true) H) R s1 T<|j.nx M) λb k H2 s2 a3 D w=>?_
 (refine aF C λt f=>?_;clear C;subst f)
 (refine aF D λu f=>?_;clear D;subst f)
 obtain⟨rfl,w⟩:=w;exact aQ.z<|aQ.D<|LK<|by rw[beq_self_eq_true];exact fv a3.i eW w
def PZ(c:cZ cx.A)(hx:bD W cx E m mc dx<|eval x cx.env)(a5:bD W cx E m mc dn<|eval n cx.env)(X:dW [x]=true):
  bD W cx E m mc (λQ=>dx λv=>dn λk H=>(match k with
   |.c k=>0<=k/\iR mu (dC k.toNat v) Q H
   |_=>False)) (eval (.BinOp (.List [x] p) .Mult n pos) cx.env):=λQ H s d N=>by
 refine(?_:aQ W cx.A E (RV W) Q (eval (.List [x] p) cx.env>>=λa=>iE [a] (eval n cx.env)>>=λb=>gF pos>>=λ_=>l6 [a,b]<|binaryOp .Mult a b) H s);refine aQ.C (R:=λH' h vs v=>∃l items,v=.ref l/\¬aU W.fr H' l/\h.PlainList l items/\bk W.T (aU W.fr H') h [vs] items.toList) (Q:=λv=>dn λk H=>(match k with
   |.c k=>0<=k/\iR mu (dC k.toNat v) Q H
   |_=>False)) ?_ λa va C s1 r w D=>?_
 ·refine wpAny_List<|U (jk p cx.env X) ?_;refine ph<|cS (hx _ H s d N) (λv s1 y=>vR ⟨by refine U fT ?_;simp,?_⟩) λ_ _ y=>y;refine cj y λva C r w D=>?_;have q:=Nx.G r.i {cls:=.type "list",data:=.seq #[v]};exact bQ va C (r.p q) (eX _ _ V r.i.L ⟨_,kb _ V⟩<|bk.q (aT.d q.j _ _ w)<|trivial) D
 ·(refine eh w λl items j K B a8=>?_;clear w;subst j)
  refine aQ.C (aQ.y<|a5 _ C s1 D<|N.nx r) λb vb Z s2 q M o=>?_;refine aH (IC o) λk S o=>?_;subst S;refine bp o λa6 o=>?_
  (refine aF M λt j=>?_;clear M;subst j)
  have a9:k.toNat<=sz:=by simpa using o.1
  refine aF (q.j.u K B) λL f=>?_;have g:=bk.d q.j _ _ a8
  match hi:items.toList,g with
  |[u],g=>
   have e:items=#[u]:=aP (NN (xs:=items))<|U hi V;subst e;refine aQ.z<|aQ.D ?_;refine wpAny_binaryOp_repeat_ref (T:="list") (U:="int") (by decide) (aO _ f V) (λs'=>typeIs_int s' k t) noFill_list_mul F.fills_int_mul M6 repeat_list M7.lookup
    (kQ M6 (typeIs_int _ k t) F.entry_int_rmul (F.args_int_rmul_2 _ _) (int___rmul___int_list k t l #[u] L)
     (e8 f V (aO _ f V) (kQ F.slot_list_mul (aO _ f V) F.entry_list_mul (F.args_list_mul_2 _ _)
      (AutoListH.list___mul___list_int_3 l #[u] L k t (by simp[DZ];exact i5 (b9 λz=>aJ [] [_] [.l 1 bJ aI,.l 1 (.a aI aM)<|.n _] V a6 z)<|fR λz=>aJ [_,_] [_] [.e 1 af<|.c<|.n 1048576,.l 1 aG af,.l 1 (.n 9223372036854775808) aI,.l 1 aI aG] V (nE eJ) (nl a9) z<|vP<|k) (by simp;exact b9 λz=>aJ [_,_] [_] [.e 1 af<|.c<|.n 1048576,.l 1 aG af,.l 1 (.a (.n 1152921504606846975) aM) aI,.l 1 aI aG] V (nE eJ) (nl a9) z<|vP<|k)<|by simp[ND,jY];exact b9 λz=>aJ [_,_] [_] [.e 1 af<|.c<|.n 1048576,.l 1 aG af,.l 1 (.a (.n 16777216) aM) aI,.l 1 aI aG] V (nE eJ) (nl a9) z<|vP<|k)
      ⟨f,?_⟩)))
   have e:∀n,List.foldl (λG I=>G++I) #[] (dC n #[u])=(dC n u).toArray:=λn=>by
    have:∀n i,List.foldl (λG I=>G++I) i (dC n #[u])=i++(dC n u).toArray:=λn=>by
     induction n with
     |zero=>intro i;rfl
     |succ n P=>intro i;refine U Mb<|U sP<|U (P _)<|U Mb ?_;apply vY.mp;simp
    simpa using this n #[]
   refine U (V:(#[u]).isEmpty=false) ?_;simp only[y4,if_false,e];exact ue q.i (bk.z g.1 k.toNat) o
  |[],g=>exact g.elim
  |_::_::_,g=>exact g.2.elim
end
end bc
end
section
set_option backward.match.sparseCases false
open PySem PySem.W PyProof.Rows PySem.SeqAt PySem.MeetsSeq
namespace bc
section
variable {W:Wd}{T:Cx}{E:VK}{m X:ba}{A:di}{H:Hp}{s:bU}
def Hp.aD(H:Hp)a o b:(H.ag a o).ag a b=H.ag a b:=by funext x;unfold Hp.ag;split<;>rfl
def SP{h:Heap}k:gE W.T W.p W.w o (h.push {cls:=.type "dict",data:=.dict #[]}) h.objs.size<|kD k:=by
 induction k using bc.DK.casesOn with
 |i=>exact(cq [] (MU h) (bN _) λk=>V)
 |s=>exact(cq [] (MU h) (bN _) λk=>V)
 |k=>exact(jH [] (adq h) (bN _) (λ_ h=>(dM h).elim) λk=>V)
def wY(g:bu W H s.heap)k:Nx W H s (H.ag s.heap.objs.size<|kD k) {s with heap:=s.heap.push {cls:=.type "dict",data:=.dict #[]},toks:=t}:=
 Nx.M g (λa=>by induction k using bc.DK.casesOn<;>rfl) λ_=>SP k
noncomputable def uw(k:DK)(c:List AV)(d:List ei):ei:=λQ H=>∀a,H a=aY->eL d (λv b=>b a=Y (kD k)/\(match mR k c v with
   |some o=>Q (.f a)<|b.ag a o
   |aY=>False)) (H.ag a (kD k))
def ZD{F}{k}{b}{x}:den F E m X (.B k b x)=uw k b (x.map<|den F E m X):=
 congrArg (λ(D:(List AV->Hp->Prop)->Hp->Prop)(Q:VK)(H:Hp)=>∀a,H a=aY->D (λv c=>c a=Y (kD k)/\(match mR k b v with
   |some o=>Q (.f a)<|c.ag a o
   |aY=>False)) (H.ag a (kD k))) (lQ x)
def Qh(h:k≠.s):bD W T E m X (uw k [] [])<|eval (.Dict [] [] pos) T.env:=λQ H s d a=>by
 have d:=(d s.heap.objs.size a.ag.X).2;refine wpAny_Dict_empty<|bQ (.f s.heap.objs.size) _ (wY a.ag k) V ?_;induction k using bc.DK.casesOn with
 |i=>
  have d:Q _<|(H.ag s.heap.objs.size _).ag s.heap.objs.size<|.c (λx=>([].zip []).lookup x) 0:=d;rw[Hp.aD]at d;exact d
 |s=>exact absurd V h
 |k=>
  have d:Q _ _:=d;rw[Hp.aD]at d;exact d
def Vd{i k:Int}{v:AV}:([i].zip [v]).lookup k=if k=i then Y v else O:=by
 refine(?_:(match k==i with|true=>Y v|false=>O)=_);by_cases h:k=i;·exact U (if_pos h)<|U h<|U (beq_self_eq_true i) V
 ·exact U (if_neg h)<|U (beq_eq_false_iff_ne.mpr h) V
def VS{κ α:Type}[DecidableEq κ]{a b x:κ}{p q r:α}(h:a≠b):(if x=a then p else if x=b then q else r)=if x=b then q else if x=a then p else r:=
 (mA _).elim (λe=>U (if_pos e)<|U (if_neg λd=>h<|e.symm.trans d)<|U (if_pos e) V) λe=>U (if_neg e)<|U (if_neg e) V
def Qg(D:bD W T E m X dv<|eval v T.env):bD W T E m X (uw .i [.c i] [dv])<|eval (.Dict [Y<|.Constant (.int i) k0 p0] [v] pos) T.env:=λQ H s d c=>by
 refine Lk (knd:=ny W.p W.w) (pairs:=[(eval (.Constant (.int i) k0 p0) T.env,do let x<-eval v T.env;gF pos;pure x)]) V (by simp) (by simp) ?_;have G:=wY (t:=s.toks) c.ag .i;refine aN<|qp ?_;refine aN<|e5<|aN ?_;have l:Nx W H s _ {s with heap:=s.heap.push {cls:=.type "dict",data:=.dict #[]},toks:=s.toks+1}:=wY c.ag .i;refine cS (D _ _ _ (d s.heap.objs.size c.ag.X)<|c.nx l) (λu w y=>?_) λ_ _ y=>y.d l;refine eh y λb z n A a p=>?_;refine aN<|eN<|br<|aN<|e5<|br<|br ?_;refine cw (n.i.z.M _ _ a) λj C h _=>?_;have:j=[]:=Mu<|by simpa using h
 subst this;refine(cq [(i,u)] (bW (by simp[ny,bI.isInt]) V trivial) C λI q B=>?_);have e:mR .i [.c i] [b]=Y (.c (λx=>([i].zip [b]).lookup x) 1):=by refine(?_:(if([i].length=[b].length/\[i].length<=1)then Y _ else aY)=_);exact if_pos ⟨V,bN _⟩
 rw[e]at p;have F:Nx W z w (z.ag s.heap.objs.size<|.c (λx=>([i].zip [b]).lookup x) 1) {w with heap:=I,toks:=w.toks+1}:=
  Nx.D n.i a V V B (let⟨o,_,_,ho,_⟩:=q;⟨o,ho⟩) λg=>(cq _ q (bN 1) λk=>.c Vd<|tM (f:=λ_=>O) (λ_ _ r=>r) (A.d g) (qU [] i u) (λ_=>V) k)
 exact bQ (.f _) _ ((l.p n).p F) V p
def Qf(h:a≠b)(R:bD W T E m X dv<|eval v T.env)(S:bD W T E m X dw<|eval w T.env):
  bD W T E m X (uw .s [.m a,.m b] [dv,dw]) (eval (.Dict [Y<|.Constant (.str a) k0 p0,Y<|.Constant (.str b) k1 p1] [v,w] pos) T.env):=λQ H s d t=>by
 refine Lk (knd:=oO W.p W.w) (pairs:=[(eval (.Constant (.str a) k0 p0) T.env,do let x<-eval v T.env;gF pos;pure x),(eval (.Constant (.str b) k1 p1) T.env,do let x<-eval w T.env;gF pos;pure x)]) V (by simp) (by simp) ?_;refine aN<|Ll ?_;refine aN<|e5<|aN ?_;have l:Nx W H s (H.ag s.heap.objs.size _) {s with heap:=s.heap.push {cls:=.type "dict",data:=.dict #[]},toks:=s.toks+1}:=wY t.ag .s;refine cS (R _ _ _ (d s.heap.objs.size t.ag.X)<|t.nx l) (λu Z y=>?_) λ_ _ y=>y.d l;refine cj y λA K p M L=>?_;refine aN<|eN<|br<|aN<|e5 ?_;refine aN<|Ll ?_;refine aN<|e5<|aN ?_;have n:Nx W K Z K {Z with toks:=Z.toks+1}:=.toks p.i;refine cS (S _ _ _ L<|((t.nx l).nx p).nx n) (λC B y=>?_) λ_ _ y=>(y.d n).d<|l.p p;refine eh y λc a0 z D i I=>?_;refine aN<|eN<|br<|aN<|e5<|br<|br<|br ?_;refine cw (z.i.z.M _ _ i) λF P g _=>?_;have:F=[]:=Mu<|by simpa using g
 subst this;refine(cq [(a,u),(b,C)] (UM (by simp[oO,bI.isStrOf]) V (by simp[oO,bI.isStrOf]) V trivial) P λh' G N=>?_);have e:mR .s [.m a,.m b] [A,c]=Y _:=if_neg h;rw[e]at I;have a1:Nx W a0 B (a0.ag s.heap.objs.size<|.e (λx=>if x=a then Y A else if x=b then Y c else aY) 2) {B with heap:=h',toks:=B.toks+2}:=
  Nx.D z.i i V V N (let⟨o,_,_,ho,_⟩:=G;⟨o,ho⟩) λj=>(cq _ G (U (wq [(a,u)] b C)<|U (if_neg λq=>h<|by simpa[valueAt]using q)<|bN 2) λk=>.c (VS h) (tM (f:=λx=>if x=a then Y A else O) (λ_ _ r=>r) (D.d j) (qU (stored [] a u) b C)
   (tM (f:=λ_=>O) (λ_ _ r=>r) ((aT.d (n.p z).j _ _ M).d j) (qU [] a u) λ_=>V) k))
 exact bQ (.f _) _ ((((l.p p).p n).p z).p a1) V I
end
noncomputable def kf(m:ba)(l:List<|Nat×AV):ba:=l.foldl (λm p=>m.set p.1<|Y p.2) m
theorem Fi:∀{l}{m},i∉l.map (·.1)->kf (m.set i x) l=(kf m l).set i x
 |[],_,_=>rfl
 |p::r,m,h=>by simp only[sM,gH,not_or]at h;refine(?_:kf ((m.set i x).set p.1<|Y p.2) r=(kf (m.set p.1<|Y p.2) r).set i x);exact U (List.set_comm _ _ h.1)<|U (Fi h.2) V
theorem Fj:∀{l}{m},(l.map (·.1)).Nodup->kf m l.reverse=kf m l
 |[],_,_=>rfl
 |p::r,m,h=>by simp only[sM,i1]at h;refine U oW ?_;refine U (Fi h.1) ?_;unfold kf;refine U Mr ?_;refine(?_:(kf m r.reverse).set p.1 (Y p.2)=_);refine U (Fj h.2) ?_;rfl
section
variable {W:Wd}{w:Cx}{m B:ba}{A:di}{H:Hp}{s:bU}
noncomputable def kI(W:Wd)(A:di)(e:Env)(n:Str)(t:bI->Sem Unit):Prop:=
 ∀v Q E s,bw (bM W.p W.w) A (storeName e n v) Q E s->bw (bM W.p W.w) A (t v) Q E s
def kI.b:kI W A env n λv=>bindName env n v:=λv Q E s h=>yh h
def kI.a:kI W A env n<|kT (.Name n p) env:=λv Q E s h=>sf h
noncomputable def gU(w:Cx)(i:Nat)(n:Str):Prop:=w.b[i]? =Y n/\(w.env.kindOf n=Y .local\/w.env.kindOf n=Y .cell)
def ER(j:w.f)(o:w.e=false):∀{l:List<|Nat×Str}{c}{x}{y}{m}{s}{Q}{E},
  c6 (λp t=>gU w p.1 p.2/\kI W A w.env p.2 t) l c->x.length=l.length->bk W.T (aU W.fr H) s.heap x y->St W w m B H s->
  (∀z,cY W H s H z->St W w (kf m<|(l.map (·.1)).zip x) B H z->Q () z)->bw (bM W.p W.w) A (assignInOrder c y) Q E s:=by
 intro l;induction l with
 |nil=>
  intro c x y m s Q E h b r st e;cases h
  match x,b with
  |[],_=>
   match y,r with
   |[],_=>exact br<|e s (.v st.ag) st
 |cons p l k=>
  intro c x y m s Q E h b r st e;cases h with
  |cons f q=>
   match x,b with
   |v::x,b=>
    match y,r with
    |u::y,r=>
     refine aN<|e5<|f.2 _ _ _ _<|nU j st o f.1.1 f.1.2 r.1 λz i g=>?_;exact k q (by simpa using b) (bk.d i.p _ _ r.2) g λd n a=>e d (i.q n) a
def zw(c:cZ A)(g:bu W H s.heap)(r:aT W.T (aU W.fr H) s.heap (.l vs) u)(m:n=vs.length)
  (h:∀y w,Nx W H s H w->(∀x o,s.heap.get? x=Y o->w.heap.get? x=Y o)->bk W.T (aU W.fr H) w.heap vs y->Q y w):bw (bM W.p W.w) A (unpackItems u n O) Q E s:=by
 (refine iv r λa v b k l i p=>?_;clear r;subst b)
 have e:n=v.size:=U m<|U i.f<|U mD V;subst e;refine wpAny_unpackItems_tuple c.b l λB j=>?_;have f:=λx o q=>j x o (λz=>by rw[z,kz]at q;exact aS q) q;have d:=Nx.r (t:=s.toks) g f;exact h _ _ d f<|bk.d d.j _ _ i
def Nx.kd(n:Nx W H s H' s')(h:∀x,W.v x->W.fr x):cY W H s H' s':=⟨n.j,λx o a e=>n.I x o (h x a) e,n.i,n.y,n.K⟩
def Ch(h:gn m is true v=Y m'):∃a,v=.l a/\is.length=a.length/\m'=kf m (is.zip a):=by
 refine aH (ob h) λa e h=>cq a (AV.r e) ?_ ?_;·exact Decidable.byContradiction λn=>aS<|(if_neg n).symm.trans h
 ·by_cases n:is.length=a.length;·exact(bz<|(if_pos n).symm.trans h).symm
  ·exact aS<|(if_neg n).symm.trans h
def Eu(o:w.f)(c:cZ A)(q:w.e=false){l:List<|Nat×Str}
  (h:c6 (λp t=>gU w p.1 p.2/\kI W A w.env p.2 t) l<|d.map (·.2)) (k:d.findIdx? (·.1)=O) (e:St W w m B H s) (r:aT W.T (aU W.fr H) s.heap v u)
  (j:gn m (l.map (·.1)) true v=Y m') (x:∀C,cY W H s H C->St W w m' B H C->Q () C):bw (bM W.p W.w) A (unpack u d) Q E s:=by
 (refine cw (Ch j) λG i b f=>?_;clear j;subst i;subst f)
 have a:=h.e;simp only[bx]at b a;unfold unpack;refine U k ?_;refine aN<|e5<|zw c e.ag r (dB (aW [_,_,_] (.v 0) (.v 1) [(.v 2,.v 1),(.v 0,.v 2)] V (bb b)<|bb<|cc a)<|aW [_,_,_] (.v 1) (.v 0) [(.v 2,.v 0),(.v 1,.v 2)] V (bb a)<|bb<|cc b) λI F n _ z=>?_;exact ER o q h (dB (aW [_,_] (.v 0) (.v 1) [(.v 0,.v 1)] V<|bb<|cc b)<|aW [_,_] (.v 1) (.v 0) [(.v 1,.v 0)] V<|bb b) z (e.nx n) λD y g=>x D ((n.kd e.fr.uf).q y) g
end
noncomputable def Wd.q(W:Wd)(P up:Addr->Prop):Wd:={W with fr:=λx=>W.fr x\/P x,v:=up}
theorem Wd.y.y{W:Wd}(o:W.y)P up:(W.q P up).y:=⟨o.t,o.w,o.r,o.q,o.u⟩
def Wd.u.f{W:Wd}(x:W.u cK)P up:(W.q P up).u cK:=⟨x.T,x.a,x.w,x.K,x.b,x.g⟩
section
variable {W:Wd}{P up:Addr->Prop}{H H':Hp}{s s₁ s':bU}{N:Cx}{m m' M:ba}
def jN(f:∀x,P x->s.heap.get? x=O)(e:s.heap.get? x=Y o)(n:¬aU W.fr H x):¬aU (W.q P up).fr H x:=by
 rintro (h|h|h|h)
 ·exact n<|.inl h
 ·exact n<|.inr<|.inl h
 ·exact n<|.inr<|.inr h
 ·rw[f x h]at e;exact aS e
def lN(n:¬aU (W.q P up).fr H x):¬aU W.fr H x:=by
 rintro (h|h|h)
 ·exact n<|.inl h
 ·exact n<|.inr<|.inl h
 ·exact n<|.inr<|.inr<|.inl h
theorem bu.Q(g:bu W H s.heap)(h:∀x o,s.heap.get? x=Y o->s₁.heap.get? x=Y o)(f:∀x,P x->s.heap.get? x=O)(t:∀x,P x->∃o,s₁.heap.get? x=Y o):
  bu (W.q P up) H s₁.heap/\∀a v,aT W.T (aU W.fr H) s.heap a v->aT W.T (aU (W.q P up).fr H) s₁.heap a v:=by
 have c:df (W.q P up).fr H s.heap H s₁.heap:=⟨λx o e _=>.i<|h x o e,λ_ _ _ n=>n,λx o e=>⟨o,h x o e⟩⟩;refine⟨⟨λx o e=>h x o<|g.D x o e,λx o e=>jN f (g.D x o e)<|g.F x o e,⟨λa o e=>?_,g.z.inj,g.z.S,λx i=>?_,λx i=>?_⟩⟩,λa v r=>(r.i λx o e n=>jN f e n).d c⟩
 ·exact((g.z.M a o e).ah λx o e n=>jN f e n).Z c λb d=>by refine aF ((g.z.M a o e).X b d) λk q=>?_;exact U q<|h b k q
 ·refine bq i (λi=>?_) λi=>?_;·exact g.z.W x i
  ·refine⟨?_,λa C j q=>?_⟩
   ·cases q:H x with
    |none=>rfl
    |some o=>exact absurd (.inl ⟨o,q⟩)<|g.z.N<|f x i
   ·exact absurd (.inr<|.inl<|kq a C j q)<|g.z.N<|f x i
 ·exact bq i (λi=>aF (g.z.Q x i) λo e=>⟨o,h x o e⟩) λi=>t x i
theorem bu.S(g:bu (W.q P up) H s.heap):bu W H s.heap:=
 ⟨g.D,λx o e=>lN<|g.F x o e,⟨λa o e=>(g.z.M a o e).ah λ_ _ _ n=>lN n,g.z.inj,g.z.S,λx h=>g.z.W x<|.inl h,λx h=>g.z.Q x<|.inl h⟩⟩
def bu.K(g:bu (W.q P up) H s.heap):bu (W.q P Et) H s.heap:=⟨g.D,g.F,g.z⟩
def cY.E(h:∀x o,s.heap.get? x=Y o->s₁.heap.get? x=Y o)(b:s₁.gens=s.gens)(c:s₁.os=s.os)(f:∀x,P x->s.heap.get? x=O)(a:∀x,W.v x->up x)
  (u:cY (W.q P up) H s₁ H' s'):cY W H s H' s':=
 ⟨⟨λx o e n=>u.p.g x o (h x o e)<|jN f e n,λx o e n=>lN<|u.p.i x o (h x o e)<|jN f e n,λx o e=>u.p.f x o<|h x o e⟩,
  λx o d e=>u.y x o (a x d) (h x o e),u.w.S,u.r.trans b,u.z.trans c⟩
def pj(r:aT W.T (aU (W.q P up).fr H) h a v):aT W.T (aU W.fr H) h a v:=r.i λ_ _ _ n=>lN n
def fa.D(x:fa W H s.heap l)(h:∀x o,s.heap.get? x=Y o->s₁.heap.get? x=Y o):fa (W.q P up) H s₁.heap l:=λg f=>by refine ib (x g f) λc L o b e q a d=>?_;exact jI c L o b e (h _ _ q) a<|.inl d
def fa.G(x:fa W H s.heap l)(y:fa (W.q P up) H' s'.heap l):fa W H' s'.heap l:=λn h=>by refine ib (x n h) λa L o q b f i e=>?_;refine ib (y n h) λj m p r k d c g=>?_;rw[q]at r;(have r:=bz r;subst r);exact jI a L p q b d c e
def St.aq(L:St W N m M H s)(k:∀x o,s.heap.get? x=Y o->s₁.heap.get? x=Y o)(f:∀x,P x->s.heap.get? x=O)(t:∀x,P x->∃o,s₁.heap.get? x=Y o)
  (h:∀x,up x->W.v x\/P x):St (W.q P up) N m M H s₁:=by
 obtain⟨g,⟨K,C,y,hc,w⟩,z,D,S,E,uf,F,I,fr⟩:=L;refine bp (g.Q (up:=up) k f t) λA p=>?_;have d:∀x o,s.heap.get? x=Y o->¬P x:=λx o e B=>by rw[f x B]at e;exact aS e
 refine⟨A,⟨bQ K C (y.keeps k) (λn c e=>(hc n c e).keeps k) ?_,.inl z,λn c e=>.inl<|D n c e,λq=>?_,λn c e q=>?_,λx R=>(h x R).imp (uf x) id,F,I,fr.D k⟩⟩;·exact⟨λi Q v l j=>⟨λa b=>aH ((w.1 i Q v l j).1 a b) λu e r=>aO u e<|p _ _ r,λa=>aH ((w.1 i Q v l j).2 a) λu e r=>aO u e<|p _ _ r⟩,λa i Q v l j b=>aH (w.2 a i Q v l j b) λu e r=>aO u e<|p _ _ r⟩
 ·exact aF (jA y) λo e=>(h _ q).elim S<|d _ _ e
 ·exact aF (ri<|hc n c e) λo G=>(h _ q).elim (E n c e)<|d _ _ G
def St.ah(c:St W N m M H s)(y:St (W.q P up) N m' M H' s'):St W N m' M H' s':=by obtain⟨g,⟨o,n,l,hc,h⟩,t,q,w,p,uf,j,k,fr⟩:=y;refine⟨g.S,⟨bQ o n l hc ?_,c.fr.ak,c.fr.al,c.fr.av,c.fr.aw,c.fr.uf,j,k,c.fr.ag.G fr⟩⟩;exact⟨λi x v d f=>⟨λa b=>aH ((h.1 i x v d f).1 a b) λu e r=>aO u e<|pj r,λa=>aH ((h.1 i x v d f).2 a) λu e r=>aO u e<|pj r⟩,λa i x v d f b=>aH (h.2 a i x v d f b) λu e r=>aO u e<|pj r⟩
def nS(g:bu W H s.heap)(f:∀x,P x->W.fr x)(j:∀x,P x->W.r.get? x=O)(a:∀x o,¬P x->s.heap.get? x=Y o->h'.get? x=Y o)(t:∀x,P x->∃o,h'.get? x=Y o):
  df W.fr H s.heap H h'/\bu W H h':=by
 have d:df W.fr H s.heap H h':=⟨λx o e n=>.i<|a x o (λq=>n<|.inr<|.inr<|f x q) e,λ_ _ _ n=>n,λx o e=>by
  by_cases q:P x;·exact t x q
  ·exact⟨o,a x o q e⟩⟩
 refine⟨d,⟨λx o e=>a x o (λq=>by rw[j x q]at e;exact aS e)<|g.D x o e,g.F,⟨λb o e=>?_,g.z.inj,g.z.S,g.z.W,λx m=>?_⟩⟩⟩
 ·refine(g.z.M b o e).Z d λy h=>aF ((g.z.M b o e).X y h) λl q=>U q ?_;refine a y l (λi=>?_) q;have c:=g.z.W y<|f y i;induction o using bc.AO.casesOn with
  |bF C k v=>
   simp only[AO.l,gH,dM,or_false]at h;rcases h with rfl|rfl;·rw[c.1]at e;exact aS e
   ·exact c.2 _ _ _ e
  |_=>simp only[AO.l,dm]at h;subst h;rw[c.1]at e;exact aS e
 ·exact aF (g.z.Q x m) λo e=>d.f x o e
def bu.Z(g:bu (W.q P up) H s.heap)(j:∀x,P x->W.r.get? x=O)(f:∀x,W.fr x->¬P x)(c:∀x o,¬P x->s.heap.get? x=Y o->h'.get? x=Y o):
  bu W H h'/\∀a v,aT W.T (aU (W.q P up).fr H) s.heap a v->aT W.T (aU W.fr H) h' a v:=by
 have k:∀x o,s.heap.get? x=Y o->¬aU (W.q P up).fr H x->d8 h' x o/\¬aU W.fr H x:=λx o e n=>⟨.i<|c x o (λq=>n<|.inr<|.inr<|.inr q) e,lN n⟩;refine⟨⟨λx o e=>c x o (λq=>by rw[j x q]at e;exact aS e)<|g.D x o e,λx o e=>lN<|g.F x o e,⟨λb o e=>?_,g.z.inj,g.z.S,λx m=>g.z.W x<|.inl m,λx m=>?_⟩⟩,λa v r=>r.f k⟩
 ·refine(g.z.M b o e).ag k λy h=>aF ((g.z.M b o e).X y h) λp q=>U q ?_;refine c y p (λi=>?_) q;have d:=g.z.W y<|.inr i;induction o using bc.AO.casesOn with
  |bF C l t=>
   simp only[AO.l,gH,dM,or_false]at h;rcases h with rfl|rfl;·rw[d.1]at e;exact aS e
   ·exact d.2 _ _ _ e
  |_=>simp only[AO.l,dm]at h;subst h;rw[d.1]at e;exact aS e
 ·exact aF (g.z.Q x<|.inl m) λo e=>⟨o,c x o (f x m) e⟩
end
end bc
end
section
open PySem PySem.W PyProof.Rows PySem.SeqAt PySem.MeetsSeq
namespace bc
theorem zY:∀n a c,(fm n a c).length=n
 |0,_,_=>rfl
 |n+1,a,c=>by simp[fm,zY n]
theorem FP:∀n a c i,i<n->(fm n a c)[i]? =Y (a+i*c)
 |0,_,_,_,h=>absurd h<|lh _
 |n+1,a,c,0,_=>by simp[fm]
 |n+1,a,c,i+1,h=>by
  rw[fm,vH,FP n _ _ i<|aW [_,_] (.a (.v 0)<|.n 1) (.v 1) [(.a (.a (.v 0)<|.n 1)<|.n 1,.a (.v 1)<|.n 1)] V h];congr 1
  push_cast
  exact U (yU _ _ _)<|cA [] [_,_,_] (.a (.a aI bS) eO) (.a aI<|.a eO<|.m 1 bS) [] V
def FR a b c(k:c≠0):hZ a b c=fm (mB a b c).toNat a c:=by
 unfold hZ mB;split
 ·rename_i h;congr 1;split
  ·rename_i o;have:b-a+c-1=(b-a-1)+1*c:=cA [] [_,_,_] (.s (.a (.s eO bS) aI) aM) (.a (.s (.s eO bS) aM)<|.m 1 aI) [] V;exact U this<|U (MN _ _ k) V
  ·have n:(b-a+c-1)/c<=0:=by
    have:(b-a+c-1)/c<1:=MM h<|fR λz=>aJ [] [_,_,_] [.l 1 eO bS,.l 1 (.m 1 aI)<|.s (.a (.s eO bS) aI) aM] V (pN<|‹(¬a<b)›) z;exact b9 λz=>aJ [] [_] [.l 1 (.a aI aM) aM,.l 1 (.a bJ aM) aI] V this z
   exact pB ((b-a+c-1)/c) (λi d=>cN<|fZ (λz=>aJ [_,_] [] [.e 1 aG bJ,.l 1 (.a af aM) aG] V (g7<|b9 (b:=0) λf=>aJ [] [] [.l 1 (.a bJ aM) bJ] V f) z) λz=>aJ [_,_] [_] [.l 1 aI bJ,.e 1 af aI,.l 1 (.a aG aM) af] V n d z) λi d=>cN<|cA [_,_] [] af aG [.e (-1) aG bJ,.e 1 af bJ] V (g7<|b9 (b:=0) λf=>aJ [] [] [.l 1 (.a bJ aM) bJ] V f) d
 ·rename_i h;congr 1;split
  ·rename_i o;have:a-b-c-1=(a-b-1)+1*(-c):=cA [] [_,_,_] (.s (.s (.s eO bS) aI) aM) (.a (.s (.s eO bS) aM)<|.m 1<|.g aI) [] V;exact U this<|U (MN _ _<|by exact λz=>JI k (λj=>aJ [] [_] [.e 1 (.g aI) bJ,.l 1 (.a aI aM) bJ] V z j) λj=>aJ [] [_] [.l 1 aI bJ,.l 1 (.a bJ aM) aI] V (pN h) j) V
  ·have n:(a-b-c-1)/(-c)<=0:=by
    have:(a-b-c-1)/(-c)<1:=MM (fR λz=>JI k (λj=>aJ [] [_] [.l 1 (.g aI) bJ,.l 1 (.a aI aM) bJ] V z j) λj=>aJ [] [_] [.l 1 aI bJ,.l 1 (.a bJ aM) aI] V (pN h) j)<|fR λz=>aJ [] [_,_,_] [.l 1 eO bS,.l 1 (.m 1<|.g aI)<|.s (.s (.s eO bS) aI) aM] V (pN<|‹(¬a>b)›) z;exact b9 λz=>aJ [] [_] [.l 1 (.a aI aM) aM,.l 1 (.a bJ aM) aI] V this z
   exact pB ((a-b-c-1)/ -c) (λi d=>cN<|fZ (λz=>aJ [_,_] [] [.e 1 aG bJ,.l 1 (.a af aM) aG] V (g7<|b9 (a:=0) (b:=0) λf=>aJ [] [] [.l 1 (.a bJ aM) bJ] V f) z) λz=>aJ [_,_] [_] [.l 1 aI bJ,.e 1 af aI,.l 1 (.a aG aM) af] V n d z) λi d=>cN<|cA [_,_] [] af aG [.e (-1) aG bJ,.e 1 af bJ] V (g7<|b9 (a:=0) (b:=0) λf=>aJ [] [] [.l 1 (.a bJ aM) bJ] V f) d
noncomputable def lM(e:Expr):Bool:=gG (bR e).t 12
def VY(h:lM e=true):∃l k p,e=.Tuple l k p:=kq _ _ _<|vw (vn h) (by decide) V
def E8(d:s.heap.get? I=Y o)(b:o.cls=.type n)
  (c:["enumerate","zip","dict_itemiterator","dict_reverseitemiterator","odict_iterator","itertools.zip_longest","itertools.pairwise"].contains n=false) (h:Q () s):bw M A (CX target (.ref I) v) Q E s:=by
 have k:∀a,bw M A (do
   let o<-load I
   match o.cls,o.data with
   |.type n,.fields e=>
    if["enumerate","zip","dict_itemiterator","dict_reverseitemiterator","odict_iterator","itertools.zip_longest","itertools.pairwise"].contains n&&e[0]? ==Y (rawInt a)then
     rule "for.unpacks-the-owned-tuple"
     updateField I 0 .none
   |_,_=>pure ()) Q E s:=λa=>by
  refine aN<|wpAny_load d ?_;refine U b ?_;cases o.data<;>first|exact br h|skip
  dsimp only;refine U c ?_;exact br h
 induction target using PySem.Expr.casesOn with
 |Tuple=>induction v using PySem.Value.casesOn<;>first|exact br h|exact k _
 |List=>induction v using PySem.Value.casesOn<;>first|exact br h|exact k _
 |_=>exact br h
section
variable {W:Wd}{P up:Addr->Prop}{H w:Hp}{s:bU}{A:di}
noncomputable def gp(W:Wd)(P:Addr->Prop)(d:List AV)(k:gV)(f:List AV)(b:bI)(j:Nat)(H:Hp)(h:Heap):Prop:=
 match k with
 |.a=>∃v I l,f=[v]/\b=.ref I/\P I/\h.IsListIter I l j/\aT W.T (aU W.fr H) h v (.ref l)
 |.b=>∃I a c,b=.ref I/\P I/\IsRangeIter h I (a+j*c) (d.length-j) c/\∀i,i<d.length->d[i]? =Y (.c<|a+i*c)
 |.c=>∃v e I l o,f=[v]/\b=.ref e/\P e/\P I/\e≠I/\IsEnum h e I j o/\h.IsListIter I l j/\aT W.T (aU W.fr H) h v (.ref l)
structure Tn0(P:Addr->Prop)(s s':bU):Prop where
 f:s'.gens=s.gens
 g:s'.os=s.os
 c:∀x o,¬P x->s.heap.get? x=Y o->s'.heap.get? x=Y o
structure Tn(P:Addr->Prop)(s s':bU):Prop extends Tn0 P s s' where
 d:∀x,P x->∃o,s'.heap.get? x=Y o
def Vf(e:dX .a w [v]=Y items)(h:eg .a w H [v]):cf H v=Y items:=by have h:cf H v=cf w v:=h;exact U h<|e
def Y1(e:dX .c w [v]=Y items)(h:eg .c w H [v]):∃L,cf H v=Y L/\items=L.zipIdx.map λp=>AV.l [.c p.2,p.1]:=by have h:cf H v=cf w v:=h;have e:(cf w v).map (λl=>l.zipIdx.map λp=>AV.l [.c p.2,p.1])=Y items:=e;rw[qE]at e;refine aH e λL b a=>?_;exact aO L (h.trans b) a.symm
def Ir{Qn:bU->Prop}{Qs:bI->bU->Prop}(c:cZ A)(g:bu W H s.heap)(IW:∀x,P x->W.fr x)(hb:∀x,P x->W.r.get? x=O)
  (hP:∀x,P x->∃o,s.heap.get? x=Y o) (hI:dX k w vs=Y items) (N:eg k w H vs) (x:gp W P items k vs it j H s.heap) (hj:j<=items.length) (ht:k=.c->lM target=true)
  (G:j=items.length->∀s',Tn0 P s s'->Qn s')
  (C:∀a v s',items[j]? =Y a->Tn P s s'->aT W.T (aU W.fr H) s'.heap a v->gp W P items k vs it (j+1) H s'.heap->Qs v s'):
  bw (bM W.p W.w) A (pyNext it) (λr a4=>match r with|none=>Qn a4|some v=>bw (bM W.p W.w) A (CX target it v) (λ_ lA=>Qs v lA) E a4) E s:=by
 have t:∀{I}{h'},sW I s.heap h'->(∃o,h'.get? I=Y o)->∀x,P x->∃o,h'.get? x=Y o:=λ{I h'}hs e x T=>by
  by_cases q:x=I;·subst q;exact e
  ·exact aF (hP x T) λo i=>⟨o,(hs.2 x q).trans i⟩
 induction k using bc.gV.casesOn with
 |a=>
  (refine lP x λv I l f a3 b d hv=>?_;clear x;subst f;subst a3)
  refine eh (hB g hv<|Vf hI N) λl' qh e y Z _=>?_
  (have e:=u0 e;subst e)
  have a1:l≠I:=λq=>by subst q;refine cw d λo i hc _=>?_;refine aF y λn hn=>?_;rw[hn]at i;(have i:=bz i;subst i);exact absurd hc<|by simp
  refine bq (hO j items.length) (λD=>?_) λB=>?_
  ·have adJ:=aW [_,_,_] (.a (.v 0)<|.n 1) (.v 1) [(.v 2,.v 1),(.a (.v 0)<|.n 1,.v 2)] V (bb<|cc<|eP Z) D;obtain⟨a,ha⟩:∃a,items[j]? =some a:=⟨_,hU D⟩;refine aH (bk.B Z ha) λu hu ru=>?_;refine wpAny_pyNext_list_item d y.isList (x:=u) (by refine aP vZ ?_;exact hu) λh' h K=>?_;have Q:Tn P s {s with heap:=h'}:=⟨⟨V,V,λx o T e=>(K.2 x λq=>T<|q▸b).trans e⟩,t K<|by exact aH h λo i _=>⟨o,i⟩⟩;refine bp (nS g IW hb Q.c Q.d) λa0 g'=>?_;refine cw (id h) λo i hc hd=>?_;exact E8 i hc (by decide)<|C a u _ ha Q (aT.d a0 _ _ ru)<|pP v I l V V b h<|aT.d a0 _ _ hv
  ·have a2:=dB (aW [_,_] (.v 0) (.v 1) [(.v 0,.v 1)] V hj) (aW [_,_] (.v 1) (.v 0) [(.v 1,.v 0)] V B);refine wpAny_pyNext_list_end c.b d y.isList (by refine U (propext NQ) ?_;exact aW [_,_,_] (.v 0) (.v 1) [(.v 2,.v 1),(.v 0,.v 2)] V B<|bb<|eP Z) λh' he=>?_;exact G a2 _ ⟨V,V,λx o T e=>he x o (λq=>T<|q▸b) e⟩
 |b=>
  (refine fw x λI a a0 f b d S=>?_;clear x;subst f)
  refine bq (hO j items.length) (λD=>?_) λB=>?_
  ·refine wpAny_pyNext_range_item d (fR λzg=>aJ [_,_] [] [.l 1 (.c<|.a bo aX) aG,.l 1 (.s aG af) bJ] V (nl D) zg) λh' h K=>?_;have Q:Tn P s {s with heap:=h',toks:=s.toks+1}:=⟨⟨V,V,λx o T e=>(K.2 x λq=>T<|q▸b).trans e⟩,t K ⟨_,h⟩⟩;refine E8 h V (by decide)<|C _ _ _ (S j D) Q ⟨_,V⟩<|dG I a a0 V b ?_ S;refine U (by push_cast;exact U (yU _ _ _) (U (Int.one_mul _)<|U (sV _ _ _) V):a+(j+1)*a0=a+j*a0+a0) (U (by push_cast;exact cA [_,_] [] (.s aG<|.a af aM) (.s (.s aG af) aM) [] V:(items.length:Int)-((j+1:Nat):Int)=(items.length:Int)-(j:Int)-1) ?_);exact h
  ·exact wpAny_pyNext_range_end c.b d (b9 λzg=>aJ [_,_] [] [.l 1 aG af,.l 1 (.a bJ aM)<|.s aG af] V (nl B) zg) λh' he=>G (dB (aW [_,_] (.v 0) (.v 1) [(.v 0,.v 1)] V hj) (aW [_,_] (.v 1) (.v 0) [(.v 1,.v 0)] V B):j=items.length) _ ⟨V,V,λx o T e=>he x o (λq=>T<|q▸b) e⟩
 |c=>
  (refine uj x λv e I l old f a3 X b a1 F d hv=>?_;clear x;subst f;subst a3)
  (refine aH (Y1 hI N) λL hl f=>?_;subst f)
  refine eh (hB g hv hl) λl' qh e' y Z _=>?_
  (have e':=u0 e';subst e')
  have hlI:l≠I:=λq=>by subst q;refine cw d λo i hc _=>?_;refine aF y λn hn=>?_;rw[hn]at i;(have i:=bz i;subst i);exact absurd hc<|by simp
  have hle:l≠e:=λq=>by subst q;refine aF y λn hn=>?_;have F:s.heap.get? l=_:=F;rw[hn]at F;exact absurd (congrArg Obj.cls<|bz F)<|by simp
  have hlen:(L.zipIdx.map λp=>AV.l [.c p.2,p.1]).length=L.length:=by simp
  simp only[hlen]at hj G;refine bq (hO j L.length) (λD=>?_) λB=>?_
  ·obtain⟨a,ha⟩:∃a,L[j]? =some a:=⟨_,hU D⟩;refine aH (bk.B Z ha) λu hu ru=>?_;refine wpAny_pyNext_enum_item F d y.isList (x:=u) (by refine aP vZ ?_;exact hu) a1 λh' Wt h Wk adI hk=>?_
   (refine Jf (VY<|ht V) λjP x1 pos f=>?_;subst f)
   refine wpAny_letOwnedTupleGo_enum Wt λW4 M m=>?_;have Q:Tn P s {s with heap:=W4,toks:=s.toks+1}:=⟨⟨V,V,λx o T q=>(m.2 x λz=>T<|z▸X).trans<|hk x o (λz=>T<|z▸X) (λz=>T<|z▸b) q⟩,λx T=>by
    by_cases q:x=e;·subst q;exact⟨_,M⟩
    ·by_cases q2:x=I
     ·subst q2;refine aH h λo i _=>?_;exact⟨o,(m.2 _<|gr a1).trans i⟩
     ·exact aF (hP x T) λo i=>⟨o,(m.2 x q).trans (hk x o q q2 i)⟩⟩
   refine bp (nS g IW hb Q.c Q.d) λa0 g'=>?_;have R:=(m.2 _<|ma<|pd F).trans Wk;refine C (.l [.c j,a]) _ _ (by refine U gh<|U Mp<|U ha ?_;simp) Q (kr _ (#[.int j s.toks,u]) V ?_ (As _ R V _ V) (bk.q ⟨_,V⟩<|bk.q (aT.d a0 _ _ ru)<|trivial)<|by refine U eJ ?_;simp)
    (w4 v e I l _ V V X b a1 M (h.extBut m.extBut<|gr a1)<|aT.d a0 _ _ hv)
   exact g.L
  ·have a2:=dB (aW [_,_] (.v 0) (.v 1) [(.v 0,.v 1)] V hj) (aW [_,_] (.v 1) (.v 0) [(.v 1,.v 0)] V B);refine wpAny_pyNext_enum_end c.b F d y.isList (by refine U (propext NQ) ?_;exact aW [_,_,_] (.v 0) (.v 1) [(.v 2,.v 1),(.v 0,.v 2)] V B<|bb<|eP Z) λh' he=>?_;exact G a2 _ ⟨V,V,λx o T e=>he x o (λq=>T<|q▸b) e⟩
end
end bc
end
section
set_option backward.match.sparseCases false
open PySem PySem.W PyProof.Rows PySem.SeqAt PySem.MeetsSeq
namespace bc
def FQ(h:c≠0):0<=mB a b c:=by
 unfold mB;split
 ·split
  ·have:0<=(b-a-1)/c:=ML (b9 λz=>aJ [] [_,_] [.l 1 (.a aI aM) bS,.l 1 (.a (.s (.s bS aI) aM) aM) bJ] V (‹(a<b)›) z) (b9 λz=>aJ [] [_] [.l 1 (.a bJ aM) aI,.l 1 (.a aI aM) bJ] V (‹(c>0)›) z);exact b9 λz=>aJ [] [_] [.l 1 bJ aI,.l 1 (.a (.a aI aM) aM) bJ] V this z
  ·exact b9 λz=>aJ [] [] [.l 1 (.a bJ aM) bJ] V z
 ·split
  ·have:0<=(a-b-1)/(-c):=ML (b9 λz=>aJ [] [_,_] [.l 1 (.a aI aM) bS,.l 1 (.a (.s (.s bS aI) aM) aM) bJ] V (‹(a>b)›) z) (b9 λz=>aJ [] [_] [.l 1 aI bJ,.l 1 (.a (.g aI) aM) bJ] V (pN<|‹(¬c>0)›) z);exact b9 λz=>aJ [] [_] [.l 1 bJ aI,.l 1 (.a (.a aI aM) aM) bJ] V this z
  ·exact b9 λz=>aJ [] [] [.l 1 (.a bJ aM) bJ] V z
def Sa(i:a.natAbs<=sz)(d:b.natAbs<=sz)(f:c.natAbs<=2)(m:c≠0):NC a b c=true:=by
 have h:=eJ;have k:mB a b c<=4194304:=by
  unfold mB;split
  ·split
   ·have:(b-a-1)/c<=b-a-1:=yT _ (b9 λz=>aJ [] [_,_] [.l 1 (.a aI aM) bS,.l 1 (.a (.s (.s bS aI) aM) aM) bJ] V (‹(a<b)›) z);exact b9 λz=>aJ [_,_,_] [_,_,_] [.l 1 af aG,.l 1 bf aG,.e 2 aG<|.c<|.n 1048576,.l 1 aI<|.s (.s bS eO) aM,.l 1 (.a (.n 4194304) aM)<|.a aI aM,.l 1 (.g eO) af,.l 1 bS bf] V (nl i) (nl d) (nE h) this z (fK<|a)<|fJ<|b
   ·exact b9 λz=>aJ [] [] [.l 1 (.a (.n 4194304) aM) bJ] V z
  ·split
   ·have:(a-b-1)/(-c)<=a-b-1:=yT _ (b9 λz=>aJ [] [_,_] [.l 1 (.a aI aM) bS,.l 1 (.a (.s (.s bS aI) aM) aM) bJ] V (‹(a>b)›) z);exact b9 λz=>aJ [_,_,_] [_,_,_] [.l 1 af aG,.e 1 aG<|.c<|.n 1048576,.l 1 aI<|.s (.s bS eO) aM,.l 1 (.a (.n 4194304) aM)<|.a aI aM,.l 1 bS af,.e 1 bf eO] V (nl i) (nE h) this z (fJ<|a)<|iI<|b9 λj=>aJ [_,_,_] [_,_,_] [.l 1 af aG,.l 1 bf aG,.e 2 aG<|.c<|.n 1048576,.l 1 aI<|.s (.s bS eO) aM,.l 1 (.a (.n 4194304) aM)<|.a aI aM,.l 1 bS af,.l 1 (.g eO) bf] V (nl i) (nl d) (nE h) this z (fJ<|a)<|fK<|b
   ·exact b9 λz=>aJ [] [] [.l 1 (.a (.n 4194304) aM) bJ] V z
 unfold NC;simp only[adt,lu,NH,decide_eq_true_eq,beq_iff_eq];refine⟨⟨⟨⟨by exact i5 (b9 λz=>aJ [_] [_] [.l 1 (.a aI aM)<|.g<|.n 9223372036854775808,.e 1 af aI] V z<|iI<|b9 λj=>aJ [_,_] [_] [.l 1 af aG,.e 1 aG<|.c<|.n 1048576,.l 1 (.a aI aM)<|.g<|.n 9223372036854775808,.l 1 (.g aI) af] V (nl i) (nE h) z<|fK<|a)<|fR λz=>aJ [_,_] [_] [.l 1 af aG,.e 1 aG<|.c<|.n 1048576,.l 1 (.n 9223372036854775808) aI,.l 1 aI af] V (nl i) (nE h) z<|fJ<|a,by exact i5 (b9 λz=>aJ [_] [_] [.l 1 (.a aI aM)<|.g<|.n 9223372036854775808,.e 1 af aI] V z<|iI<|b9 (a:=0) (b:=b) λj=>aJ [_,_] [_] [.l 1 aG af,.e 1 af<|.c<|.n 1048576,.l 1 (.a aI aM)<|.g<|.n 9223372036854775808,.l 1 (.g aI) aG] V (nl d) (nE h) z<|fK<|b)<|fR λz=>aJ [_,_] [_] [.l 1 aG af,.e 1 af<|.c<|.n 1048576,.l 1 (.n 9223372036854775808) aI,.l 1 aI aG] V (nl d) (nE h) z<|fJ<|b⟩,by exact i5 (b9 λz=>aJ [_] [_] [.l 1 (.a aI aM)<|.g<|.n 9223372036854775808,.e 1 af aI] V z<|iI<|b9 (a:=0) (b:=c) λj=>aJ [_] [_] [.l 1 af<|.c<|.n 2,.l 1 (.a aI aM)<|.g<|.n 9223372036854775808,.l 1 (.g aI) af] V (nl f) z<|fK<|c)<|fR λz=>aJ [_] [_] [.l 1 af<|.c<|.n 2,.l 1 (.n 9223372036854775808) aI,.l 1 aI af] V (nl f) z<|fJ<|c⟩,by exact i5 (b9 λz=>aJ [] [_] [.l 1 bJ aI,.l 1 (.a aI aM)<|.g<|.n 9223372036854775808] V (FQ m) z)<|fR λz=>aJ [] [_] [.l 1 aI<|.n 4194304,.l 1 (.n 9223372036854775808) aI] V k z⟩,.inr ?_⟩;split;·simp only[decide_eq_true_eq,lu];exact i5 (b9 λz=>aJ [_,_,_] [_,_] [.l 1 aG af,.e 1 af<|.c<|.n 1048576,.l 1 (.a (.a aI<|.s bS aM) aM)<|.g<|.n 9223372036854775808,.l 1 (.g aI) aG,.e 1 bf bS] V (nl d) (nE h) z (fK<|b)<|iI<|b9 (a:=0) (b:=c) λj=>aJ [_,_,_] [_,_] [.l 1 aG af,.l 1 bf<|.c<|.n 2,.e 1 af<|.c<|.n 1048576,.l 1 (.a (.a aI<|.s bS aM) aM)<|.g<|.n 9223372036854775808,.l 1 (.g aI) aG,.l 1 (.g bS) bf] V (nl d) (nl f) (nE h) z (fK<|b)<|fK<|c)<|fR λz=>aJ [_,_,_] [_,_] [.l 1 aG af,.l 1 bf<|.c<|.n 2,.e 1 af<|.c<|.n 1048576,.l 1 (.n 9223372036854775808)<|.a aI<|.s bS aM,.l 1 aI aG,.l 1 bS bf] V (nl d) (nl f) (nE h) z (fJ<|b)<|fJ<|c
 ·simp only[decide_eq_true_eq,lu];exact i5 (b9 λz=>aJ [_,_,_] [_,_] [.l 1 aG af,.e 1 af<|.c<|.n 1048576,.l 1 (.a (.a aI<|.a bS aM) aM)<|.g<|.n 9223372036854775808,.l 1 (.g aI) aG,.e 1 bf bS] V (nl d) (nE h) z (fK<|b)<|iI<|b9 (a:=0) (b:=c) λj=>aJ [_,_,_] [_,_] [.l 1 aG af,.l 1 bf<|.c<|.n 2,.e 1 af<|.c<|.n 1048576,.l 1 (.a (.a aI<|.a bS aM) aM)<|.g<|.n 9223372036854775808,.l 1 (.g aI) aG,.l 1 (.g bS) bf] V (nl d) (nl f) (nE h) z (fK<|b)<|fK<|c)<|fR λz=>aJ [_,_,_] [_,_] [.l 1 aG af,.l 1 bf<|.c<|.n 2,.e 1 af<|.c<|.n 1048576,.l 1 (.n 9223372036854775808)<|.a aI<|.a bS aM,.l 1 aI aG,.l 1 bS bf] V (nl d) (nl f) (nE h) z (fJ<|b)<|fJ<|c
section
variable {W:Wd}{H:Hp}{s s₁:bU}{A:di}{w:Cx}{m mc:ba}{K:VK}
structure iC(W:Wd)(k:gV)(vs items:List AV)(it:bI)(P:Addr->Prop)(H:Hp)(s s₁:bU):Prop where
 c:∀x o,s.heap.get? x=Y o->s₁.heap.get? x=Y o
 e:s₁.gens=s.gens
 j:s₁.os=s.os
 a:∀x,P x->s.heap.get? x=O
 d:∀x,P x->∃o,s₁.heap.get? x=Y o
 f:∀up,gp (W.q P up) P items k vs it 0 H s₁.heap
def iC.i(b:iC W k vs items it P H s s₁)(g:bu W H s.heap):∀x,P x->W.r.get? x=O:=λx h=>lI λo q=>aS<|(b.a x h).symm.trans<|g.D x o q
def aa5(g:bu W H s.heap)(r:aT W.T (aU W.fr H) s.heap v u)(d:dX .a H [v]=Y items)
  (h:∀i s₁,iC W .a [v] items i (λx=>x=s.heap.objs.size) H s s₁->Q i s₁):bw (bM W.p W.w) A (jZ u) Q E s:=by
 (refine eh (hB g r d) λl f b a j _=>?_;subst b)
 refine wpAny_pyIter_list a.isList<|h _ _ ?_;have c:∀x o,s.heap.get? x=Y o->(s.heap.push {cls:=.type "list_iterator",data:=.fields #[.ref l,.int 0 0]}).get? x=Y o:=λx o e=>fC _ e;refine⟨c,V,V,λx k=>k▸kz _,λx k=>⟨_,k▸kb _ V⟩,λm=>pP v _ l V V V (cq _ (kb _ V) V V) ?_⟩;exact(g.Q (P:=λx=>x=s.heap.objs.size) c (λx k=>k▸kz _) λx k=>⟨_,k▸kb _ V⟩).2 _ _ r
def aa4(k:IsRange s.heap r a b c t u v)(l:a.natAbs<=sz)(y:b.natAbs<=sz)(m:c.natAbs<=2)(f:c≠0)(d:items=(hZ a b c).map .c)(h:∀j s₁,iC W .b vs items j (λx=>x=s.heap.objs.size) H s s₁->Q j s₁):bw (bM W.p W.w) A (jZ<|.ref r) Q E s:=by
 refine wpAny_pyIter_range k (Sa l y m f)<|h _ _ ?_;have e:=FR a b c f;have g:items.length=(mB a b c).toNat:=U d<|U (bx _)<|U e<|U (zY _ _ _) V;refine⟨λx o e=>fC _ e,V,V,λx n=>n▸kz _,λx n=>⟨_,n▸kb _ V⟩,λw=>(dG _ a c V V ?_ λi q=>?_)⟩
 ·have p:a+0*c=a:=by simp
  refine U p (U (by refine U g ?_;push_cast;exact cA [_] [_] (.s af bJ) aI [.e 1 af aI] V (g7<|FQ f):items.length-0=mB a b c) ?_);exact kb _ V
 ·refine U d (U gh<|U e<|U (FP _ _ _ _<|by exact aW [_,_,_] (.a (.v 0)<|.n 1) (.v 1) [(.v 2,.v 1),(.a (.v 0)<|.n 1,.v 2)] V (bb g) q) ?_);rfl
def aa6(g:bu W H s.heap)(m:dX .c H [v]=Y items)(a:IsEnum s.heap e I 0 .none)(b:s.heap.IsListIter I l 0)(c:e≠I)(n:nT.heap.get? e=O)(q:nT.heap.get? I=O)
  (j:bu W H nT.heap) (i:∀x o,nT.heap.get? x=Y o->s.heap.get? x=Y o) (r:aT W.T (aU W.fr H) nT.heap v<|.ref l) (k:s.gens=nT.gens) (d:s.os=nT.os) (h:iC W .c [v] items (.ref e) (λx=>x=e\/x=I) H nT s->Q (.ref e) s):bw (bM W.p W.w) A (jZ<|.ref e) Q E s:=by
 have f:∀x,x=e\/x=I->nT.heap.get? x=O:=λx p=>by rcases p with rfl|rfl<;>assumption
 have t:∀x,x=e\/x=I->∃o,s.heap.get? x=Y o:=λx p=>by
  rcases p with rfl|rfl;·exact⟨_,a⟩
  ·exact aH b λo d _=>⟨o,d⟩
 refine Lc a<|h ⟨i,k,d,f,t,λu=>w4 v e I l .none V V (.inl V) (.inr V) c a b ?_⟩;exact(j.Q i f t).2 _ _ r
def PD(t:bD W w K m mc dx<|eval x w.env){R:List AV->List AV->Hp->Prop}
  (d:dx (λv H=>match dX .a H [v]with|some j=>R [v] j H|aY=>False) H) (f:St W w m mc H s)
  (h:∀i l j k o a P,Nx W H s k o->dX .a k l=Y j->R l j k->iC W .a l j i P k o a->Q i a):
  bw (bM W.p W.w) w.A (eval x w.env) (λx s₁=>bw (bM W.p W.w) w.A (jZ x) Q (eG W K H s) s₁) (eG W K H s) s:=by
 refine cS (t _ H s d f) (λv p y=>?_) λ_ _ y=>y;refine cj y λu g n r c=>?_;refine aH (Ge c) λj e c=>?_;exact aa5 n.i r e λi q b=>h i _ j g p q _ n e c b
def Bb[Decidable p]{α:Type}{x y:α}(h:(if p then Y x else aY)=Y y):p/\y=x:=by
 by_cases c:p;·exact⟨c,(bz<|(if_pos c).symm.trans h).symm⟩
 ·exact aS<|(if_neg c).symm.trans h
def FO(h:dX .b H vs=Y items):∃a b s,((vs=[.c b]/\a=0/\s=1)\/(vs=[.c a,.c b]/\s=1)\/vs=[.c a,.c b,.c s])/\a.natAbs<=sz/\b.natAbs<=sz/\s.natAbs<=2/\s≠0/\items=(hZ a b s).map .c:=by
 refine aH (ob h) λl d c=>?_;induction l using List.casesOn with
 |nil=>exact aS c
 |cons x r=>induction r using List.casesOn with
  |nil=>exact bp (Bb c) λh e=>lJ 0 x 1 (.inl<|bW (pV d) V V) (by decide) h (by decide) (by decide) e
  |cons y r=>induction r using List.casesOn with
   |nil=>exact bp (Bb c) λh e=>lJ x y 1 (.inr<|.inl ⟨pV d,V⟩) h.1 h.2 (by decide) (by decide) e
   |cons z r=>induction r using List.casesOn with
    |nil=>exact bp (Bb c) λh e=>lJ x y z (.inr<|.inr<|pV d) h.1 h.2.1 h.2.2.1 h.2.2.2 e
    |cons=>exact aS c
def PC(S:W.y)(co:w.f)(c:cZ w.A){nm}{p pos}{ds}{es}
  (hk:w.env.kindOf nm=Y .globalImplicit) (hd:(nm==("__debug__"))=false) (hn:nsIn W.K d9 nm=Y O) (hb:gX nm=Y (.type "range")) (D:nm≠"__name__")
  (h:c6 (λd e=>bD W w K m mc d<|eval e w.env) ds es) (E:dW es=true) {R:List AV->List AV->Hp->Prop}
  (d:eL ds (λvs H=>match dX .b H vs with|some A=>R vs A H|aY=>False) H) (a1:St W w m mc H s)
  (hQ:∀l vs A H' s' j P,Nx W H s H' s'->dX .b H' vs=Y A->R vs A H'->iC W .b vs A l P H' s' j->Q l j):
  bw (bM W.p W.w) w.A (eval (.Call (.Name nm p) es [] pos) w.env) (λx s₁=>bw (bM W.p W.w) w.A (jZ x) Q (eG W K H s) s₁) (eG W K H s) s:=by
 refine(?_:bw _ _ (eval (.Name nm p) w.env>>=λv=>kR pos v [] (j1 pos<|iY es w.env) []) _ _ s);refine aN<|mU S co a1.ag hk hd hn hb D ?_;refine uY (P:=λh=>W.K.In h) (by refine U (jk pos w.env E) ?_;simp) (λh X=>jW.c _ h X) ?_;have M:∀args{C}{G},(args=[]\/∃x r,args=(false,x)::r)->bw (bM W.p W.w) w.A (qu args) C G s->bw (bM W.p W.w) w.A (evalArgs (.type "range") true args []) (λa s'=>a.kw=[]/\C a.pos s') G s:=λargs C G a4 T=>by
  rcases a4 with rfl|⟨x,r,rfl⟩;·exact Jl<|cS T (λ_ _ y=>⟨V,y⟩) λ_ _ y=>y
  ·exact vS<|cS T (λ_ _ y=>⟨V,y⟩) λ_ _ y=>y
 refine cS (M _ (by
  refine U (jk pos w.env E) ?_;induction es using List.casesOn with
  |nil=>exact .inl V
  |cons e r=>exact .inr (pQ _ _ V)) (lB (pos:=pos) h E _ H s d a1)) (λa s1 y=>?_) λ_ _ y=>y
 refine xC y λL vs q a0 N n=>?_;refine⟨a0.i.G S,?_⟩;refine U L ?_;cases e:dX .b q vs with
 |none=>rw[e]at n;exact n.elim
 |some A=>
  rw[e]at n;refine lO (FO e) λx y z hv hx hy hz a2 hi=>?_;have f:∀{s2}{r}{t u v:Tok},IsRange s2.heap r x y z t u v->Nx W H s q s2->bw (bM W.p W.w) w.A (jZ<|.ref r) Q (eG W K H s) s2:=
   λhr n2=>aa4 hr hx hy hz a2 hi λl s3 bg=>hQ l vs A q _ s3 _ n2 e n bg
  have B:∀{h'}{t},(∀x o,s1.heap.get? x=Y o->h'.get? x=Y o)->Nx W H s q {s1 with heap:=h',toks:=t}:=λk=>a0.p<|Nx.r a0.i k;rcases hv with⟨ev,ex,I⟩|⟨ev,I⟩|ev
  ·subst ev ex I
   (refine xB (hY N.1) λu i t g=>?_;subst g)
   refine U i ?_;exact call_range_1<|f (DL ..)<|B λ_ _ e=>fC _ e
  ·subst ev I
   (refine BA (lF N.1) λu u2 i zz a3 b=>aF zz λt g=>?_;subst g;subst b)
   refine U i ?_;exact call_range_2<|f (DL ..)<|B λ_ _ e=>fC _ e
  ·subst ev
   (refine fw (tF N.1) λu u2 u3 i z1 z2 z3=>aF z1 λt g=>aF z2 λa3 b=>aF z3 λZ F=>?_;subst g;subst b;subst F)
   refine U i ?_;refine call_range_3 a2 (f (DL ..)<|B λ_ _ e=>fC _ e) ?_;refine .inl<|LH ?_;rcases(by omega:z.natAbs=0\/z.natAbs=1\/z.natAbs=2)with h|h|h<;>refine U h ?_<;>decide
def PE(r:W.y)(G:w.f)(c:cZ w.A)
  (S:w.env.kindOf nm=Y .globalImplicit) (a2:(nm==("__debug__"))=false) (a0:nsIn W.K d9 nm=Y O) (I:gX nm=Y (.type "enumerate")) (j:nm≠"__name__")
  (hx:bD W w K m mc z<|eval x w.env) (B:dW [x]=true) {R:List AV->List AV->Hp->Prop}
  (d:z (λv H=>match dX .c H [v]with|some A=>R [v] A H|aY=>False) H) (D:St W w m mc H s)
  (M:∀u vs A Z s' f P,Nx W H s Z s'->dX .c Z vs=Y A->R vs A Z->iC W .c vs A u P Z s' f->Q u f):
  bw (bM W.p W.w) w.A (eval (.Call (.Name nm p) [x] [] pos) w.env) (λx s₁=>bw (bM W.p W.w) w.A (jZ x) Q (eG W K H s) s₁) (eG W K H s) s:=by
 refine(?_:bw _ _ (eval _ w.env>>=λv=>kR pos v [] _ []) _ _ s);refine aN<|mU r G D.ag S a2 a0 I j ?_;refine uY (P:=λh=>W.K.In h) (by refine U (jk pos w.env B) ?_;rfl) (λh X=>jW.c _ h X) ?_;refine U (jk pos w.env B) ?_;refine vS<|ph ?_;refine cS (hx _ H s d D) (λv s1 y=>vR ?_) λ_ _ y=>y;refine cj y λva E n F k=>?_;refine⟨n.i.G r,?_⟩;refine aH (Ge k) λA e k=>?_;have C:(cf E va).map (λl=>l.zipIdx.map λp=>AV.l [.c p.2,p.1])=Y A:=e;rw[qE]at C;refine aH C λL a1 _=>?_
 (refine eh (hB n.i F a1) λl a3 q g a4 _=>?_;subst q)
 refine call_enumerate_list g.isList λh' i o N a=>?_;have T:=Nx.r (t:=s1.toks) n.i a;exact aa6 T.i e i o (ma<|ec _) (pe<|mg _) (kz _) n.i a F V V λb=>M _ _ A E s1 _ _ n e k b
end
structure kK(W:Wd)(H:Hp)(s:bU)(av:AV)(e:bI)(s':bU):Prop where
 r:uQ W.T s.heap av e s'.heap
 k:K7 W W.v H s s'
theorem kK.p(n:cY W H s kJ s₁)(f:kK W kJ s₁ av e s'):kK W H s av e s':=
 ⟨f.r.F λ_ q=>n.p.p q,n.p.j f.k.a,λx o h e=>(n.y x o h e).j λb a=>f.k.e x b h a,f.k.c,f.k.b.trans n.r,f.k.d.trans n.z⟩
def nh.kd(f:nh W H s av e s')(h:∀x,W.v x->W.fr x):kK W H s av e s':=
 ⟨f.r,f.k.a,λx o a e=>f.k.e x o (h x a) e,f.k.c,f.k.b,f.k.d⟩
noncomputable def K6(W:Wd)(H:Hp)(h:Heap):Fl->Flow->Prop
 |.a,f=>f=.next
 |.d,f=>f=.brk
 |.c v,f=>∃u,f=.ret u/\aT W.T (aU W.fr H) h v u
 |.b _,_=>False
noncomputable def jo(W:Wd)(A:Cx)(K:FK)(H:Hp)(s:bU)(f:Flow)(c:bU):Prop:=∃a m b,cY W H s b c/\St W A m [] b c/\K6 W b c.heap a f/\K a m b
noncomputable def nj(W:Wd)(A:Cx)(K:FK)(H:Hp)(s:bU)(e:bI)(b:bU):Prop:=∃a m,K (.b a) m Hp.aw/\St W A m [] Hp.aw b/\kK W H s a e b
def jo.h{K}(n:cY W H s b a)(x:jo W A K b a f s'):jo W A K H s f s':=fw x λc m g d e r k=>dG c m g (n.q d) e r k
def nj.g{K}(n:cY W H s b a)(x:nj W A K b a e s'):nj W A K H s e s':=cj x λd m k c f=>bQ d m k c<|f.p n
def nh.u{H}{s p}{k}{e}(st:St W A m mc H s)(f:nh W H s k e p):St W A m mc Hp.aw p:=by
 obtain⟨_,c,b,d,h,i⟩:=f;have g:bu W Hp.aw p.heap:=⟨d,λx o e=>c.i x o (st.ag.D x o e)<|st.ag.F x o e,⟨λa o e=>aS e,λ_ _ _ _ _ _ _ e=>aS e,λ_ _ _ _ e=>aS e,λx n=>⟨V,λ_ _ _ e=>aS e⟩,λx n=>by refine aF (st.ag.z.Q x n) λo e=>?_;refine aH (b x o n e) λl j _=>?_;exact⟨_,j⟩⟩⟩
 exact⟨g,st.fr.nx ⟨c,b,g,h,i⟩⟩
noncomputable def eC(W:Wd)(A:Cx)(d:ba->FK->Hp->Prop)(t:Sem Flow):Prop:=
 ∀m K H s X,d m K H->St W A m [] H s->PassesOwn (bM W.p W.w) A.A A.env X->(∀e a,nj W A K H s e a->X e a)->
  bw (bM W.p W.w) A.A t (jo W A K H s) X s
section
variable {W:Wd}{A:Cx}{m:ba}{K:FK}{H:Hp}{s:bU}{X:bI->bU->Prop}
def rN(c:St W A m [] H s)(x:eG W (λe=>K (.b e) m) H s e s'):nj W A K H s e s':=aH x λd a b=>bQ d m a (b.u c)<|b.kd c.fr.uf
def iO(h:aQ W A.A (λe=>K (.b e) m) R Q t H s)(c:St W A m [] H s)(d:∀e i,nj W A K H s e i->X e i)
  (g:∀v b j i,Nx W H s j i->St W A m [] j i->R j i.heap b v->Q b j->(∀e a,nj W A K j i e a->X e a)->bw (bM W.p W.w) A.A (k v) (jo W A K j i) X i):
  bw (bM W.p W.w) A.A (t>>=k) (jo W A K H s) X s:=by
 refine aN<|cS h (λv i x=>?_) λe i x=>d e i<|rN c x;refine cj x λb j n r q=>?_;exact cS (g v b j i n (c.nx n) r q λe a x=>d e a<|x.g<|n.kd c.fr.uf) (λf a x=>x.h<|n.kd c.fr.uf) λ_ _ x=>x
noncomputable def uM(W:Wd)(A:Cx)(d:(ba->Hp->Prop)->ba->AV->(AV->Hp->Prop)->Hp->Prop)(t:bI->Sem Unit):Prop:=
 ∀m v u K E H s,d K m v E H->St W A m [] H s->aT W.T (aU W.fr H) s.heap v u->
  bw (bM W.p W.w) A.A (t u) (λ_ c=>∃b a,cY W H s a c/\St W A b [] a c/\K b a) (eG W E H s) s
def RL{t:Sem Unit}{o:ba->Hp->Prop}(d:f=.next)(b:∀j i,o j i->K .a j i)(h:bw (bM W.p W.w) A.A t (λ_ l=>∃j i,cY W H s i l/\St W A j [] i l/\o j i) (eG W (λe=>K (.b e) m) H s) s)
  (g:St W A m [] H s) (c:∀e l,nj W A K H s e l->X e l):bw (bM W.p W.w) A.A (t>>=λ_=>pure f) (jo W A K H s) X s:=by
 refine aN<|cS h (λ_ l x=>br ?_) λe l x=>c e l<|rN g x;refine cj x λj i n a k=>?_;exact dG .a j i n a d<|b j i k
def QK(c:A.f)(e:A.e=false)(h:gU A i n):uM W A (λK m v _=>K<|m.set i<|Y v)<|kT (.Name n p) A.env:=λm v u K E H s d f r=>
 sf (nU c f e h.1 h.2 r λg b a=>bQ _ H b a d)
def KP:∀{l:List<|Nat×Str},c6 (λp e=>gU A p.1 p.2/\∃q,e=.Name p.2 q) l jP->
  c6 (λp t=>gU A p.1 p.2/\kI W A.A A.env p.2 t) l ((nz jP A.env).map (·.2))/\(nz jP A.env).findIdx? (·.1)=O/\(nz jP A.env).length=jP.length:=by
 induction jP with
 |nil=>intro l h;cases h;exact bW .d V V
 |cons e r i=>
  intro l h;cases h with
  |cons f j=>
   (refine Ji f λg q d=>?_;clear f;subst d)
   refine dN (i j) λa b c=>?_;refine bW (.cons ⟨g,.a⟩ a) ?_<|by refine(?_:(_::nz r A.env).length=_);simp[c]
   refine U Ms ?_;simp[b]
def QL(g:A.f)(c:cZ A.A)(i:A.e=false){t}{k}{p}{l:List<|Nat×Str}(h:c6 (λp e=>gU A p.1 p.2/\∃q,e=.Name p.2 q) l t):
  uM W A (λK m v _ H=>(match gn m (l.map (·.1)) true v with|some w=>K w H|none=>False)) (kT (.Tuple t k p) A.env):=λm v u K E H s d j r=>by
 refine dN (KP (W:=W) h) λa b o=>?_;have d:=d;refine aH (wX d) λw e d=>?_;exact aN<|eN<|Eu g c i a b j r e λx n f=>bQ w H n f d
def Gh{K:ba->Hp->Prop}(c:∀d,Kc d->K m d)(a:St W A m [] H s)(h:aQ W A.A E (RU (α:=Unit) (β:=Unit)) (λ_=>Kc) t H s):
  bw (bM W.p W.w) A.A t (λ_ e=>∃f d,cY W H s d e/\St W A f [] d e/\K f d) (eG W E H s) s:=
 cS h (λ_ e x=>by exact cj x λb d n _ q=>bQ m d (n.kd a.fr.uf) (a.nx n)<|c d q) λ_ _ x=>x
def aQ.G{A:di}{E:VK}{t:Sem Unit}{l k:List bI}{Q:Hp->Prop}(h:aQ W A E (RU (α:=Unit) (β:=Unit)) (λ_=>Q) t H s):aQ W A E (RU (α:=Unit) (β:=Unit)) (λ_=>Q) (t>>=λ_=>release l k) H s:=
 aN (cS h (λ_ _ x=>yd x) λ_ _ x=>x)
end
section
variable {W:Wd}{A:Cx}{K:FK}{H:Hp}{s:bU}{X:bI->bU->Prop}
def QN(g:W.y)(c:cZ A.A){C i:Nat}{b}{e:VK->ba->ei}(k:jq W.K<|W.T C)(q:(W.T C).b[i]? =Y b)(w:∀E m,bD W A E m [] (e E m)<|eval o A.env):
  uM W A (λK m v E=>e E m λj=>ke C i j v<|K m) (kT (.Attribute o b p) A.env):=λm v u K E H s d f r=>by
 refine Gh (λ_ x=>x) f ?_;refine aQ.C (aQ.y<|w E m _ H s d f) λa z t y n l h=>aQ.z ?_;exact aQ.G<|aQ.y<|Jw g n.i c k q l (aT.d n.j _ _ r) h
def QM(j:W.y)(c:cZ A.A){f h:VK->ba->ei}(G:∀E m,bD W A E m [] (f E m)<|eval o A.env)(q:∀E m,bD W A E m [] (h E m)<|eval i A.env):
  uM W A (λK m v E=>f E m λD=>h E m λl=>pE D l v<|K m) (kT (.Subscript o i p) A.env):=λm v u K E H s d e r=>by
 refine U (arm_assign_Subscript _ _ _ _ _) ?_;refine Gh (λ_ x=>x) e ?_;refine aQ.C (aQ.y<|G E m _ H s d e) λa D y F g t k=>aQ.C (aQ.y<|q E m _ y F k<|e.nx g) λb C B I n w z=>aQ.z ?_;exact aQ.G<|aQ.y<|Jv j n.i c (aT.d n.j _ _ t) w (aT.d n.j _ _<|aT.d g.j _ _ r) z
def wz{f:VK->ba->ei}{t a:Expr}(k:uM W A i<|kT t A.env)(z:∀E m,bD W A E m [] (f E m)<|eval a A.env)
  (n:(nz [t] A.env).map (·.2)=[kT t A.env]) (l:nq a (Y t) pos.line A.env=pure false) (p:nr [t] a A.env=pure O):
  eC W A (λm K=>f (λe=>K (.b e) m) m λv=>i (K .a) m v λe=>K (.b e) m) (exec (.Assign [t] a pos) A.env):=λm K H s X d g u o=>by
 refine U (uZ _ _ _ _) ?_;refine aN<|eN ?_;refine(?_:bw _ _ (nq a _ pos.line A.env>>=_) _ _ s);refine U l ?_;refine aN<|br ?_;refine U (if_neg<|by decide) ?_;refine iO (z _ m _ H s d g) g o λv b q y w c r j h=>?_;refine U p<|U n ?_;refine aN<|br ?_;refine(?_:bw _ _ _ _ _ y);exact RL V (λ_ _ x=>x) (k m b v _ _ q y j c r) c h
def QH(D:A.f)(c:cZ A.A)(M:A.e=false){z:VK->ba->ei}{Z}{k}{p pos:Pos}{f}{l:List<|Nat×Str}(I:∀q∈l,gU A q.1 q.2)(w:(l.map (·.1)).Nodup)
  (hx:∀E m,bD W A E m [] (z E m)<|eval f A.env) (F:nq f (Y<|.Tuple Z k p) pos.line A.env=pure false) (R:nr [.Tuple Z k p] f A.env=pure (Y<|l.map (·.2))):
  eC W A (λm K=>z (λe=>K (.b e) m) m λv H=>(match gn m (l.map (·.1)) true v with|some m'=>K .a m' H|none=>False)) (exec (.Assign [.Tuple Z k p] f pos) A.env):=λm K H s X d C a2 L=>by
 refine U (uZ _ _ _ _) ?_;refine aN<|eN ?_;refine(?_:bw _ _ (nq f (Y<|.Tuple Z k p) pos.line A.env>>=_) _ _ s);refine U F ?_;refine aN<|br ?_;refine U (if_neg<|by decide) ?_;refine iO (hx _ m _ H s d C) C L λv b S s1 T g a0 u G=>?_;refine U R ?_;refine aN<|br ?_;refine aH (wX u) λm' e u=>?_
 (refine cw (Ch e) λvs o a x=>?_;clear e;subst o;subst x)
 simp only[bx]at a;refine aN<|oF<|aN<|zw c g.ag a0 (by simp;exact dB (aW [_,_] (.v 0) (.v 1) [(.v 0,.v 1)] V<|bb a)<|aW [_,_] (.v 1) (.v 0) [(.v 1,.v 0)] V<|bb<|cc a) λus s2 B _ P=>?_;have i:c6 (λp t=>gU A p.1 p.2/\kI W A.A A.env p.2 t) l.reverse<|(l.map (·.2)).reverse.map λn=>bindName A.env n:=by
  refine aP sL<|U lr ?_;have:∀l:List<|Nat×Str,(∀q∈l,gU A q.1 q.2)->c6 (λp t=>gU A p.1 p.2/\kI W A.A A.env p.2 t) l (l.map<|(λn=>bindName A.env n)∘(·.2)):=λl=>by
   induction l with
   |nil=>intro _;exact .d
   |cons q r a1=>intro h;exact .cons ⟨h q<|.head _,.b⟩<|a1 λq y=>h q<|.tail _ y
  exact this _ λq y=>I q<|sJ.mp y
 refine aN<|ER D M i (by simp;exact dB (aW [_,_] (.v 0) (.v 1) [(.v 0,.v 1)] V<|bb<|cc a)<|aW [_,_] (.v 1) (.v 0) [(.v 1,.v 0)] V<|bb a) P.j (g.nx B) λa3 Q j=>br ?_;refine dG .a _ S ((B.kd g.fr.uf).q Q) j V ?_;have N:(l.reverse.map (·.1)).zip vs.reverse=((l.map (·.1)).zip vs).reverse:=by exact U sL<|U sG<|U sG<|U (List.reverse_zipWith<|by simp;exact dB (aW [_,_] (.v 0) (.v 1) [(.v 0,.v 1)] V<|bb a)<|aW [_,_] (.v 1) (.v 0) [(.v 1,.v 0)] V<|bb<|cc a) V
 refine U N (U (Fj (by refine U (Mh (by simp;exact aW [_,_] (.v 0) (.v 1) [((.v 0),(.v 1))] V (bb a)))<|w)) ?_)
 exact u
def QC(h:A.f){c:VK->ba->ei}(q:∀E m,bD W A E m [] (c E m)<|eval value A.env)(i:nq value O pos.line A.env=pure false):
  eC W A (λm K=>c (λe=>K (.b e) m) m λ_=>K .a m) (exec (.Expr value pos) A.env):=λm K H s X d f o k=>by
 refine U (arm_exec_Expr _ _ _) ?_;refine aN<|eN ?_;have l:interactive A.env=false:=by unfold interactive;refine U h.a ?_;rfl
 refine U l ?_;refine U (if_neg<|by decide)<|U i ?_;refine aN<|br ?_;refine U (if_neg<|by decide) ?_;exact iO (q _ m _ H s d f) f k λv b n t p a r g j=>wpAny_dropValue<|dG .a m n (.v a.ag) a V g
def Qw{f:VK->ba->ei}(o:∀E m,bD W A E m [] (f E m)<|eval a A.env):eC W A (λm K=>f (λe=>K (.b e) m) m λv=>K (.c v) m)<|exec (.Return (Y a) pos) A.env:=
 λm K H s X d g l j=>by
 refine(?_:bw _ _ (gF pos>>=λ_=>eval a A.env>>=λv=>pure _) _ _ s);refine aN<|eN ?_;exact iO (o _ m _ H s d g) g j λv b k p n c r h i=>br<|dG (.c b) m k (.v c.ag) c (aO v V r) h
def QD:eC W A (λm K=>K .d m)<|exec (.Break pos) A.env:=λm K H s X d a b h=>wpAny_Break<|dG .d m H (.v a.ag) a V d
def Qy:eC W A (λm K=>K .a m)<|exec (.Pass pos) A.env:=λm K H s X d a b h=>by exact U (arm_exec_Pass _ _)<|aN<|eN<|br<|dG .a m H (.v a.ag) a V d
def QA{f:VK->ba->ei}{c}{b o:List Stmt}(p:∀E m,ig W A E m [] (f E m)<|fA t A.env<|eval t A.env)(n:eC W A c<|iZ b A.env)(l:eC W A db<|iZ o A.env):
  eC W A (λm K=>f (λe=>K (.b e) m) m λv H=>(match v with|.e r=>(if r then c m K else db m K) H|_=>False)) (exec (.If t b o pos) A.env):=λm K H s X d j i u=>by
 refine U (arm_exec_If _ _ _ _ _) ?_;refine aN<|eN ?_;refine iO (p _ m (λr H=>(if r then c m K else db m K) H) H s d j) j u λr w k y x a q g h=>?_;subst q;induction r using Bool.casesOn;·exact l m K k y X g a i h
 ·exact n m K k y X g a i h
def Qz:eC W A (λm K=>K .a m)<|iZ [] A.env:=λm K H s X d a b h=>br<|dG .a m H (.v a.ag) a V d
def Qv(q:eC W A d1<|exec PI A.env)(t:eC W A d2<|iZ r A.env):eC W A (λm K=>d1 m<|e9 (λy o=>d2 y o) K)<|iZ (PI::r) A.env:=
 λm K H s X d w h i=>by
 set_option backward.match.sparseCases true in refine(?_:bw _ _ _ _ _ s)
 refine aN<|cS (q m _ H s X d w h λe B x=>i e B<|cj x λl y k b f=>bQ l y k b f) (λf B x=>?_) λ_ _ x=>x;refine fw x λj y z n b a k=>?_
 match j,a,k with
 |.a,a,k=>
  have a:=a;subst a;exact cS (t y K z B X k b h λe c x=>i e c<|x.g n) (λf c x=>x.h n) λ_ _ x=>x
 |.d,a,k=>
  have a:=a;subst a;exact br<|dG .d y z n b V k
 |.c v,a,k=>
  (refine aH a λu g p=>?_;clear a;subst g)
  exact br<|dG (.c v) y z n b (aO u V p) k
end
section
variable {W:Wd}{cx:Cx}{m q:ba}{K:FK}{H H':Hp}{s s₁:bU}{EE:bI->bU->Prop}{A:di}
def Vc(a:cx.f)(l:cx.e=false){t}(h:gU cx i t)(j:m[i]? =Y (Y v))(k:St W cx m q H s)
  (f:∀u,aT W.T (aU W.fr H) s.heap v u->Q u s):bw (bM W.p W.w) A (loadName cx.env t) Q E s:=by
 obtain⟨⟨p,o,n,hc,d⟩,_⟩:=k.fr;refine bq h.2 (λb=>?_) λb=>?_;·exact aH ((d.1 i t v h.1 j).1 l b) λu e r=>yf a.a b n e<|f u r
 ·refine aH ((d.1 i t v h.1 j).2 b) λu e r=>aF (a.h t b) λc g=>Le a.a b g (e▸hc t c g)<|f u r
noncomputable def zJ(d:ei)(o:oE)(a:AV)(p:AV->Hp->Prop):Hp->Prop:=d λb H=>(match a,b with
  |.c _,.c _=>iw o false a b p H
  |_,_=>False)
def BH(g:bu W H s.heap)
  (d:(match x,y with|.c _,.c _=>iw op false x y Q H|_,_=>False)) (e:aT W.T (aU W.fr H) s.heap x a) (r:aT W.T (aU W.fr H) s.heap y b) (c:lG o=Y op) (h:op=.a\/op=.b):aQ W A E (RV W) Q (inplaceOp o a b) H s:=by
 induction x using bc.AV.casesOn with
 |c x=>induction y using bc.AV.casesOn with
  |c y=>exact Zn g e r d c h
  |_=>exact d.elim
 |_=>exact d.elim
def QE(r:cx.f)(c:cZ cx.A)(t:cx.e=false){A}{w:VK->ba->ei}(n:gU cx i A)(L:lG o=Y op)(h:op=.a\/op=.b)
  (Q:∀E m,bD W cx E m [] (w E m)<|eval f cx.env):
  eC W cx (λm K H=>(match m[i]? with|some (some a)=>zJ (w (λe=>K (.b e) m) m) op a (λv=>K .a<|m.set i<|Y v) H|_=>False)) (exec (.AugAssign (.Name A I) o f pos) cx.env):=λm K H s EE d p N G=>by
 refine U (arm_exec_AugAssign _ _ _ _ _ _) ?_;refine aH (zL d) λa X d=>?_;refine aN<|eN<|aN<|Vc r t n X p λu z=>?_;refine iO (aQ.y<|Q _ m _ H s d p) p G λv b P T q g D B j=>?_;refine aN<|eN ?_;refine iO (aQ.D<|BH q.i B (aT.d q.j _ _ z) D L h) g j λv b x S Z l F M C=>?_;refine aN<|eN<|aN<|yh<|nU r l t n.1 n.2 F λR y k=>br ?_;exact dG .a _ x y k V M
def QG(I:W.y)(c:cZ cx.A){T}{S A}{a0 j:VK->ba->ei}(z:jq W.K<|W.T C)(F:(W.T C).b[i]? =Y nm)(a4:lG o=Y op)(l:op=.a\/op=.b)
  (w:∀E m,bD W cx E m [] (j E m)<|eval T cx.env) (hx:∀E m,bD W cx E m [] (a0 E m)<|eval f cx.env):
  eC W cx (λm K=>j (λe=>K (.b e) m) m λu=>ov C i u λa=>zJ (a0 (λe=>K (.b e) m) m) op a λv=>ke C i u v<|K .a m) (exec (.AugAssign (.Attribute T nm S) o f A) cx.env):=λm K H s EE d G hp a2=>by
 refine U (arm_exec_AugAssign_2 _ _ _ _ _ _ _) ?_;refine aN<|eN ?_;refine iO (w _ m _ H s d G) G a2 λu a1 H1 s1 L g D N q=>?_;refine iO (R:=RV W) (Q:=λv=>ke C i a1 v<|K .a m) ?_ g q λv b y s2 n t P x r=>?_
 ·refine aQ.y (aQ.z<|aQ.C (JD I L.i z F D N) λa va y s2 n X x=>aQ.C (aQ.y<|hx _ m _ y s2 x<|g.nx n) λb vb B Z k a3 p=>aQ.z ?_);exact aQ.D<|BH k.i p (aT.d k.j _ _ X) a3 a4 l
 ·refine aN (eN ?_);refine iO (R:=RU) (aQ.y<|Jw I n.i c z F (aT.d n.j _ _ D) P x) t r λv b B Z k h r3 p M=>?_;exact aN<|yd<|br<|dG .a m B (.v h.ag) h V p
def acr o i v e:cond (tW e) True (augStore e o i v=(do
  iE [v,o,i] (uU o i v)
  release [v,o,i] []
  pure .next)):=by
 induction e using PySem.Expr.casesOn<;>first|exact kW|exact mz _
def QF(S:W.y)(c:cZ cx.A){l p}{T M a1:VK->ba->ei}(I:tW p=false)(w:lG o=Y op)(t:op=.a\/op=.b)
  (hl:∀E m,bD W cx E m [] (M E m)<|eval l cx.env) (a3:∀E m,bD W cx E m [] (a1 E m)<|eval p cx.env) (hx:∀E m,bD W cx E m [] (T E m)<|eval f cx.env):
  eC W cx (λm K=>M (λe=>K (.b e) m) m λg=>a1 (λe=>K (.b e) m) m λh=>mM g h λa=>zJ (T (λe=>K (.b e) m) m) op a λv=>pE g h v<|K .a m) (exec (.AugAssign (.Subscript l p a4) o f pos) cx.env):=λm K H s EE d P hp hE=>by
 refine U (arm_exec_AugAssign_3 _ _ _ _ _ _ _) ?_;refine aN<|eN ?_;refine iO (hl _ m _ H s d P) P hE λg bl H1 s1 n1 i N Z y=>?_;refine iO (aQ.y<|a3 _ m _ H1 s1 Z i) i y λh bi H2 s2 G k a0 d2 D=>?_;refine iO (R:=RV W) (Q:=λv=>pE bl bi v<|K .a m) ?_ k D λv b u q n B r3 x r=>?_
 ·obtain⟨_,_,_,_,X⟩:=Ju S G.i c (aT.d G.j _ _ N) a0 d2;refine aQ.y<|aQ.z<|aQ.C X λa va u q n A x=>aQ.C (aQ.y<|hx _ m _ u q x<|k.nx n) λb vb L a2 F rb C=>aQ.z ?_;exact aQ.D<|BH F.i C (aT.d F.j _ _ A) rb w t
 ·refine aN (eN ?_);have z:bw (bM W.p W.w) cx.A (iE [v,g,h] (uU g h v)>>=λ_=>release [v,g,h] []>>=λ_=>pure Flow.next) (jo W cx K u q) EE q:=by
   refine iO (aQ.y<|Jv S n.i c (aT.d (G.p n).j _ _ N) (aT.d n.j _ _ a0) r3 x) B r λ_ _ L a2 F j r4 C hE4=>?_;exact aN<|yd<|br<|dG .a m L (.v j.ag) j V C
  exact U (lH (acr g h v p) I) z
def Ag(x:eG W (λ_ _=>False) H s e s'):False:=aH x λ_ h _=>h
def Qt{z:VK->ba->ei}{y}(a0:∀E m,ig W cx E m [] (z E m)<|fA t cx.env<|eval t cx.env)(N:eC W cx y<|iZ b cx.env):
  eC W cx (λm K H=>∃n,qT (λT i=>z (λ_ _=>False) T λv H=>(match v with|.e b=>i b H|_=>False)) (λT i=>y T i) K n m H) (exec (.While t b [] pos) cx.env):=λm K H s EE d D Q R=>by
 refine aF d λn d=>?_;refine wpAny_While ?_;refine codeAny_whileLoop (λn X=>∃T H',cY W H s H' X/\St W cx T [] H' X/\qT (λT i=>z (λ_ _=>False) T λv H=>(match v with|.e b=>i b H|_=>False)) (λT i=>y T i) K n T H') ?_ n<|bQ m H (.v D.ag) D d
 rintro n s1 ⟨w,M,F,g,d1⟩
 induction n using Nat.casesAuxOn with
 |zero=>exact d1.elim
 |succ n=>
  refine cS (a0 _ w _ M s1 d1 g) (λr Z x=>?_) λe Z x=>(Ag x).elim;refine cj x λa1 B C I l=>?_;subst I;have j:=g.nx C;have a:=F.q<|C.kd g.fr.uf;induction r using Bool.casesOn with
  |false=>exact br<|dG .a w B a j V<|l
  |true=>
   have l:=l;refine cS (N w _ B Z (λ_ _=>False) l j PassesOwn.never λe X x=>?_) (λf S x=>?_) λ_ _ x=>x.elim;·refine fY x λP T k _=>k
   ·refine fw x λL A p o h c k=>?_
    match L,c,k with
    |.a,c,k=>
     subst c;exact⟨n,ec n,A,p,a.q o,h,k⟩
    |.d,c,k=>
     subst c;exact dG .a A p (a.q o) h V k
    |.c v,c,k=>
     (refine aH c λu q G=>?_;clear c;subst q)
     exact dG (.c v) A p (a.q o) h (aO u V G) k
end
section
variable {W:Wd}{P up:Addr->Prop}{cx:Cx}{m m' Z:ba}{K:FK}{H H' a:Hp}{s s₁ lA s':bU}{l:bI->bU->Prop}{A:di}
structure l3(P:Addr->Prop)(cx:Cx):Prop where
 w:¬P cx.env.locals
 v:∀n c,cx.env.cells.lookup n=Y c->¬P c
 u:∀env∈cx.a,∀L,env.frame=Y L->¬P L
def l3.y(k:St W cx m Z H s)(f:∀x,P x->s.heap.get? x=O):l3 P cx:=by
 have a:∀x o,s.heap.get? x=Y o->¬P x:=λx o e b=>by rw[f x b]at e;exact aS e
 obtain⟨⟨p,r,j,hc,_⟩,_,_,_,_,_,_,_,fr⟩:=k.fr;refine⟨?_,λn c e=>?_,λt d L h=>?_⟩;·exact aF (jA j) λo e=>a _ _ e
 ·exact aF (ri<|hc n c e) λo i=>a _ _ i
 ·refine Jh (fr t d) λ_ l o q _ g _=>?_;rw[h]at q;(have q:=bz q;subst q);exact a _ _ g
def iz.ah(N:iz W cx m Z H s.heap)(d:l3 P cx)(A:Tn0 P s s')(t:W'.T=W.T)(h:∀x,W.fr x->¬P x->W'.fr x)(f:∀x,W'.v x->W.v x)(w:∀x,W'.v x->W'.fr x)(B:W'.r=W.r)
  (z:∀a v,aT W.T (aU W.fr H) s.heap a v->aT W.T (aU W'.fr H) s'.heap a v):iz W' cx m Z H s'.heap:=by
 obtain⟨⟨S,D,K,hc,y⟩,a0,a2,Q,a3,uf,M,F,fr⟩:=N;refine⟨bQ S D ?_ (λn c e=>?_) ?_,h _ a0 d.w,λn c e=>h _ (a2 n c e)<|d.v n c e,λq=>Q<|f _ q,λn c e q=>a3 n c e<|f _ q,w,by refine U B<|M,λn c e=>by refine U B<|F n c e,λT k=>?_⟩;·exact gA K λo es a1 l r=>je o es a1 (A.c _ _ d.w l) r
 ·exact aH (hc n c e) λo l r=>aO o (A.c _ _ (d.v n c e) l) r
 ·exact⟨λi X v j g=>⟨λa b=>aH ((y.1 i X v j g).1 a b) λu e r=>aO u e<|by refine U t<|z _ _ r,λa=>aH ((y.1 i X v j g).2 a) λu e r=>aO u e<|by refine U t<|z _ _ r⟩,λa i X v j g b=>aH (y.2 a i X v j g b) λu e r=>aO u e<|by refine U t<|z _ _ r⟩
 ·exact ib (fr T k) λG L o p I C E R=>jI G L o p (U B<|I) (A.c _ _ (d.u T k L p) C) E<|h _ R<|d.u T k L p
def St.ao(c:St (W.q P up) cx m Z H s)(d:l3 P cx)(h:∀x,P x->W.r.get? x=O)(t:Tn P s s'):St (W.q P up) cx m Z H s':=by refine bp (nS c.ag (λx e=>.inr e) h t.c t.d) λb g=>?_;exact⟨g,c.fr.ah d t.toTn0 V (λx e _=>e) (λx e=>e) c.fr.uf V λa v r=>aT.d b a v r⟩
def df.v(a:St (W.q P up) cx m Z H s)(h:∀x,P x->W.r.get? x=O)(t:Tn P s s'):df (W.q P up).fr H s.heap H s'.heap:=
 (nS a.ag (λx b=>.inr b) h t.c t.d).1
def St.aj(C:St (W.q P up) cx m Z H s)(E:l3 P cx)(Q:∀x,P x->W.r.get? x=O)(l:∀x,W.fr x->¬P x)(t:∀x,W.v x->up x)(d:∀x,W.v x->W.fr x)
  (y:W.fr cx.env.locals) (k:∀n c,cx.env.cells.lookup n=Y c->W.fr c) (p:∀env∈cx.a,∀L,env.frame=Y L->W.fr L) (B:Tn0 P s s'):St W cx m Z H s':=by
 refine bp (C.ag.Z Q l B.c) λg T=>?_;have h:=C.fr.ah (W':=W.q (λ_=>False) W.v) E B V (λx hx D=>.inl<|hx.elim id λq=>absurd q D) t (λx hx=>.inl<|d x hx) V
  (λa v r=>(T a v r).i λx o e n=>by
   rintro (q|q|q|q)
   ·exact n<|.inl q
   ·exact n<|.inr<|.inl q
   ·exact n<|.inr<|.inr q
   ·exact q)
 obtain⟨⟨a0,G,a1,hc,w⟩,a4,a3,S,N,uf,R,a2,fr⟩:=h;refine⟨g,⟨bQ a0 G a1 hc ?_,y,k,S,N,d,R,a2,λenv z=>?_⟩⟩;·exact⟨λi nm v j f=>⟨λa b=>aH ((w.1 i nm v j f).1 a b) λu e r=>aO u e<|pj r,λa=>aH ((w.1 i nm v j f).2 a) λu e r=>aO u e<|pj r⟩,λa i nm v j f b=>aH (w.2 a i nm v j f b) λu e r=>aO u e<|pj r⟩
 ·exact ib (fr env z) λK L o A M F I X=>jI K L o A M F I<|p env z L A
def cY.D(u:cY (W.q P up) H s₁ H' s)(a:df (W.q P up).fr H' s.heap H' s'.heap)(g:bu (W.q P up) H' s'.heap)(h:∀x,up x->¬P x)(t:Tn0 P s s'):cY (W.q P up) H s₁ H' s':=
 ⟨u.p.j a,λx o c e=>(u.y x o c e).j λd b=>.i<|t.c x d (h x c) b,g,t.f.trans u.r,t.g.trans u.z⟩
def cY.C(h:∀x o,s.heap.get? x=Y o->s₁.heap.get? x=Y o)(i:s₁.gens=s.gens)(j:s₁.os=s.os)(f:∀x,P x->s.heap.get? x=O)(c:∀x,W.v x->up x)
  (u:cY (W.q P up) H s₁ H' lA) (t:Tn0 P lA s') (g:bu W H' s'.heap):cY W H s H' s':=by
 have a:∀x o,s.heap.get? x=Y o->¬P x:=λx o e d=>by rw[f x d]at e;exact aS e
 refine⟨⟨λx o e n=>(u.p.g x o (h x o e)<|jN f e n).j λk b=>.i<|t.c x k (a x o e) b,λx o e n=>lN<|u.p.i x o (h x o e)<|jN f e n,λx o e=>?_⟩,
  λx o l e=>(u.y x o (c x l) (h x o e)).j λk b=>.i (t.c x k (a x o e) b),g,t.f.trans (u.r.trans i),t.g.trans (u.z.trans j)⟩
 refine aF (u.p.f x o<|h x o e) λk b=>?_;exact⟨k,t.c x k (a x o e) b⟩
def cY.B(u:cY (W.q P up) H s H' s')(h:∀x,Et x->up x):cY (W.q P Et) H s H' s':=⟨u.p,λx o a e=>u.y x o (h x a) e,u.w.K,u.r,u.z⟩
def kK.t(h:∀x o,s.heap.get? x=Y o->s₁.heap.get? x=Y o)(k:s₁.gens=s.gens)(l:s₁.os=s.os)(a:∀x,P x->s.heap.get? x=O)(i:∀x,W.v x->up x)
  (f:kK (W.q P up) H s₁ av e s'):kK W H s av e s':=by
 obtain⟨x,b,c,d,j,g⟩:=f;exact⟨x.F λx e=>lI λo q=>aS<|e.symm.trans<|h x o q,⟨λx o e n=>b.g x o (h x o e)<|jN a e n,λx o e n=>lN<|b.i x o (h x o e)<|jN a e n,λx o e=>b.f x o<|h x o e⟩,
  λx o m e=>c x o (i x m) (h x o e),d,j.trans k,g.trans l⟩
def gp.E(n:cY W H s H' s')(B:∀x,P x->W.v x)(x:gp W P items k vs it j H s.heap):gp W P items k vs it j H' s'.heap:=by
 have q:∀{I}{o},P I->s.heap.get? I=Y o->(∀D n,o.data≠.dict D n)->s'.heap.get? I=Y o:=λA e p=>(n.y _ _ (B _ A) e).l p;induction k using bc.gV.casesOn with
 |a=>
  (refine lP x λv I l d f b z u=>cw z λo t p i=>?_;subst d;subst f)
  exact pP v I l V V b (cq o (q b t<|by refine U i ?_;nofun) p i)<|aT.d n.p _ _ u
 |b=>
  (refine fw x λI a c d b y m=>?_;clear x;subst d)
  exact dG I a c V b (q b y λ_ _ h=>by cases h) m
 |c=>
  (refine uj x λv e I l C d f g b w r z u=>cw z λo t p i=>?_;subst d;subst f)
  exact w4 v e I l C V V g b w (q g r λ_ _ h=>by cases h) (cq o (q b t<|by refine U i ?_;nofun) p i)<|aT.d n.p _ _ u
noncomputable def CA(S:Nat->Str->Prop)(a:List Nat)(u:Bool)(t:Expr):Prop:=
 (∃n p i,t=.Name n p/\u=false/\a=[i]/\S i n)\/∃b k p,∃l:List (Nat×Str),t=.Tuple b k p/\u=true/\a=l.map (·.1)/\c6 (λp e=>S p.1 p.2/\∃q,e=.Name p.2 q) l b
abbrev Cz(cx:Cx):=CA<|gU cx
def aaZ(j:cx.f)(c:cZ cx.A)(o:cx.e=false)(h:Cz cx is c4 target)(g:gn m is c4 v=Y m')
  (x:St W cx m [] H s) (r:aT W.T (aU W.fr H) s.heap v u) (t:∀s',cY W H s H s'->St W cx m' [] H s'->Q () s'):bw (bM W.p W.w) cx.A (kT target cx.env u) Q E s:=by
 refine bq h (λh=>?_) λh=>?_
 ·(refine fw h λn p i e f d q=>?_;clear h;subst e;subst f;subst d)
  (have g:=bz g;subst g)
  exact sf<|nU j x o q.1 q.2 r t
 ·(refine uk h λw k p l e f d y=>?_;clear h;subst e;subst f;subst d)
  refine dN (KP (W:=W) y) λa b _=>?_;exact aN<|eN<|Eu j c o a b x r g t
def Xt(co:cx.f)(c:cZ cx.A)(hC:cx.e=false)(tZ:Cz cx is c4 target)(X:k=.c->lM target=true)
  (hb:∀P,eC (W.q P λx=>W.v x\/P x) cx db<|iZ b cx.env) (t:St W cx GD [] cP s) (hI:dX k cP vs=Y items) (g:iC W k vs items it P cP s s₁)
  (d:og (λH'=>eg k cP H' vs) is c4 (λm' a3=>db m' a3) K items GD cP) (F:PassesOwn (bM W.p W.w) cx.A cx.env l) (hE:∀e s',nj W cx K cP s e s'->l e s'):
  kP (bM W.p W.w) cx.A (.forLoop target it b [] cx.env) (λr s'=>match r with|.ok f=>jo W cx K cP s f s'|.error e=>cameBackBy (bM W.p W.w) cx.A cx.env l e s') s₁:=by
 have p:=g.i t.ag;have a2:=l3.y t g.a;have I:∀x,W.fr x->¬P x:=λx A F=>by refine aF (t.ag.z.Q x A) λo e=>?_;rw[g.a x F]at e;exact aS e
 have Xr:∀env∈cx.a,∀L,env.frame=Y L->W.fr L:=λenv he L hL=>by refine ib (t.fr.ag env he) λ_ L' o a1 _ _ _ q6=>?_;rw[hL]at a1;(have a1:=bz a1;subst a1);exact q6
 have M:=t.aq g.c g.a g.d λx A=>A;refine codeAny_forLoop_any (λn s'=>∃j m' H',j<=items.length/\n=items.length+1-j/\cY (W.q P W.v) cP s₁ H' s'/\St _ cx m' [] H' s'/\gp (W.q P λx=>W.v x\/P x) P items k vs it j H' s'.heap/\
  og (λH'=>eg k cP H' vs) is c4 (λm' a3=>db m' a3) K (items.drop j) m' H') ?_ _ (lJ 0 GD cP (cB _) V (.v M.ag.K) M (g.f _) d)
 rintro n s2 ⟨j,m2,H,hj,rfl,n2,h,A3,i⟩
 have C:eg k cP H vs:=by
  cases y:items.drop j with
  |nil=>rw[y]at i;exact i.1
  |cons a r=>rw[y]at i;exact i.1
 refine Ir (W:=W.q P λx=>W.v x\/P x) c h.ag (λx A=>.inr A) p (λx A=>h.ag.z.Q x<|.inr A) hI C A3 hj X (λBj s3 D=>?_) λa v s3 ha D rv A1=>?_
 ·
  rw[Bj,vM]at i;refine br ?_;have G:=h.aj a2 p I (λx A=>.inl A) t.fr.uf t.fr.ak t.fr.al Xr D;exact dG .a m2 H (cY.C g.c g.e g.j g.a (λx A=>A) n2 D G.ag) G V i.2
 ·have Q:j<items.length:=by
   have:=(et.mp ha).1;exact this
  have y:items.drop j=a::items.drop (j+1):=by refine U (oY Q) ?_;have:=(et.mp ha).2;exact U this V
  have i:=y▸i;have i:=i.2;refine aH (wX i) λm3 Bl i=>?_;refine aaZ (W:=W.q P λx=>W.v x\/P x) co c hC tZ Bl (h.ao a2 p D) rv λs4 n4 tw=>?_;have T:=(n2.D (df.v (up:=λx=>W.v x\/P x) h p D) (h.ao a2 p D).ag.K (λx A F=>I x (t.fr.uf x A) F) D.toTn0).q<|n4.B λx A=>.inl A;refine wpAny_passesOwn F ?_;refine cS (hb P m3 _ H s4 l i tw F λe N x=>?_) (λf N x=>?_) λ_ _ x=>x
  ·refine cj x λav R z B E=>hE e N (bQ av R z (t.ah B) ?_);exact kK.t g.c g.e g.j g.a (λx A=>A)<|(⟨E.r,E.k.a,λx o A e=>E.k.e x o (.inl A) e,E.k.c,E.k.b,E.k.d⟩:kK (W.q P W.v) H s4 av e N).p T
  ·refine fw x λfl R a0 n5 B m z=>?_;have a4:=T.q<|n5.B λx A=>.inl A;have S:∀{fl'}{Z},K6 W a0 N.heap fl' Z->K fl' R a0->jo W cx K cP s Z N:=λ{fl' Z}r q=>
    (dG fl' R a0 (cY.E g.c g.e g.j g.a (λx A=>A) a4) (t.ah B) r q)
   match fl,m,z with
   |.a,m,z=>
    have m:=m;subst m;exact⟨items.length+1-(j+1),by exact b8 λzg=>aJ [_,_,_,_] [] [.l 1 (.c<|.a bK aX)<|.c<|.a bA aX,.e 1 (.c<|.a bA<|.a bo<|.n 1)<|.c<|.a aZ<|.n 1,.e (-1) (.c<|.a bK bo)<|.c<|.a aZ<|.n 1] V zg (nE<|cb<|b8 (a:=j+1) (b:=items.length+1) λzc=>aJ [_,_] [] [.l 1 af aG,.l 1 (.c<|.a (.a aZ<|.n 1) aX)<|.c<|.a bo<|.n 1] V (nl hj) zc)<|nE<|cb<|b8 (a:=j) (b:=items.length+1) λzc=>aJ [_,_] [] [.l 1 af aG,.l 1 (.c<|.a (.a aZ<|.n 1) aX) af] V (nl hj) zc,j+1,R,a0,Q,V,a4,B,gp.E n5 (λx A=>.inr A)<|gp.E n4 (λx A=>.inr A) A1,z⟩
   |.d,m,z=>
    have m:=m;subst m;exact S (fl':=.a) V z
   |.c w,m,z=>
    (refine aH m λu jg ru=>?_;subst jg)
    exact S (fl':=.c w) (aO u V<|pj ru) z
end
section
variable {W:Wd}{T:Cx}{H:Hp}{s:bU}
def QB(N:T.f)(c:cZ T.A)(E:T.e=false)(q:Cz T is c4 target)(t:k=.c->lM target=true)
  (G:∀P,eC (W.q P λx=>W.v x\/P x) T db<|iZ b T.env) (i:∀x,so iter T.env x=pure x)
  (g:∀m K H s Q,d m K H->St W T m [] H s->
   (∀j S w R A a P,Nx W H s R A->dX k R S=Y w->og (λp=>eg k R p S) is c4 (λX a0=>db X a0) K w m R->iC W k S w j P R A a->Q j a)->
   bw (bM W.p W.w) T.A (eval iter T.env) (λx o=>bw (bM W.p W.w) T.A (jZ x) Q (eG W (λe=>K (.b e) m) H s) o) (eG W (λe=>K (.b e) m) H s) s):
  eC W T d (exec (.For target iter b [] pos) T.env):=λm K H s M L l D u=>by
 refine wpAny_For ?_ i;have h:=g m K H s (λj a=>kP (bM W.p W.w) T.A (.forLoop target j b [] T.env) (λr A=>match r with|.ok f=>jo W T K H s f A|.error e=>cameBackBy (bM W.p W.w) T.A T.env M e A) a) L l ?_;·exact cS h (λx Z y=>cS y (λ_ _ z=>z) λe A z=>u e A<|rN l z) λe A z=>u e A<|rN l z
 ·intro j S w R A a P n C I F;have B:=n.kd l.fr.uf;refine uW (Xt N c E q t G (l.nx n) C F I D λe v x=>u e v<|x.g B) λr v x=>?_;induction r using Except.casesOn with
  |ok f=>exact jo.h B x
  |error e=>exact x
def bu.al(g:bu W H s.heap)(c:∀x,fr₂ x->W.fr x)(l:∀x,W.fr x->¬fr₂ x->W.r.get? x=O)(i:∀x o,(W.fr x->fr₂ x)->s.heap.get? x=Y o->h'.get? x=Y o):
  bu {W with fr:=fr₂,v:=up₂} H h'/\∀a v,aT W.T (aU W.fr H) s.heap a v->aT W.T (aU fr₂ H) h' a v:=by
 have p:∀x,¬aU W.fr H x->¬aU fr₂ H x:=λx n=>by
  rintro (h|h|h)
  ·exact n<|.inl h
  ·exact n<|.inr<|.inl h
  ·exact n<|.inr<|.inr<|c x h
 have k:∀x o,s.heap.get? x=Y o->¬aU W.fr H x->d8 h' x o/\¬aU fr₂ H x:=λx o e n=>⟨.i<|i x o (λq=>absurd (.inr<|.inr q) n) e,p x n⟩;refine⟨⟨λx o e=>i x o (λq=>Classical.byContradiction λd=>by rw[l x q d]at e;exact aS e)<|g.D x o e,λx o e=>p x<|g.F x o e,⟨λb o e=>?_,g.z.inj,g.z.S,λx t=>g.z.W x<|c x t,λx t=>?_⟩⟩,λa v r=>r.f k⟩
 ·refine(g.z.M b o e).ag k λy f=>aF ((g.z.M b o e).X y f) λu q=>U q ?_;refine i y u (λj=>?_) q;have d:=g.z.W y j;induction o using bc.AO.casesOn with
  |bF C m w=>
   simp only[AO.l,gH,dM,or_false]at f;rcases f with rfl|rfl;·rw[d.1]at e;exact aS e
   ·exact absurd e<|d.2 _ _ _
  |_=>simp only[AO.l,dm]at f;subst f;rw[d.1]at e;exact aS e
 ·exact aF (g.z.Q x<|c x t) λo e=>⟨o,i x o (λ_=>t) e⟩
def iz.aq(I:iz W T m mc H h)(l:∀x o,W.fr x->h.get? x=Y o->d8 h' x o)(d:∀x,W.fr x->fr₂ x)(f:∀x,up₂ x->W.v x\/h.get? x=O)(p:∀x,up₂ x->fr₂ x)
  (s:∀a v,aT W.T (aU W.fr H) h a v->aT W.T (aU fr₂ H') h' a v):iz {W with fr:=fr₂,v:=up₂} T m mc H' h':=by
 obtain⟨⟨D,G,z,hc,t⟩,y,w,C,B,uf,E,N,fr⟩:=I;refine⟨bQ D G (d8.q (λo e=>l _ o y e) z) (λn c e=>d8.p (λo q=>l _ o (w n c e) q)<|hc n c e) ?_,d _ y,λn c e=>d _<|w n c e,λq=>?_,λn c e q=>?_,p,E,N,λS M=>?_⟩;·exact⟨λi R v j k=>⟨λa b=>aH ((t.1 i R v j k).1 a b) λu e r=>aO u e<|s _ _ r,λa=>aH ((t.1 i R v j k).2 a) λu e r=>aO u e<|s _ _ r⟩,λa i R v j k b=>aH (t.2 a i R v j k b) λu e r=>aO u e<|s _ _ r⟩
 ·refine bq (f _ q) (λq=>?_) λq=>?_;·exact C q
  ·refine aF (jA z) λo e=>?_;rw[q]at e;exact aS e
 ·refine bq (f _ q) (λq=>?_) λq=>?_;·exact B n c e q
  ·refine aF (ri<|hc n c e) λo g=>?_;rw[q]at g;exact aS g
 ·refine ib (fr S M) λZ L o F X K P A=>aH (l L o A K) λQ g _=>jI Z L _ F X g P<|d _ A
noncomputable def e0(T:Cx)(s:oN)(a:List<|Str×Addr)(C:Addr)(c:List Str):Cx:={T with env:=iF s a C T.env,d:=c,e:=true}
def iz.aj(l:iz W T m mc H h)n:iz W T m (dC n O) H h:=by obtain⟨⟨d,f,j,hc,q⟩,t,u,r,c,k,p,o,g⟩:=l;refine⟨(eX d f j hc (λi s v b e=>q.1 i s v b e) λa i s v b e=>?_),t,u,r,c,k,p,o,g⟩;have e:=vG▸e;split at e<;>cases e
def Fg(M:T.f)(N:St W T m mc H s)(I:T.e=true)(B:T.d.Nodup)(K:T.d[i]? =Y nm)(Z:T.env.kindOf nm=Y .local)
  (a4:aT W.T (aU W.fr H) s.heap v u) (a1:∀w,Tn (λx=>x=T.env.locals) s w->St W T m (mc.set i<|Y v) H w->Q () w):bw (bM W.p W.w) A (storeName T.env nm u) Q E s:=by
 obtain⟨g,⟨ml,X,P,hc,a0⟩,mV,iT,mK,pz,uf,L,S,D⟩:=N;have y:∀{j}{d},T.d[j]? =Y d->j≠i->d≠nm:=λ{j d}e p q=>p (by subst q;exact(Dz ((et.mp e).1) B).mp (e.trans K.symm))
 refine K9 Z P (λh' f h=>?_)<|by refine U M.a ?_;rfl
 have n:=v7 (k:=s.toks+1) g mV mK L h<|jA f;refine a1 _ ⟨⟨V,V,λx o hx e=>(h.2 x hx).trans e⟩,λx hx=>hx▸jA f⟩ ⟨n.w,(eX _ X f (λd c e=>(hc d c e).sameBut h λq=>M.d d c (kM e) q.symm) (λj d C l F=>⟨λa=>(by rw[I]at a;exact aV a),λb=>?_⟩) λ_ j d C l F b=>?_),mV,iT,mK,pz,uf,L,S,D.C h (by refine ia f λo es a3 a2 R _=>?_;exact .inl (je o es a3 a2 R))⟩
 ·exact aH ((a0.1 j d C l F).2 b) λG e r=>aO G e<|r.d n.p
 ·rcases ug F with⟨rfl,z⟩|⟨p,z⟩
  ·(have z:=bz z;subst z)
   rw[K]at l;(have l:=bz l;subst l);exact aO u (by simp)<|a4.d n.p
  ·have t:=y l p;exact aH (a0.2 I j d C l z b) λG e r=>aO G (by simp[t,e])<|r.d n.p
def Tn.j(h:∀x,P x->∃o,s.heap.get? x=Y o):Tn P s s:=⟨⟨V,V,λ_ _ _ e=>e⟩,h⟩
def Tn.i(a:Tn P s s₁)(b:Tn P s₁ lA):Tn P s lA:=⟨⟨b.f.trans a.f,b.g.trans a.g,λx o h e=>b.c x o h<|a.c x o h e⟩,b.d⟩
noncomputable def x9(T:Cx)(i:Nat)(n:Str):Prop:=T.d[i]? =Y n/\T.env.kindOf n=Y .local
def aad(y:T.f)(o:T.e=true)(g:T.d.Nodup):∀{l:List<|Nat×Str}{c}{w}{C}{G}{s}{Q}{E},
  c6 (λp t=>x9 T p.1 p.2/\kI W A T.env p.2 t) l c->w.length=l.length->bk W.T (aU W.fr H) s.heap w C->St W T m G H s->
  (∀F,Tn (λx=>x=T.env.locals) s F->St W T m (kf G<|(l.map (·.1)).zip w) H F->Q () F)->bw (bM W.p W.w) A (assignInOrder c C) Q E s:=by
 intro l;induction l with
 |nil=>
  intro c w C G s Q E h a r st d;cases h
  match w,a with
  |[],_=>
   match C,r with
   |[],_=>
    refine br<|d s (.j λx D=>?_) st;obtain⟨⟨z,B,a,_⟩,_⟩:=st.fr;exact D▸jA a
 |cons p l k=>
  intro c w C G s Q E h a r st d;cases h with
  |cons j q=>
   match w,a with
   |v::w,a=>
    match C,r with
    |u::C,r=>
     refine aN<|e5<|j.2 _ _ _ _<|Fg y st o g j.1.1 j.1.2 r.1 λF n i=>?_;exact k q (by simpa using a) (bk.d ((nS st.ag (P:=λx=>x=T.env.locals) (λx D=>D▸st.fr.ak) (λx D=>D▸st.fr.ao) n.c n.d).1) _ _ r.2) i λf e b=>d f (n.i e) b
abbrev uS(T:Cx):=CA<|x9 T
def aaF:∀{l:List<|Nat×Str},c6 (λp e=>x9 T p.1 p.2/\∃q,e=.Name p.2 q) l jP->
  c6 (λp t=>x9 T p.1 p.2/\kI W A T.env p.2 t) l ((nz jP T.env).map (·.2))/\(nz jP T.env).findIdx? (·.1)=O/\(nz jP T.env).length=jP.length:=by
 induction jP with
 |nil=>intro l h;cases h;exact bW .d V V
 |cons e r i=>
  intro l h;cases h with
  |cons f j=>
   (refine Ji f λg q d=>?_;clear f;subst d)
   refine dN (i j) λa b c=>?_;refine bW (.cons ⟨g,.a⟩ a) ?_<|by refine(?_:(_::nz r T.env).length=_);simp[c]
   refine U Ms ?_;simp[b]
def aaE(a0:T.f)(c:cZ A)(F:T.e=true)(y:T.d.Nodup)(h:uS T is c4 target)(q:gn mc is c4 v=Y jJ)
  (B:St W T m mc H s) (r:aT W.T (aU W.fr H) s.heap v u) (I:∀w,Tn (λx=>x=T.env.locals) s w->St W T m jJ H w->Q () w):bw (bM W.p W.w) A (kT target T.env u) Q E s:=by
 refine bq h (λh=>?_) λh=>?_
 ·(refine fw h λn p i d f j G=>?_;clear h;subst d;subst f;subst j)
  (have q:=bz q;subst q)
  exact sf<|Fg a0 B F y G.1 G.2 r I
 ·(refine uk h λN k p l d f j K=>?_;clear h;subst d;subst f;subst j)
  refine dN (aaF (W:=W) (A:=A) K) λa b _=>?_
  (refine cw (Ch q) λZ d t f=>?_;clear q;subst d;subst f)
  have g:=a.e;simp only[bx]at t g;refine(?_:bw _ _ (gF p>>=λ_=>unpack u _) _ _ s);refine aN<|eN ?_;unfold unpack;refine U b ?_;refine aN<|e5<|zw c B.ag r (dB (aW [_,_,_] (.v 0) (.v 1) [(.v 2,.v 1),(.v 0,.v 2)] V (bb t)<|bb<|cc g)<|aW [_,_,_] (.v 1) (.v 0) [(.v 2,.v 0),(.v 1,.v 2)] V (bb g)<|bb<|cc t) λS X D L M=>?_;exact aad a0 F y a (dB (aW [_,_] (.v 0) (.v 1) [(.v 0,.v 1)] V<|bb<|cc t)<|aW [_,_] (.v 1) (.v 0) [(.v 1,.v 0)] V<|bb t) M (B.nx D) λP z C=>I P ⟨⟨z.f.trans D.y,z.g.trans D.K,λx o R e=>z.c x o R<|L x o e⟩,z.d⟩ C
def aac(h:c6 (λd e=>ig W T E m mc d<|fA e T.env<|eval e T.env) ds ifs):∀K H s,ie true ds (λv H=>(match v with|.e b=>K b H|_=>False)) H->St W T m mc H s->
  aQ W T.A E RB K (forIn ifs true λc r=>if r=true then do let o<-fA c T.env<|eval c T.env;pure (pg o)else pure<|pg r) H s:=by
 have f:∀(l:List Expr)K H s,K false H->bu W H s.heap->aQ W T.A E RB K (forIn l false λc r=>if r=true then do let o<-fA c T.env<|eval c T.env;pure (pg o)else pure<|pg r) H s:=by
  intro l;induction l with
  |nil=>intro K H s k g;exact aQ.F g V k
  |cons e r i=>
   intro K H s k g;refine U (DA _ _ _ _) ?_;refine U (pure_bind _ _) ?_;exact i K H s k g
 induction h with
 |d=>intro K H s d st;exact aQ.F st.ag V d
 |cons y w i=>
  rename_i u e r t;intro K H s d st;refine U (DA _ _ _ _) ?_;refine U (bind_assoc _ _ _) ?_;refine(y (λc H=>if c=true then(ie true r) (λv H=>(match v with|.e b=>K b H|_=>False)) H else K c H) H s d st).C λc q a x n p j=>?_;subst p;refine U (pure_bind _ _) ?_;induction c using Bool.casesOn with
  |true=>exact i K a x (j)<|st.nx n
  |false=>exact f t K a x (j) n.i
end
noncomputable def fH(e:Env)(n:List<|Str×vq):List<|Str×Addr:=((n.filter λx=>x.2==.free).map λx=>(x.1,(e.cells.lookup x.1).getD 0)).reverse
theorem BY:∀i b,(∀x∈i,x.2=.free->∃c,env.cells.lookup x.1=Y c)->
  (forIn i b λx f=>(if(x.2==sF)=true then do let a<-cellOf env x.1;pure (pg<|(x.1,a)::f)else pure (pg f):Sem<|ForInStep<|List<|Str×Addr))=pure (fH env i++b)
 |[],b,_=>rfl
 |(n,k)::r,b,h=>by
  refine U (DA _ _ _ _) ?_;by_cases d:k=.free
  ·subst d;refine aF (h _ (.head _) V) λc e=>?_;simp only[beq_self_eq_true,if_true,(by unfold cellOf;exact U e V:cellOf env n=pure c),pure_bind];refine U (BY r _ λx j=>h x<|.tail _ j) ?_;congr 1;simp[fH,e]
  ·have g:(k==sF)=false:=by simpa using d
   simp only[g,y4,if_false,pure_bind];refine U (BY r _ λx j=>h x<|.tail _ j) ?_;congr 1;simp[fH,g]
def J6(h:∀x∈scope.names,x.2=.free->∃c,env.cells.lookup x.1=Y c):closureFor scope env=pure (fH env scope.names):=by have:=BY scope.names [] h;rw[gJ]at this;show(forIn scope.names [] _>>=λa=>pure a)=_;refine U (bind_pure _) ?_;exact this
def xP(h:∀x∈names,x.2=.free->∃c,env.cells.lookup x.1=Y c)(b:p∈fH env names):(p.1,sF)∈names/\env.cells.lookup p.1=Y p.2:=by
 unfold fH at b;rw[sJ,iG]at b
 (refine aH b λx f e=>?_;clear b;subst e)
 rw[Du]at f;refine bp f λf a=>?_;have a:x.2=.free:=by simpa using a
 refine aF (h x f a) λc d=>?_;refine⟨?_,?_⟩;·refine(?_:(x.1,sF)∈names);exact aP a<|f
 ·refine(?_:env.cells.lookup x.1=Y ((env.cells.lookup x.1).getD 0));refine U d ?_;rfl
def aal(b:(n,sF)∈names):∃c,(fH env names).lookup n=Y c:=by
 have:∃p∈fH env names,p.1=n:=(aO (n,(env.cells.lookup n).getD 0) (by refine U (propext sJ)<|U (propext iG) ?_;exact(aO _ (Du.mpr ⟨b,V⟩) V)) V)
 (refine aH this λp h a=>?_;clear this;subst a)
 generalize fH env names=l at h;induction l with
 |nil=>cases h
 |cons q r i=>
  refine U jw ?_;by_cases e:p.1=q.1;·refine U e ?_;simp
  ·refine U (beq_eq_false_iff_ne.mpr e) ?_;rcases gH.mp h with rfl|h;·exact absurd V e
   ·exact i h
def aam(h:∀x∈names,x.2=.free->∃c,env.cells.lookup x.1=Y c)(d:(names.map (·.1)).Nodup)(g:env.cells.Pairwise λx y=>x.2≠y.2):(fH env names).Pairwise λx y=>x.2≠y.2:=by
 have i:(fH env names).Pairwise λx y=>x.1≠y.1:=by
  refine U (propext List.pairwise_reverse)<|U (propext Dr) ?_;have:names.Pairwise λx y=>x.1≠y.1:=by have:=d;rw[List.Nodup,Dr]at this;exact this
  exact(this.filter _).imp λh=>gr h
 refine ado (λ{a b}k m f e=>f ?_) i;refine bp (xP h k) λ_ l=>?_;refine bp (xP h m) λ_ j=>?_;exact name_of_addr g (kM l)<|e▸kM j
def FL(a:∀x∈scope.names,x.2≠.cell)(h:(sj scope env).names.lookup nm=Y .cell):(nm,sF)∈scope.names/\env.kindOf nm=Y .cell:=by
 unfold sj at h;have b:=kM h;rw[iG]at b;obtain⟨⟨n,k⟩,c,e⟩:=b;dsimp only at e;split at e
 ·rename_i hc;cases e;simp only[lu,beq_iff_eq]at hc;obtain⟨⟨rfl,_⟩,hc⟩:=hc;exact⟨c,hc⟩
 ·cases e;exact absurd V<|a _ c
section
variable {W:Wd}{cx:Cx}{m:ba}{H cP:Hp}{s s₁:bU}{A:di}
def aaj(I:Nat->bU->Prop)
  (t:∀n s,I n s->bw (bM prog w) A (pyNext it) (λr s₁=>match r with
   |none=>R (.ok .next) s₁
   |some v=>bw (bM prog w) A (CX target it v) (λ_ a=>bw (bM prog w) A (kT target env v) (λ_ i=>
     bw (bM prog w) A (forIn ifs true λc r=>if r=true then do let p<-fA c env<|eval c env;pure (pg p)else pure<|pg r) (λp b=>
      if p=true then bw (bM prog w) A (eval eY env) (λx g=>
       bw (bM prog w) A (call (.builtin "list.append") [xZ,x]) (λ_ f=>∃m,m<n/\I m f) (λ_ _=>False) g) (λ_ _=>False) b
      else∃m,m<n/\I m b) (λ_ _=>False) i) (λ_ _=>False) a) (λ_ _=>False) s₁) (λ_ _=>False) s)
  n (h:I n s):kP (bM prog w) A (.compLoop (.ListComp eY [⟨target,iter,ifs,0⟩] scope pos) 0 it xZ env) R s:=by
 refine codeAny_loop V I (λn s q=>?_) n h;refine(?_:bw _ A _ _ _ s);refine wpAny_noted<|wpAny_noRaise ?_;refine U (compTurn_list _ _ _ _ _ _ _ _ _) ?_;refine aN<|eN<|aN<|cS (t n s q) (λr s₁ d=>?_) λ_ _ u=>u;induction r using Option.casesOn with
 |none=>exact br d
 |some v=>
  refine aN<|cS d (λ_ a j=>?_) λ_ _ u=>u;refine aN<|cS j (λ_ i k=>aN<|cS k (λp b e=>?_) λ_ _ u=>u) λ_ _ u=>u;induction p using Bool.casesOn with
  |false=>exact br ⟨V,e⟩
  |true=>
   exact aN<|aN<|cS e (λx g o=>aN<|cS o (λ_ f l=>br<|br ⟨V,l⟩) λ_ _ u=>u) λ_ _ u=>u
def VT(x:gp W P items k vs it j H s.heap)(h:Q it s):bw (bM W.p W.w) A (jZ it) Q E s:=by
 induction k using bc.gV.casesOn with
 |a=>
  (refine lP x λv I l b d f g p=>?_;clear x;subst b;subst d)
  exact wpAny_pyIter_listiter g h
 |b=>
  (refine fw x λI a c b f q m=>?_;clear x;subst b)
  exact wpAny_pyIter_rangeiter q h
 |c=>
  (refine uj x λv e I l r b d o f n i g p=>?_;clear x;subst b;subst d)
  exact Lc i h
theorem St.tn(c:St W cx m mc H s)(h:∀x,P x->W.fr x)(e:∀x,P x->W.r.get? x=O)(d:l3 P cx)(tn:Tn P s s'):St W cx m mc H s'/\df W.fr H s.heap H s'.heap:=by refine bp (nS c.ag h e tn.c tn.d) λb g=>?_;exact⟨⟨g,c.fr.ah d tn.toTn0 V (λx f _=>f) (λx f=>f) c.fr.uf V λa v r=>aT.d b a v r⟩,b⟩
structure CK(W:Wd)(cx:Cx)(m:ba)(cP:Hp)(s:bU)(D C:Addr)(uK:List AV)(H':Hp)(s':bU):Prop where
 p:s.heap.get? C=O
 z:s.heap.get? D=O
 F:∃mC,s'.heap.Ns C mC
 t:bu (W.q (λx=>x=C) λx=>W.v x\/x=C) H' s'.heap
 I:iz (W.q (λx=>x=C) λx=>W.v x\/x=C) cx m [] H' s'.heap
 y:uK.length<=sz->aT W.T (aU (λx=>W.fr x\/x=C) H') s'.heap (.g uK) (.ref D)
 r:df W.fr cP s.heap H' s'.heap
 G:∀x o,W.fr x->s.heap.get? x=Y o->d8 s'.heap x o
 u:s'.gens=s.gens
 E:s'.os=s.os
noncomputable def BV(a:ba->VK->Hp->Prop)(d:ba->ei)(t:List Nat)(c:Bool):AV->(Option AV->Hp->Prop)->Hp->Prop:=λv K e=>(match gn (dC 8 aY) t c v with
      |some m=>a m (λb H=>(match b with
        |.e true=>d m (λu=>K<|Y u) H
        |.e false=>K aY H
        |_=>False)) e
      |aY=>False)
noncomputable def ji(a:ba->List ei)(d:ba->ei)(t:List Nat)(u:Bool):AV->(Option AV->Hp->Prop)->Hp->Prop:=BV (λm=>ie true<|a m) d t u
noncomputable def BW(L:(List AV->Hp->Prop)->Hp->Prop)(a:ba->VK->Hp->Prop)(d:ba->ei)(t:List Nat)(u:Bool)(k:gV)(Q:VK):Hp->Prop:=L λv H=>(match dX k H v with
   |some i=>f3 (λb=>eg k H b v) (BV a d t u) i [] (λl H=>l.length<=sz/\Q (.g l) H) H
   |aY=>False)
def JP{F}:den F E m mc (.u eY dS c4 k args kE)=
  BW (eL<|args.map<|den F E m mc) (λa=>ie true<|kE.map<|den F (λ_ _=>False) m a) (λa=>den F (λ_ _=>False) m a eY) dS c4 k:=
 (congrArg (λL=>BW L (λa=>mW F (λ_ _=>False) m a true kE) (λa=>den F (λ_ _=>False) m a eY) dS c4 k)<|lQ args).trans
  (congrArg (λd=>BW (eL _) d (λa=>den F (λ_ _=>False) m a eY) dS c4 k)<|funext λa=>rT true kE)
theorem D8{T}(k:∀a v,aT T b h a v->aT T o h' a v):∀l u,bk T b h l u->bk T o h' l u
 |[],[],_=>trivial
 |_::_,_::_,r=>bk.q (k _ _ r.1)<|D8 k _ _ r.2
 |[],_::_,r=>r.elim
 |_::_,[],r=>r.elim
def J4(co:cx.f)(c:cZ cx.A)(IJ:scope.kind=.function)(Bg:(scope.names.map (·.1)).Nodup)(pZ:∀x∈scope.names,x.2≠.cell)(WG:∀x∈scope.names,x.2=.free->cx.env.kindOf x.1=Y .cell)(Bk:cn.Nodup)(tZ:∀C cl,uS (e0 cx scope cl C cn) dS c4 target)
  (WJ:∀P C cl mc,(e0 cx scope cl C cn).f->bD (W.q P W.v) (e0 cx scope cl C cn) (λ_ _=>False) m mc (dE mc) (eval eY<|iF scope cl C cx.env))
  (WD:∀P C cl mc,(e0 cx scope cl C cn).f->c6 (λd e=>ig (W.q P W.v) (e0 cx scope cl C cn) (λ_ _=>False) m mc d<|fA e (iF scope cl C cx.env)<|eval e<|iF scope cl C cx.env) (dI mc) ifs) (p6:k=.c->lM target=true) (st:St W cx m [] cP s) (hI:dX k cP vs=Y items) (bg:iC W k vs items it P cP s s₁) (xl:items.length<=4194304) (d:f3 (λA=>eg k cP A vs) (ji dI dE dS c4) items [] Q cP) {RR:bI->Addr->Result->bU->Prop}
  (WY:∀D C f A s',CK W cx m cP s D C f A s'->Q f A->RR (.ref D) C (.ok .next) s'):
  bw (bM W.p W.w) cx.A (newList []) (λxZ EH=>bw (bM W.p W.w) cx.A (newFunctionEnv scope cx.env.globals (fH cx.env scope.names) [] cx.env.qual O .none<|Y cx.env) (λKj EG=>
   kP (bM W.p W.w) cx.A (.compStart (.ListComp eY [⟨target,iter,ifs,0⟩] scope pos) 0 it xZ {Kj with scope:=sj scope cx.env}) (RR xZ Kj.locals) EG) E EH) E s₁:=by
 have a4:=λx w hk=>co.h _<|WG x w hk;have B:∀{x},s₁.heap.get? x=O->s.heap.get? x=O:=λ{x}e=>lI λo q=>aS<|e.symm.trans<|bg.c x o q;refine ye<|wpAny_newFunctionEnv pZ (by intro y hy;simp at hy) (λp oa rH=>?_) IJ;dsimp only at oa rH |-;generalize rJ:s₁.heap.objs.size=D at oa rH |-;have IZ:(s₁.heap.push {cls:=.type "list",data:=.seq ([]:List bI).toArray}).objs.size=D+1:=U (MP _ _)<|U rJ V;rw[IZ]at oa rH |-;generalize W3:D+1=C at oa rH IZ |-;have t:@LT.lt Nat _ D C:=W3▸ec D;have pS:∀x o,s₁.heap.get? x=Y o->p.get? x=Y o:=λx o e=>rH.extBut x o (f5<|gg (rJ▸pd e) t)<|fC _<|fC _ e;have Z:=λx o e=>pS x o<|bg.c x o e;have IY:p.PlainList D #[]:=⟨_,rH.extBut _ _ (f5 t)<|fC _<|rJ▸kb _ V⟩;have uh:=pe<|bb rJ;have iT:=pe<|aE (bb rJ)<|cI t;have a2:∀x,P x->x<D:=λx w=>by refine aF (bg.d x w) λo e=>rJ▸pd e
 obtain⟨F,z⟩:∃F,F=λx=>P x\/x=D\/x=C:=⟨_,V⟩;have K:∀x,F x->s.heap.get? x=O:=λx w=>by
  subst z;rcases w with w|rfl|rfl;·exact bg.a x w
  ·exact B uh
  ·exact B iT
 have there:∀x,F x->∃o,p.get? x=Y o:=λx w=>by
  subst z;rcases w with w|rfl|rfl;·refine aF (bg.d x w) λo e=>⟨o,pS x o e⟩
  ·refine aF IY λn e=>⟨_,e⟩
  ·exact jA oa
 have a3:=λx w=>lI λo q=>aS<|(K x w).symm.trans<|st.ag.D x o q;have Af:∀x o,s.heap.get? x=Y o->¬F x:=λx o e hp=>by rw[K x hp]at e;exact aS e
 have M:=λx w=>by refine aF (st.ag.z.Q x w) λo e=>Af x o e
 have ub:∀n a,(fH cx.env scope.names).lookup n=Y a->cx.env.cells.lookup n=Y a:=λn a e=>(xP a4<|kM e).2;refine bp (st.ag.Q (s₁:={s₁ with heap:=p,toks:=s₁.toks+0}) (P:=F) (up:=W.v) Z K there) λg4 D'=>?_;have Jk:=λn a e=>by refine cj st.fr.au λml cm hl hc hv=>?_;exact ri<|hc n a e
 have BX:(e0 cx scope (fH cx.env scope.names) C cn).f:=⟨IJ,co.f,co.j,co.b,co.i,λnm hk=>by
   refine bp (FL pZ hk) λhm _=>?_;exact aal hm,aam a4 Bg co.g,λn a hm=>by
   have:=(xP a4 hm).2;refine aF (Jk _ _ this) λo e=>?_;intro q;have q:=q;have e:=B iT▸(q.symm▸e);exact(aS e),co.e⟩
 have Xs:iz (W.q F W.v) (e0 cx scope (fH cx.env scope.names) C cn) m (dC 8 O) cP p:=by
  obtain⟨⟨ml,cm,hl,hc,hv⟩,oL,oC,uL,uC,uf,bL,bC,fr⟩:=st.fr;refine⟨eX _ cm oa (λn a e=>(hc n a<|ub n a e).keeps Z) (λi nm v e1 e2=>⟨λa=>aV a,λb=>?_⟩) λ_ i nm v e1 e2=>?_,.inr<|by refine U z<|.inr<|.inr V,λn a e=>.inl<|oC n a<|ub n a e,λq=>?_,λn a e q=>uC n a (ub n a e) q,λx w=>.inl<|uf x w,a3 C<|by refine U z<|.inr<|.inr V,λn a e=>bC n a<|ub n a e,fr.D (s₁:={s₁ with heap:=p,toks:=s₁.toks+0}) Z⟩;·refine bp (FL pZ b) λ_ hk=>aH ((hv.1 i nm v e1 e2).2 hk) λu e r=>aO u e<|D' _ _ r
  ·have e2:=vG▸e2;split at e2<;>cases e2
  ·refine aF (st.ag.z.Q C<|uf C q) λo e=>?_;rw[B iT]at e;exact aS e
 have YW:∀T∈cx.a,∀L,T.frame=Y L->∃o,s.heap.get? L=Y o:=λT he L hL=>by refine Jh (st.fr.ag T he) λ_ L' o q2 _ q4 _=>?_;rw[hL]at q2;(have q2:=bz q2;subst q2);exact⟨o,q4⟩
 have J7:∀n a,(fH cx.env scope.names).lookup n=Y a->∀o,s.heap.get? a=O->o->False:=λn a e o q _=>by refine aF (Jk n a<|ub n a e) λob e'=>?_;rw[q]at e';exact aS e'
 have I4:∀T∈cx.a,∀L,T.frame=Y L->s.heap.get? L=O->False:=λT he L hL q=>by refine aF (YW T he L hL) λo e=>?_;rw[q]at e;exact aS e
 have apP:l3 P<|e0 cx scope (fH cx.env scope.names) C cn:=by refine⟨λq=>?_,λn a e q=>J7 n a e True (bg.a a q) trivial,λT he L hL q=>I4 T he L hL<|bg.a L q⟩;exact sA (a2 C q) t
 have apD:l3 (λx=>x=D)<|e0 cx scope (fH cx.env scope.names) C cn:=by exact⟨λq=>(f5 t) (show C=D from q).symm,λn a e q=>J7 n a e True (U (show a=D from q)<|B uh) trivial,λT he L hL q=>I4 T he L hL<|U (show L=D from q)<|B uh⟩
 have rF:∀x,P x->(W.q F W.v).fr x:=λx w=>.inr<|by refine U z<|.inl w
 have xk:∀x,x=D->(W.q F W.v).fr x:=λx w=>.inr<|by refine U z<|.inr<|.inl w
 have bP:∀x,P x->W.r.get? x=O:=λx w=>a3 x<|by refine U z<|.inl w
 have zu:∀{P'}{s2 a1}{a0},(∀x,P' x->F x)->cY (W.q F W.fr) cP {s₁ with heap:=p,toks:=s₁.toks+0} a0 s2->Tn P' s2 a1->df (W.q F W.fr).fr a0 s2.heap a0 a1.heap->bu (W.q F W.v) a0 a1.heap->cY (W.q F W.fr) cP {s₁ with heap:=p,toks:=s₁.toks+0} a0 a1:=
  λ{P' s2 a1 a0}W0 u X PA g=>⟨u.p.j PA,λx o w e=>(u.y x o w e).j λo' e'=>.i<|X.c x o' (λq=>M x w<|W0 x q) e',g.K,X.f.trans u.r,X.g.trans u.z⟩
 have Es:∀{s2 a1}{a0 H3},cY (W.q F W.fr) cP {s₁ with heap:=p,toks:=s₁.toks+0} a0 s2->Nx (W.q F W.v) a0 s2 H3 a1->cY (W.q F W.fr) cP {s₁ with heap:=p,toks:=s₁.toks+0} H3 a1:=
  λu n=>⟨u.p.j n.j,λx o w e=>(u.y x o w e).j λo' e'=>n.I x o' (.inl w) e',n.i.K,n.y.trans u.r,n.K.trans u.z⟩
 have KO:gp (W.q F W.v) P items k vs it 0 cP p:=by
  have mv:∀a v,aT W.T (aU (W.q P W.v).fr cP) s₁.heap a v->aT W.T (aU (W.q F W.v).fr cP) p a v:=λa v r=>r.f λx o e n=>⟨.i<|pS x o e,by
   rintro (h|h|h|h)
   ·exact n<|.inl h
   ·exact n<|.inr<|.inl h
   ·exact n<|.inr<|.inr<|.inl h
   ·have h:=z▸h;rcases h with h|h|h;·exact n<|.inr<|.inr<|.inr h
    ·rw[h,uh]at e;exact aS e
    ·rw[h,iT]at e;exact aS e⟩
  have x:=bg.f W.v;induction k using bc.gV.casesOn with
  |a=>
   (refine lP x λv I l jg uq uc sZ hv=>cw sZ λo ho hc hd=>?_;subst jg;subst uq)
   exact pP v I l V V uc (cq o (pS _ _ ho) hc hd)<|mv _ _ hv
  |b=>
   (refine fw x λI a c jg uc hi WW=>?_;clear x;subst jg)
   exact dG I a c V uc (pS _ _ hi) WW
  |c=>
   (refine uj x λv e I l old jg uq WZ uc IP p6 sZ hv=>cw sZ λo ho hc hd=>?_;subst jg;subst uq)
   exact w4 v e I l old V V WZ uc IP (pS _ _ p6) (cq o (pS _ _ ho) hc hd)<|mv _ _ hv
 have loop:kP (bM W.p W.w) cx.A (.compLoop (.ListComp eY [⟨target,iter,ifs,0⟩] scope pos) 0 it (.ref D)<|iF scope (fH cx.env scope.names) C cx.env) (RR (.ref D) C) {s₁ with heap:=p,toks:=s₁.toks+0}:=by
  refine aaj (λn s'=>∃j A ys f,j<=items.length/\n=items.length+1-j/\cY (W.q F W.fr) cP {s₁ with heap:=p,toks:=s₁.toks+0} A s'/\
   St (W.q F W.v) (e0 cx scope (fH cx.env scope.names) C cn) m (dC 8 O) A s'/\gp (W.q F W.v) P items k vs it j A s'.heap/\s'.heap.PlainList D ys/\bk W.T (aU (W.q F W.v).fr A) s'.heap f ys.toList/\ys.size<=j/\
   f3 (λA=>eg k cP A vs) (ji dI dE dS c4) (items.drop j) f Q A) ?_ (items.length+1) (w5 0 cP (#[]) [] (cB _) V (.v g4.K) ⟨g4,Xs⟩ ?_ IY (trivial) (bN _) d)
  ·rintro n s2 ⟨j,a0,ys,f,hj,rfl,n2,rj,A3,IX,IL,Bd,d2⟩
   have Wq:eg k cP a0 vs:=by
    cases p7:items.drop j with
    |nil=>rw[p7]at d2;exact d2.1
    |cons a r=>rw[p7]at d2;exact d2.1
   refine Ir (W:=W.q F W.v) (P:=P) c rj.ag rF bP (λx w=>rj.ag.z.Q x<|rF x w) hI Wq A3 hj p6 (λBj a1 X=>?_) λa v a1 ha X rv A1=>?_
   ·
    rw[Bj,vM]at d2;refine WY D C f a0 a1 ?_ d2.2;refine bp (rj.ag.al (fr₂:=λx=>W.fr x\/x=C) (up₂:=λx=>W.v x\/x=C) (h':=a1.heap) (λx w=>w.imp id λq=>by refine U z<|.inr<|.inr q) (λx w hn=>by
     refine bq w (λw=>?_) λw=>?_;·exact absurd (.inl w) hn
     ·exact a3 x w) (λx o w e=>X.c x o (λq=>by
      refine bq (w<|rF x q) (λh=>?_) λh=>?_;·exact M x h<|by refine U z<|.inl q
      ·exact sA (a2 x q) (h▸t)) e)) λg5 D9=>?_
    have Im:∀x o,W.fr x->s.heap.get? x=Y o->d8 a1.heap x o:=λx o w e=>(n2.y x o w<|Z x o e).j λo' e'=>.i<|X.c x o' (λq=>M x w<|by refine U z<|.inl q) e';refine aF IX λnD eD=>?_;have SK:¬aU (λx=>W.fr x\/x=C) a0 D:=by
     have rI:=rj.ag.z.W D<|xk D V
     rintro (⟨o,e⟩|⟨b,Cc,mF,e⟩|h|h)
     ·rw[rI.1]at e;exact aS e
     ·exact absurd e<|rI.2 _ _ _
     ·exact M D h<|by refine U z<|.inr<|.inl V
     ·exact(f5 t) h
    have Ob:bk W.T (aU (λx=>W.fr x\/x=C) a0) a1.heap f ys.toList:=by exact D8 D9 _ _ IL
    refine⟨B iT,B uh,?_,g5,?_,λhz=>kr D ys V SK (⟨nD,X.c _ _ (λq=>dk D<|a2 D q) eD⟩) Ob hz,?_,Im,X.f.trans<|n2.r.trans bg.e,X.g.trans<|n2.z.trans bg.j⟩
    ·obtain⟨⟨ml,_,hl,_⟩,_⟩:=rj.fr;refine gA hl λo es ep ho r=>?_;exact Aq ml o es ep (X.c _ _ (λq=>sA (a2 C q) t) ho) r
    ·exact st.fr.aq (fr₂:=λx=>W.fr x\/x=C) (up₂:=λx=>W.v x\/x=C) Im (λx w=>.inl w) (λx w=>w.imp id λq=>by refine U q<|B iT) (λx w=>w.imp (st.fr.uf x) id) λa v r=>D9 _ _<|aT.d n2.p _ _<|D' _ _ r
    ·exact⟨λx o e n=>(n2.p.g x o (Z x o e)<|jN K e n).j λo' e'=>.i<|X.c x o' (λq=>Af x o e<|by refine U z<|.inl q) e',λx o e n=>lN<|n2.p.i x o (Z x o e)<|jN K e n,λx o e=>aF (n2.p.f x o<|Z x o e) λo' e'=>⟨o',X.c x o' (λq=>Af x o e<|by refine U z<|.inl q) e'⟩⟩
   ·have Bh:j<items.length:=(et.mp ha).1;have p7:items.drop j=a::items.drop (j+1):=by
     refine U (oY Bh) ?_;have:=(et.mp ha).2;exact U this V
    have d2:=p7▸d2;have d2:=d2.2;unfold ji BV at d2;refine aH (wX d2) λjJ Bl d2=>?_;refine bp (rj.tn rF bP apP X) λtx EP=>?_;have n3:=zu (λx w=>by refine U z<|.inl w) n2 X EP tx.ag;refine aF IX λnD eD=>?_;have Zq:=X.c D _ (λq=>dk D<|a2 D q) eD;have Wr:=bk.d EP _ _ IL;refine aaE (W:=W.q F W.v) (T:=e0 cx scope (fH cx.env scope.names) C cn) BX c V Bk (tZ _ _) Bl tx rv λs4 N S=>?_;have N:Tn (λx=>x=C) a1 s4:=N;have zG:=(nS tx.ag (λx w=>.inr<|by refine U z<|.inr<|.inr w) (λx w=>a3 x<|by refine U z<|.inr<|.inr w) N.c N.d).1;have VW:gp (W.q F W.v) P items k vs it (j+1) a0 s4.heap:=by refine gp.E (W:=W.q F P) (P:=P) (s:=a1) (s':=s4) ⟨zG,λx o w e=>.i<|N.c x o (λq=>sA (a2 x w)<|(show x=C from q)▸t) e,S.ag.K,N.f,N.g⟩ (λx w=>w) A1
    have e:(λ(v:AV)(H:Hp)=>(match v with|.e b=>(if b=true then dE jJ (λu=>λA=>f3 (λA=>eg k cP A vs) (ji dI dE dS c4) (items.drop<|j+1) (f++[u]) Q A) H else f3 (λA=>eg k cP A vs) (ji dI dE dS c4) (items.drop<|j+1) f Q H)|_=>False))=
      (λb eb=>(match b with
       |.e true=>dE jJ (λu=>λA=>f3 (λA=>eg k cP A vs) (ji dI dE dS c4) (items.drop<|j+1) (f++[u]) Q A) eb
       |.e false=>f3 (λA=>eg k cP A vs) (ji dI dE dS c4) (items.drop<|j+1) f Q eb
       |_=>False)):=by
     funext v A
     match v with
     |.e true=>rfl
     |.e false=>rfl
     |.k|.c _|.m _|.d _|.l _|.g _|.n _ _|.f _=>rfl
    have d3:ie true (dI jJ) (λv H=>(match v with|.e b=>(if b=true then dE jJ (λu=>λA=>f3 (λA=>eg k cP A vs) (ji dI dE dS c4) (items.drop<|j+1) (f++[u]) Q A) H else f3 (λA=>eg k cP A vs) (ji dI dE dS c4) (items.drop<|j+1) f Q H)|_=>False)) a0:=by refine U e<|d2
    refine cS (aac (W:=W.q F W.v) (WD F C (fH cx.env scope.names) jJ BX) _ a0 s4 d3 S) (λok s5 y=>?_) λ_ _ y=>Ag y;refine cj y λok' H5 G rr d5=>?_;subst rr;have n5:=Es (zu (λx w=>by refine U z<|.inr<|.inr w) n3 N zG S.ag) G;have JJ:=(G.I D _ (xk D V)<|N.c D _ (f5 t) Zq).l nofun
    have IK:=bk.d G.j _ _<|bk.d zG _ _ Wr;have It:gp (W.q F W.v) P items k vs it (j+1) H5 s5.heap:=by refine gp.E (W:=W.q F P) (P:=P) (s:=s4) (s':=s5) ⟨G.j,λx o w e=>G.I x o (rF x w) e,(S.nx G).ag.K,G.y,G.K⟩ (λx w=>w) VW
    induction ok using Bool.casesOn with
    |false=>
     refine⟨items.length+1-(j+1),by exact b8 λzg=>aJ [_,_,_,_] [] [.l 1 (.c<|.a bK aX)<|.c<|.a bA aX,.e 1 (.c<|.a bA<|.a aZ<|.n 1)<|.c<|.a bo<|.n 1,.e (-1) (.c<|.a bK aZ)<|.c<|.a bo<|.n 1] V zg (nE<|cb<|b8 (a:=j+1) (b:=items.length+1) λzc=>aJ [_,_] [] [.l 1 aG af,.l 1 (.c<|.a (.a bo<|.n 1) aX)<|.c<|.a aZ<|.n 1] V (nl hj) zc)<|nE<|cb<|b8 (a:=j) (b:=items.length+1) λzc=>aJ [_,_] [] [.l 1 aG af,.l 1 (.c<|.a (.a bo<|.n 1) aX) aG] V (nl hj) zc,j+1,H5,ys,f,Bh,V,n5,⟨(S.nx G).ag,(S.nx G).fr.aj 8⟩,It,⟨nD,JJ⟩,IK,by exact aW [_,_] (.v 0) (.a (.v 1)<|.n 1) [(.v 0,.v 1)] V Bd,d5⟩
    |true=>
     refine cS (WJ F C (fH cx.env scope.names) jJ BX _ H5 s5 (d5:dE jJ (λu=>λA=>f3 (λA=>eg k cP A vs) (ji dI dE dS c4) (items.drop<|j+1) (f++[u]) Q A) H5)<|S.nx G) (λx s6 y=>?_) λ_ _ y=>Ag y;refine cj y λvx H6 R rx d6=>?_;have ES:=(S.nx G).nx R;have VV:gp (W.q F W.v) P items k vs it (j+1) H6 s6.heap:=by refine gp.E (W:=W.q F P) (P:=P) (s:=s5) (s':=s6) ⟨R.j,λx o w e=>R.I x o (rF x w) e,ES.ag.K,R.y,R.K⟩ (λx w=>w) It
     refine wpAny_list_append_plain ⟨nD,(R.I D _ (xk D V) JJ).l nofun⟩ (λh' IS d7=>?_)<|by refine U fT<|aW [_,_,_] (.v 0) (.n 16777216) [(.v 1,.n 4194304),(.v 2,.v 1),(.v 0,.v 2)] V xl hj Bd
     have zB:Tn (λx=>x=D) s6 {s6 with heap:=h'}:=⟨⟨V,V,λx o w e=>(d7.2 x w).trans e⟩,λx w=>by refine aF IS λn e=>⟨_,w▸e⟩⟩;refine bp (ES.tn xk (λx w=>a3 x<|by refine U z<|.inr<|.inl w) apD zB) λwu wo=>?_;have VU:gp (W.q F W.v) P items k vs it (j+1) H6 h':=by refine gp.E (W:=W.q F P) (P:=P) (s:=s6) (s':={s6 with heap:=h'}) ⟨wo,λx o w e=>.i<|zB.c x o (λq=>dk x<|(show x=D from q)▸a2 x w) e,wu.ag.K,V,V⟩ (λx w=>w) VV
     refine⟨items.length+1-(j+1),by exact b8 λzg=>aJ [_,_,_,_] [] [.l 1 (.c<|.a bK aX)<|.c<|.a bA aX,.e 1 (.c<|.a bA<|.a aZ<|.n 1)<|.c<|.a bo<|.n 1,.e (-1) (.c<|.a bK aZ)<|.c<|.a bo<|.n 1] V zg (nE<|cb<|b8 (a:=j+1) (b:=items.length+1) λzc=>aJ [_,_] [] [.l 1 aG af,.l 1 (.c<|.a (.a bo<|.n 1) aX)<|.c<|.a aZ<|.n 1] V (nl hj) zc)<|nE<|cb<|b8 (a:=j) (b:=items.length+1) λzc=>aJ [_,_] [] [.l 1 aG af,.l 1 (.c<|.a (.a bo<|.n 1) aX) aG] V (nl hj) zc,j+1,H6,ys.push x,f++[vx],Bh,V,zu (λx w=>by refine U z<|.inr<|.inl w) (Es n5 R) zB wo wu.ag,⟨wu.ag,wu.fr.aj 8⟩,VU,IS,?_,by simp;exact aW [_,_] (.v 0) (.v 1) [(.v 0,.v 1)] V Bd,d6⟩;refine U D1 ?_;exact(bk.d wo _ _<|bk.d R.j _ _ IK).g<|bk.q (aT.d wo _ _ rx)<|trivial
  ·exact KO
 refine(?_:kP (bM W.p W.w) cx.A (.compStart (.ListComp eY [⟨target,iter,ifs,0⟩] scope pos) 0 it (.ref D)<|iF scope (fH cx.env scope.names) C cx.env) (RR (.ref D) C) {s₁ with heap:=p,toks:=s₁.toks+0});exact codeAny_compStart_list loop<|VT (W:=W.q F W.v) (s:={s₁ with heap:=p,toks:=s₁.toks+0}) KO loop
end
section
variable {W:Wd}{w:Cx}{m:ba}{H j:Hp}{s s₁:bU}{A:di}
def Sb(i:a.natAbs<=sz)(j:b.natAbs<=sz)(k:c≠0):(hZ a b c).length<=4194304:=by
 refine U (FR a b c k)<|U (zY _ _ _) ?_;have h:mB a b c<=4194304:=by
  unfold mB;split
  ·split
   ·have:(b-a-1)/c<=b-a-1:=yT _ (b9 λz=>aJ [] [_,_] [.l 1 (.a aI aM) bS,.l 1 (.a (.s (.s bS aI) aM) aM) bJ] V (‹(a<b)›) z);exact b9 λz=>aJ [_,_,_] [_,_,_] [.l 1 af aG,.l 1 bf aG,.e 2 aG<|.c<|.n 1048576,.l 1 aI<|.s (.s bS eO) aM,.l 1 (.a (.n 4194304) aM)<|.a aI aM,.l 1 (.g eO) af,.l 1 bS bf] V (nl i) (nl j) (nE eJ) this z (fK<|a)<|fJ<|b
   ·exact b9 λz=>aJ [] [] [.l 1 (.a (.n 4194304) aM) bJ] V z
  ·split
   ·have:(a-b-1)/(-c)<=a-b-1:=yT _ (b9 λz=>aJ [] [_,_] [.l 1 (.a aI aM) bS,.l 1 (.a (.s (.s bS aI) aM) aM) bJ] V (‹(a>b)›) z);exact b9 λz=>aJ [_,_,_] [_,_,_] [.l 1 af aG,.e 1 aG<|.c<|.n 1048576,.l 1 aI<|.s (.s bS eO) aM,.l 1 (.a (.n 4194304) aM)<|.a aI aM,.l 1 bS af,.e 1 bf eO] V (nl i) (nE eJ) this z (fJ<|a)<|iI<|b9 λm=>aJ [_,_,_] [_,_,_] [.l 1 af aG,.l 1 bf aG,.e 2 aG<|.c<|.n 1048576,.l 1 aI<|.s (.s bS eO) aM,.l 1 (.a (.n 4194304) aM)<|.a aI aM,.l 1 bS af,.l 1 (.g eO) bf] V (nl i) (nl j) (nE eJ) this z (fJ<|a)<|fK<|b
   ·exact b9 λz=>aJ [] [] [.l 1 (.a (.n 4194304) aM) bJ] V z
 exact b8 λz=>pB _ (λf d=>aJ [_] [_] [.l 1 aI<|.n 4194304,.l 1 (.c<|.a (.n 4194304) aX) af,.e 1 af aI] V h z d) λf d=>aJ [_] [] [.l 1 (.c<|.a (.n 4194304) aX) af,.e 1 af bJ] V z d
def Iq(g:bu W H s.heap)(d:iC W k vs items it P H s s₁)(c:dX k H vs=Y items):items.length<=4194304:=by
 refine bp (g.Q (up:=W.v) d.c d.a d.d) λj _=>?_;have x:=d.f W.v;induction k using bc.gV.casesOn with
 |a=>
  (refine lP x λv I l a b f _ i=>?_;clear x;subst a;subst b)
  refine eh (hB j i c) λ_ _ _ _ _ h=>?_;exact aW [_,_] (.v 0) (.n 4194304) [(.v 1,.n 1048576),(.v 0,.v 1)] V (bb eJ) h
 |b=>
  exact lO (FO c) λ_ _ _ _ w u _ r e=>by refine U e<|U (bx _) ?_;exact Sb w u r
 |c=>
  (refine uj x λv e I l n a b t f m o _ i=>?_;clear x;subst a;subst b)
  have c:(cf H v).map (λl=>l.zipIdx.map λp=>AV.l [.c p.2,p.1])=Y items:=c;rw[qE]at c
  (refine aH c λL q a=>?_;clear c;subst a)
  refine eh (hB j i q) λ_ _ _ _ _ h=>?_;simp;exact aW [_,_] (.v 0) (.n 4194304) [(.v 1,.n 1048576),(.v 0,.v 1)] V (bb eJ) h
def CK.B(c:CK W w m j s D C uK H' s')(g:bu W j s.heap)(h:sW C s'.heap h')(i:uK.length<=sz):
  Nx W j s H' {s' with heap:=h'}/\aT W.T (aU W.fr H') h' (.g uK) (.ref D):=by
 have b:∀x,W.fr x->¬x=C:=λx k q=>by refine aF (g.z.Q x k) λo e=>?_;rw[q,c.p]at e;exact aS e
 refine bp (c.t.Z (λx k=>lI λo q=>aS<|c.p.symm.trans<|(congrArg s.heap.get? k).symm.trans<|g.D x o q) b λx o k e=>(h.2 x k).trans e) λf v=>?_;have d:∀x o,s.heap.get? x=Y o->x≠C:=λx o e q=>by rw[q,c.p]at e;exact aS e
 refine⟨⟨⟨λx o e n=>(c.r.g x o e n).j λl a=>.i<|(h.2 x<|d x o e).trans a,c.r.i,λx o e=>?_⟩,λx o k e=>(c.G x o k e).j λl a=>.i<|(h.2 x<|d x o e).trans a,f,c.u,c.E⟩,v _ _<|c.y i⟩;refine aF (c.r.f x o e) λl a=>?_;exact⟨l,(h.2 x<|d x o e).trans a⟩
def Qk(I:w.f)(c:cZ w.A)(t:scope.kind=.function)(v:(scope.names.map (·.1)).Nodup)(F:∀x∈scope.names,x.2≠.cell)(h:∀x∈scope.names,x.2=.free->w.env.kindOf x.1=Y .cell)(b:∀x∈scope.names,x.2=.local->scope.names.lookup x.1=Y .local)(z:cn.Nodup)(G:∀C a,uS (e0 w scope a C cn) dS c4 target)
  (r:∀P C a mc,(e0 w scope a C cn).f->bD (W.q P W.v) (e0 w scope a C cn) (λ_ _=>False) m mc (dE mc) (eval eY<|iF scope a C w.env))
  (p:∀P C a mc,(e0 w scope a C cn).f->c6 (λd e=>ig (W.q P W.v) (e0 w scope a C cn) (λ_ _=>False) m mc d<|fA e (iF scope a C w.env)<|eval e<|iF scope a C w.env) (dI mc) ifs) (y:k=.c->lM target=true) (j:∀x,so iter w.env x=pure x)
  (i:∀H s(R:List AV->List AV->Hp->Prop)Q,eL ds (λX H=>match dX k H X with|some A=>R X A H|aY=>False) H->St W w m [] H s->
   (∀B X A Z s' g P,Nx W H s Z s'->dX k Z X=Y A->R X A Z->iC W k X A B P Z s' g->Q B g)->
   bw (bM W.p W.w) w.A (eval iter w.env) (λx s₁=>bw (bM W.p W.w) w.A (jZ x) Q (eG W E H s) s₁) (eG W E H s) s):
  bD W w E m [] (λQ=>eL ds λX H=>(match dX k H X with
   |some A=>f3 (λZ=>eg k H Z X) (ji dI dE dS c4) A [] (λl H=>l.length<=sz/\Q (.g l) H) H
   |aY=>False)) (eval (.ListComp eY [⟨target,iter,ifs,0⟩] scope pos) w.env):=λQ H s d L=>by
 refine U (eval_ListComp _ _ _ _) ?_;refine Li V j (J6 λx hx S=>I.h _<|h x hx S) t b ?_;refine i H s (λX A H=>f3 (λZ=>eg k H Z X) _ A [] (λl H=>l.length<=sz/\Q _ H) H) _ d L ?_;intro B X A Z s' g P n K hd M;have f:=L.nx n;refine J4 I c t v F h z G r p y f K M (Iq f.ag M K) hd λD C o u a2 a0 q=>?_;refine(aO _ a0.F.choose_spec λh' T=>?_);refine bp (a0.B f.ag T q.1) λN a1=>?_;exact bQ _ u (n.p N) a1 q.2
def QI(X:w.f)(c:cZ w.A)(hC:w.e=false)(M:scope.kind=.function)(Bg:(scope.names.map (·.1)).Nodup)(pZ:∀x∈scope.names,x.2≠.cell)(f:∀x∈scope.names,x.2=.free->w.env.kindOf x.1=Y .cell)(p:∀x∈scope.names,x.2=.local->scope.names.lookup x.1=Y .local){c4}{F}(Bk:F.Nodup)(tZ:∀C j,uS (e0 w scope j C F) dS c4 target){Z:ba->ba->ei}{dI:ba->ba->List ei}
  (a4:∀m P C j mc,(e0 w scope j C F).f->bD (W.q P W.v) (e0 w scope j C F) (λ_ _=>False) m mc (Z m mc) (eval eY<|iF scope j C w.env))
  (I:∀m P C j mc,(e0 w scope j C F).f->c6 (λd e=>ig (W.q P W.v) (e0 w scope j C F) (λ_ _=>False) m mc d<|fA e (iF scope j C w.env)<|eval e<|iF scope j C w.env) (dI m mc) ifs) (p6:k=.c->lM target=true) (N:∀x,so iter w.env x=pure x) {ds:VK->ba->List ei}
  (B:∀E m H s(R:List AV->List AV->Hp->Prop)Q,eL (ds E m) (λvs H=>match dX k H vs with|some A=>R vs A H|aY=>False) H->St W w m [] H s->
   (∀it vs A H' s' z P,Nx W H s H' s'->dX k H' vs=Y A->R vs A H'->iC W k vs A it P H' s' z->Q it z)->
   bw (bM W.p W.w) w.A (eval iter w.env) (λx s₁=>bw (bM W.p W.w) w.A (jZ x) Q (eG W E H s) s₁) (eG W E H s) s) (hy:gU w i y) (Wo:nq (.ListComp eY [⟨target,iter,ifs,0⟩] scope pos) (Y (.Name y py)) ET.line w.env=pure true):
  eC W w (λm K=>eL (ds (λe=>K (.b e) m) m) λvs H=>(match dX k H vs with
   |some A=>f3 (λH'=>eg k H H' vs) (ji (dI m) (Z m) dS c4) A [] (λl H=>l.length<=sz/\K .a (m.set i<|Y<|.g l) H) H
   |aY=>False)) (exec (.Assign [.Name y py] (.ListComp eY [⟨target,iter,ifs,0⟩] scope pos) ET) w.env):=λm K H s EE d T hp hE=>by
 refine U (uZ _ _ _ _) ?_;refine aN<|eN ?_;refine U (show CU [.Name y py] (.ListComp eY [⟨target,iter,ifs,0⟩] scope pos) ET.line w.env=pure true from Wo) ?_;refine aN<|br ?_;refine U (if_pos V) ?_;refine aN ?_;refine U (arm_evalThenUse_ListComp _ _ _ _ _ _) ?_;refine aN ?_;refine cS (Q:=λ_ s'=>jo W w K H s .next s') (E:=eG W (λe=>K (.b e) m) H s) ?_ (λ_ s' x=>br<|br x) λe s' x=>hE e s'<|rN T x;refine Li V N (J6 λx hx hk=>X.h _<|f x hx hk) M p ?_;refine B _ m H s (λvs A H=>f3 (λH'=>eg k H H' vs) (ji (dI m) (Z m) dS c4) A [] (λl H=>l.length<=sz/\K .a (m.set i<|Y<|.g l) H) H) _ d T ?_;intro it vs A H' s' z P n hI hd bg;have a:=T.nx n;refine J4 X c M Bg pZ f Bk tZ (a4 m) (I m) p6 a hI bg (Iq a.ag bg hI) hd λD C G r s3 b q=>?_;refine(?_:bw _ _ (kT (.Name y py) w.env<|.ref D) _ _ s3);refine sf<|nU (W:=W.q (λx=>x=C) λx=>W.v x\/x=C) X (⟨b.t,b.I⟩) hC hy.1 hy.2 (b.y q.1) λs4 v tw=>?_;refine aF b.F λmC a3=>?_;refine aO mC (d8.q (λo e=>v.y C o (.inr V) e) a3) λh' a0=>?_;have a1:∀x o,s'.heap.get? x=Y o->x≠C:=λx o e q=>by rw[q,b.p]at e;exact aS e
 have hb:∀x,x=C->W.r.get? x=O:=λx hx=>by
  cases q:W.r.get? x with
  |none=>rfl
  |some o=>have:=a.ag.D x o q;rw[hx,b.p]at this;exact aS this
 have WX:∀x,W.fr x->¬x=C:=λx hx q=>by refine aF (a.ag.z.Q x hx) λo e=>?_;rw[q,b.p]at e;exact aS e
 have tn:Tn0 (λx=>x=C) s4 {s4 with heap:=h'}:=⟨V,V,λx o hx e=>(a0.2 x hx).trans e⟩;have a2:=tw.aj (l3.y a λx hx=>hx▸b.p) hb WX (λx hx=>.inl hx) a.fr.uf a.fr.ak a.fr.al (λenv he L hL=>by refine ib (a.fr.ag env he) λ_ L' o S _ _ _ q6=>?_;rw[hL]at S;(have S:=bz S;subst S);exact q6) tn
 have u:∀x o,s'.heap.get? x=Y o->¬aU W.fr r x->¬aU (W.q (λx=>x=C) λx=>W.v x\/x=C).fr r x:=λx o e t=>by
  rintro (h|h|h|h)
  ·exact t<|.inl h
  ·exact t<|.inr<|.inl h
  ·exact t<|.inr<|.inr h
  ·exact a1 x o e h
 refine dG .a _ r ((n.kd T.fr.uf).q ⟨⟨λx o e t=>?_,λx o e t=>?_,λx o e=>?_⟩,λx o hx e=>?_,a2.ag,v.r.trans b.u,v.z.trans b.E⟩) a2 V q.2;·refine((b.r.g x o e t).j λo' g=>v.p.g x o' g<|u x o e<|b.r.i x o e t).j λo' g=>.i<|(a0.2 x<|a1 x o e).trans g
 ·refine aH (b.r.g x o e t) λsl g _=>lN<|v.p.i x _ g<|u x o e<|b.r.i x o e t
 ·refine aF (b.r.f x o e) λo' g=>aF (v.p.f x o' g) λTe Zr=>⟨Te,(a0.2 x<|a1 x o e).trans Zr⟩
 ·exact((b.G x o (a.fr.uf x hx) e).j λo' g=>v.y x o' (.inl hx) g).j λo' g=>.i<|(a0.2 x<|a1 x o e).trans g
end
section
variable {W:Wd}{A:di}{H:Hp}{s:bU}
def fa.I{l:List Env}(x:fa W H s.heap l):s.heap.FunFrames W.r l:=by
 induction l with
 |nil=>trivial
 |cons a r i=>
  refine ib (x a<|.head _) λf L o b g d z j=>gR z λk n c=>?_;exact bW f (eX L o b g d λv q=>by rw[c]at q;exact su q)<|i λe h=>x e<|.tail _ h
def fa.F(x:fa W H s.heap l)(h:b∈l.filterMap (·.frame)):∃o k n,s.heap.get? b=Y o/\o.data=.dict k n:=by rw[Dt]at h;refine aH h λj a e=>?_;refine ib (x j a) λg L o q i d z f=>gR z λk n c=>?_;rw[e]at q;(have q:=bz q;subst q);exact je o k n d c
noncomputable def KX(h:Heap)(e:Addr)(v:Array bI)(P:Addr->Prop):Prop:=
 v[1]? =Y .none\/∃t o a f,v[1]? =Y (.ref t)/\P t/\t≠e/\h.get? t=Y o/\o.data=.fields a/\a[3]? =Y f
noncomputable def oz(S:List Addr)(h:Heap)(x:Addr)(o:Obj):Prop:=d8 h x o/\(x∉S->h.get? x=Y o)
def oz.g{S}(e:h'.get? x=Y o):oz S h' x o:=⟨.i e,λ_=>e⟩
def oz.f{S}{h a}(k:oz S h x o)(b:∀c,h.get? x=Y c->a.get? x=Y c):oz S a x o:=
 ⟨k.1.j λc e=>.i<|b c e,λd=>b _<|k.2 d⟩
def hM.n(k:hM ky x o)(f:∀j,ky.get? x=Y j->hM tY x j):hM tY x o:=by
 refine bq k (λk=>?_) λz=>fY z λi v b e=>?_
 ·refine aH k λs e d=>bq (f _ e) (λc=>?_) λz=>fY z λi v b a=>?_;·exact .inl (d8.j (aO s e d) λj a=>by rw[e]at a;(have a:=bz a;subst a);exact c)
  ·have:=d (by refine U b ?_;nofun);subst this;exact .inr<|gc i v b a
 ·exact bq (f _ e) (λc=>.inr<|gc i v b<|c.l λ_ _ h=>by cases h) λz=>fY z λl u g a=>.inr<|gc i u b a
structure x2(P:Addr->Prop)(S:List Addr)(e:Addr)(oe:Obj)(n:Nat)(h h':Heap):Prop where
 g:∃mF,h'.get? e=Y {oe with data:=.fields mF}/\mF.size=n/\∃t oT ts fl,mF[1]? =Y (.ref t)/\P t/\t≠e/\h'.get? t=Y oT/\oT.data=.fields ts/\ts[3]? =Y fl
 c:∀x o,x≠e->(P x->∀ts,o.data≠.fields ts)->h.get? x=Y o->oz S h' x o
 f:∀x o,h.get? x=Y o->hM h' x o
def hM.r(k:hM h' x o):∃a,h'.get? x=Y a:=k.elim (λz=>z.elim λs z=>⟨_,z.1⟩) λz=>fY z λ_ _ _ e=>⟨_,e⟩
def x2.d{S}(w:x2 P S e a n h h')x o(q:h.get? x=Y o):∃b,h'.get? x=Y b:=(w.f x o q).r
def hM.p{h g:Heap}{a}{v}(f:h.get? e=Y a)(c:a.data=.fields v)(b:g.get? e=Y {a with data:=.fields mF})(d:∀x o,x≠e->h.get? x=Y o->d8 g x o)(q:h.get? x=Y o):hM g x o:=
 (mA _).elim (λz=>by exact .inr (aP (bz (f.symm.trans ((congrArg h.get? z).symm.trans q))) (gc v mF c (U z b)))) λz=>.inl (d x o z q)
def N6{o:Obj}(h:o.data=x):o={o with data:=x}:=by subst h;rfl
def GV(h:o.data=.fields vs)f:LU f o={o with data:=.fields<|f vs}:=by obtain⟨c,d,a,sl⟩:=o;subst h;rfl
def Ex(a:s.heap.get? t=Y oT)(h:oT.data=.fields ts)(d:ts[3]? =Y fl)
  (b:∀e,e.get? t=Y {oT with data:=.fields<|ts.setIfInBounds 3 x}->(∀y,y≠t->e.get? y=s.heap.get? y)->Q () {s with heap:=e}):bw M A (setField (.ref t) 3 x) Q E s:=by
 refine wpAny_setField a h (NP.mp d).1<|b _ ?_ λy c=>yW _ _<|gr c;exact U (yV _ a<|LV<|LW h _)<|U (GV h _) V
def Ff{b}{v}{t}{o}(i:s.heap.get? e=Y b)(c:b.data=.fields v)(k:v[1]? =Y (.ref t))(f:s.heap.get? t=Y o)(h:o.data=.fields a)(j:a[3]? =Y g)
  (d:∀l,l.get? t=Y {o with data:=.fields<|a.setIfInBounds 3 .none}->(∀y,y≠t->l.get? y=s.heap.get? y)->Q () {s with heap:=l}):bw M A (setFlight (.ref e) O) Q E s:=by
 refine aN<|yg i c k ?_;refine U (if_pos<|V) ?_;exact Ex f h j d
def Gy{L e}{F}{P:Addr->Prop}
  (D:A.frames=Y (env::c)) (a0:fa W H s.heap<|env::c) (R:env.frame=Y L) (a1:s.heap.get? e=Y F) (z:F.data=.fields vs) (r:1<vs.size) (a2:∀x,s.heap.get? x=O->P x)
  (a3:∀X v,X.get? e=Y {F with data:=.fields v}->v.size=vs.size->(∃t K N T,v[1]? =Y (.ref t)/\P t/\t≠e/\X.get? t=Y K/\K.data=.fields N/\N[3]? =Y T)->
   (∀x o,x≠e->s.heap.get? x=Y o->oz ((env::c).filterMap (·.frame)) X x o)->Q () {s with heap:=X}):
  bw M A (do setField (.ref e) 1 (<-EntryCells.newEntry f (<-frameOf env) .none (rawInt L) .none<|<-entryPlaceOf L adO)) Q E s:=by
 have u:e∉(env::c).filterMap _:=λj=>by refine gA (a0.F j) λo es n y l=>?_;rw[a1]at y;(have y:=bz y;subst y);rw[z]at l;exact su l
 refine aN<|wpAny_frameOf_fun D a0.I R λa b=>?_;refine aN<|wpAny_entryPlaceOf λC k=>?_;refine aN<|ye ?_<|k.sizeOk5 _ _ _ _ _;have g:=(b.2.1 e u).trans a1;generalize m:({cls:=.type "traceback",dict:=O,data:=.fields ([f,.ref L,.none,rawInt L,.none]++(if C.isEmpty then dC 6 Lw else C)).toArray}:Obj)=ob;have d:=fC ob g;have w:=ma<|pd g;refine wpAny_setField d z r ?_;refine a3 _ _ (by exact U (yV _ d<|LV<|LW z _)<|U (GV z _) V) (by simp) (w6 a.objs.size ob _ (rawInt L) (by simp[r]) (a2 _ ?_) w ((yW _ _<|gr w).trans<|kb a<|by refine aP m ?_;rfl) (aP m V) ?_) λx o Z B=>?_;·refine U b.1<|pe<|bN _
 ·first|(simp;done)|(rcases k with rfl|⟨_,_,_,_,_,_,_,rfl⟩<;>simp)
 ·refine aF (b.2.2 x o B) λS p=>?_;have up:∀h,a.get? x=Y h->(Heap.update (a.push ob) e<|LU (·.setIfInBounds 1 (kU a.objs.size))).get? x=Y h:=λh q=>by
   refine U (yW _ _<|gr Z) ?_;exact fC _ q
  refine⟨(aO S ?_ λG=>?_),λj=>up _<|(b.2.1 x j).trans B⟩
  ·refine U (yW _ _<|gr Z) ?_;exact fC _ p
  ·by_cases j:x∈(env::c).filterMap (·.frame)
   ·refine gA (a0.F j) λh es n i I=>?_;rw[B]at i;(have i:=bz i;subst i);exact absurd I<|G es n
   ·have:=b.2.1 x j;rw[p,B]at this;exact congrArg Obj.slots<|bz this
def Gn{L e}{Z}
  (K:A.frames=Y (env::b)) (fo:fa W H s.heap<|env::b) (hf:env.frame=Y L) (I:s.heap.get? e=Y Z) (r:Z.data=.fields vs) (a3:4<vs.size) (hP:∀x,s.heap.get? x=O->P x) (Wl:KX s.heap e vs P)
  (hQ:∀h',x2 P ((env::b).filterMap (·.frame)) e Z vs.size s.heap h'->Q () {s with heap:=h'}):bw M A (noteFrame (.ref e) env) (λ_ s'=>bw M A (setFlight (.ref e) O) Q E s') E s:=by
 unfold noteFrame;simp only[hf];have D:∀h v,h.get? e=Y {Z with data:=.fields v}->v.size=vs.size->(∃t S m a2,v[1]? =Y _/\P t/\t≠e/\h.get? t=Y S/\S.data=.fields m/\m[3]? =Y a2)->
   (∀x o,x≠e->(P x->∀m,o.data≠.fields m)->s.heap.get? x=Y o->oz _ h x o)->(∀x o,s.heap.get? x=Y o->hM h x o)->bw M A _ Q E {s with heap:=h}:=
  λh v c a1 hx p X=>Bx hx λt S m a2 y g j l d a0=>
   Ff c V y l d a0 λh' a4 w=>hQ h' ⟨aO v ((w e<|gr j).trans c) ⟨a1,t,_,_,.none,y,g,j,a4,V,Array.getElem?_setIfInBounds_self_of_lt (NP.mp a0).1⟩,
    λx o hx k f=>(mA _).elim (λz=>(p x o hx k f).1.elim λsl q=>absurd ((congrArg yq<|bz<|l.symm.trans<|(congrArg h.get? z).symm.trans q.1).symm.trans d)<|k (U z g) m) λz=>(p x o hx k f).f λo' q=>(w x z).trans q,
    λx o f=>(X x o f).n λo' B=>.p l d a4 (λx o q e=>.i ((w x q).trans e)) B⟩
 refine bq Wl (λy=>?_) λF=>Bx F λt S m a2 y g j l d a0=>?_
 ·refine aN (yg I r y ?_);refine U (if_neg<|by decide) ?_;exact Gy K fo hf I r (gg (by decide) a3) hP λh v c a1 hx p=>D h v c a1 hx (λx o hx _ f=>p x o hx f) λx o f=>.p I r c (λx o q e=>(p x o q e).1) f
 ·refine aN (yg I r y ?_);refine U (if_pos<|V) ?_;refine aN<|yg l d a0 ?_;by_cases T:(a2==rawInt L)=true
  ·refine U (if_pos T) (br ?_);exact D s.heap vs (I.trans<|congrArg Y<|N6 r) V (w6 t S m a2 y g j l d a0) (λx o _ _ f=>.g f) λx o f=>.inl<|.i f
  ·refine U (if_neg T)<|aN (Ex l d a0 λh u a=>?_);have C:fa W H h _:=λen p6=>
    ib (fo en p6) λq1 L' o q2 q3 q4 F q6=>gR F λes n q5=>jI q1 L' o q2 q3 ((a L' λz=>su<|q5.symm.trans<|(congrArg yq<|bz<|q4.symm.trans<|(congrArg s.heap.get? z).trans l).trans d).trans q4) (pQ es n q5) q6
   have N:=(a e<|gr j).trans I;exact Gy K C hf N r (gg (by decide) a3) (λx hx=>(mA<|x=t).elim (λq=>U q g) λq=>hP x<|(a x q).symm.trans hx) λR G i a1 hx p=>D R G i a1 hx
    (λx o hx k f=>p x o hx<|(a x λz=>k (U z g) m<|(congrArg yq<|bz<|f.symm.trans<|(congrArg s.heap.get? z).trans l).trans d).trans f)
    λx o f=>(hM.p l d u (λx o q e=>.i<|(a x q).trans e) f).n λo' B=>.p N r i (λx o q e=>(p x o q e).1) B
def Vk{L e}
  (h:A.frames=Y (env::o)) (i:fa W H s.heap<|env::o) (f:env.frame=Y L) (k:s.heap.get? e=Y a) (d:a.data=.fields vs) (b:4<vs.size) (j:∀x,s.heap.get? x=O->P x) (c:KX s.heap e vs P)
  (g:∀l,x2 P ((env::o).filterMap (·.frame)) e a vs.size s.heap l->Q () {s with heap:=l}):bw M A (leaving env<|.ref e) Q E s:=
 aN (Gn h i f k d b j c g)
end
def Vl(co:cx.f)(j:cx.a=cx.env::l)(R:St (W.t cx.env) cx m' [] Hp.aw s')
  (k:∀x o,s.heap.get? x=Y o->s₁.heap.get? x=Y o) (hg:s₁.gens=s.gens) (z:s₁.os=s.os) (c:∀x,x=cx.env.locals\/(∃n,cx.env.cells.lookup n=Y x)->s.heap.get? x=O) (a1:∀x o,W.r.get? x=Y o->s.heap.get? x=Y o)
  (f:kK (W.t cx.env) H s₁ av e s') (hQ:∀p,nh W H s av e p->Q () p):bw (bM W.p W.w) cx.A (leaving cx.env e) Q E s':=by
 obtain⟨⟨ea,ox,dx,i,tk,vs,rfl,a2,a3,a4,a5,a6,Z,a0,a9,a8,b0⟩,h,u,N,S,X⟩:=f;have b:∀x,s₁.heap.get? x=O->s.heap.get? x=O:=λx e=>lI λo q=>aS<|e.symm.trans<|k x o q;have m:=R.fr.ag;have m:=j▸m;refine rP (m cx.env<|.head _) λ_ L _ hf _=>?_;have d:=λx o e=>h.f x o<|k x o e;refine Vk (U co.i<|U j V) m hf a4 Z a0 (λx e=>lI λo q=>(d x o q).elim λa g=>aS<|e.symm.trans g) (b0.imp id ?_) λh' w=>hQ _ ?_
 ·rintro ⟨t,D,B,C,A,P,F⟩
  exact w7 t D B C A (b _ P) F
 ·refine Jg w.g λK a7 hz t D B C A P F b4 b5 b6=>?_;have v:∀x o,s.heap.get? x=Y o->x≠ea/\¬s.heap.get? x=O:=λx o e=>⟨λq=>aS<|(b _ a3).symm.trans<|(congrArg s.heap.get? q).symm.trans e,λq=>aS<|q.symm.trans e⟩;have T:=λx o e a g=>w.c x a (v x o e).1 (λq=>absurd q (v x o e).2) g;refine⟨An ea _ dx i tk K V a2 (b _ a3) a7 a5 a6 V (aW [_,_] (.a (.n 4)<|.n 1) (.v 0) [(.v 1,.v 0),(.a (.n 4)<|.n 1,.v 1)] V (bb<|cc hz) a0) (b _ a9) ?_<|.inr<|w6 t D B C A P F b4 b5 b6,⟨λx o e n=>?_,λx o e n=>?_,λx o e=>?_⟩,λx o hx e=>?_,λx o e=>?_,S.trans hg,X.trans z⟩;·refine ia a8 λo es ep z I r=>bp (w.c dx o (λq=>su<|I.symm.trans<|(congrArg yq<|bz<|z.symm.trans<|(congrArg s'.heap.get? q).trans a4).trans Z) (λ_ B q=>su<|I.symm.trans q) z) λG _=>aH G λsl q _=>lK _ es ep q I r
  ·exact(h.g x o (k x o e)<|mE c e n).j λa g=>(T x o e a g).1
  ·exact tc<|h.i x o (k x o e)<|mE c e n
  ·exact aF (d x o e) λa g=>w.d x a g
  ·exact(u x o hx<|k x o e).j λa g=>(T x o e a g).1
  ·have hb:x∉(cx.env::l).filterMap (·.frame):=λhm=>by
    rw[Dt]at hm;refine aH hm λenv he M=>?_;refine xC (m env he) λ_ L' _ y q3 _=>?_;rw[M]at y;(have y:=bz y;subst y);have q4:W.r.get? x=O:=q3;rw[e]at q4;exact aS<|cc q4
   exact(T x o (a1 x o e) o<|N x o e).2 hb
def QJ(o:a.y){X}{n r:Nat}
  (C:∀f I,P f=Y I->∃w j body,(∀W,W.u a->x7 W I w (X f) j body)/\
   ∀W,W.u a->∀T,T.f->T.b=w->T.e=false->T.env.scope=j.scope->(∃l,T.a=T.env::l)->uN T.A r->eC W T (λm K=>aK (aR P n) I.e m K) (iZ body T.env)):
  lV a X (aR P<|n+1) (r+1):=λW M A l H s f vs us Q E d g ar vl=>by
 unfold aR at d;split at d
 ·rename_i I hf;split at d
  ·rename_i m hb;refine gA (C f I hf) λw j body a3 p=>?_;refine Kk (o.p M) (a3 W M) g ar vl hb λT F Z a4 hC G hA B rb st a0 R a1 c=>?_;refine cS (p _ (M.c T.env) T Z a4 hC (by refine U G ?_;rfl) ⟨l,B⟩ rb m _ H F (λe s'=>bw (bM W.p W.w) T.A _ (λ_ h=>RP W Q E H s (.error e) h) (λe' h=>RP W Q E H s (.error e') h) s') d st PassesOwn.leaving λe s' x=>?_) (λfl s' x=>?_) λ_ _ x=>x;·exact cj x λav m' k D N=>Vl Z B D a0 R a1 c g.D N λh y=>aO av k y
   ·refine fw x λfl' m' H' nu D t k=>?_;have S:=Nx.N a0 R a1 c nu;have z:∀b v,aT W.T (aU (W.t T.env).fr H') s'.heap b v->(∃i,Hp.aq i H'/\Q b i)->RP W Q E H s (.ok<|.ret v) s':=λb v rv hh=>aH hh λi hs q=>have a2:=Nx.L (s:=s') S.i hs;(bQ b i (S.p a2) (aT.d a2.j _ _<|rv.i λ_ _ _ nn=>tc nn) q)
    match fl',t,k with
    |.a,t,k=>
     subst t;exact z .k .none V k
    |.d,t,k=>exact k.elim
    |.c v,t,k=>
     (refine aH t λu L ru=>?_;clear t;subst L)
     exact z v u ru k
  ·exact d.elim
 ·exact d.elim
end bc
end
section
set_option backward.match.sparseCases false
open PySem PySem.W PyProof.Rows PySem.SeqAt PySem.MeetsSeq Builtin Builtin.ObjectAttr PySem.Calls
namespace bc
abbrev iV:List bI:=[.type "Exception",.type "BaseException",.type "object"]
structure lZ(K:Frag)(C fI:Addr):Prop where
 a:∃nm q N S G F u y P H T B L I,K.lookup C=Y (yl nm q C N S (.ref G::iV) true F u false y P H T B L I "Exception.__new__")
 b:fb K (.ref C) "__init__"=Y (Y<|.ref fI)
 m:l4 K (.ref fI)=Y (.type "function")
 e:specialIn K (.ref C) "__call__"=Y (Y<|.builtin "type.__call__")
 f:instIn K (.ref C) (.type "type")=Y true
 i:fb K (.ref C) "__setattr__"=Y (Y<|.builtin "object.__setattr__")
 l:fb K (.ref C) "__getattribute__"=Y (Y<|.builtin "BaseException.__getattribute__")
 c:fb K (.ref C) "__getattr__"=Y O
 ly:fb K (.ref C) "told"=Y O
section
variable {prog:j4}{w:el}{A:di}{R:Result->bU->Prop}{h:Heap}{g:Array yX}{d:Drawn}{t:Nat}{D:l8}
variable {nm q:Str}{C N G:Addr}{S:List bI}{j:Bool}{F:List Str}{u:List bI}{k:Bool}{y:Option Bool}{P:Option Addr}{H T B L I:Option bI}
abbrev iu(C t:Addr):Obj:={cls:=.ref C,data:=.fields #[.ref t,.none,.none,.none,.bool false,.none]}
def YJ(b:h.get? C=Y (yl nm q C N S (.ref G::iV) j F u k y P H T B L I "Exception.__new__"))
  (i:R (.ok<|.ret<|.ref<|h.objs.size+1) ⟨(h.push {cls:=.type "tuple",data:=.seq ja.toArray}).push<|iu C h.objs.size,g,d,t,D⟩) (f:ja.length<=jY):
  kP (bM prog w) A (.builtin "Exception.__new__" ⟨.ref C::ja,[]⟩) R ⟨h,g,d,t,D⟩:=by
 have a:=C7;have e:=a.ends;refine codeAny_builtinAt a.entry ?_;refine LB ?_;refine(?_:PySem.wpAt _ _ _ (stack>>=_) _ _ _);refine LB<|PySem.wpAt_stack λp c=>LA ?_
 wp_walk
 refine LA ?_;refine U a.owner ?_
 repeat (first|with_reducible refine wpAny_madeHere_exc a.canon b ?_|with_reducible refine oH b ?_|(with_reducible refine se b ?_;first|refine U (V:(kU C::.ref G::iV).contains (.type "Exception")=true) ?_|refine U (V:(kU C::.ref G::iV).contains (.type "AttributeError")=false) ?_|refine U (V:(kU C::.ref G::iV).contains (.type "NameError")=false) ?_)|wp_step)
 refine(?_:R _ _);refine U (MP _ _) ?_;exact i
end
section
variable {prog:j4}{w:el}{A:di}{K:Frag}{C fI:Addr}{R:Result->bU->Prop}{h:Heap}{g:Array yX}{d:Drawn}{t:Nat}{D:l8}
def YL(x:lZ K C fI)(X:K.In h)(f:ja.length<=jY)
  (j:kP (bM prog w) (A.under<|.builtin "type.__call__" ⟨.ref C::ja,[]⟩) (.call (.ref fI) ⟨.ref (h.objs.size+1)::ja,[]⟩) (InitBack (h.objs.size+1) R) ⟨(h.push {cls:=.type "tuple",data:=.seq ja.toArray}).push<|iu C h.objs.size,g,d,t,D⟩):
  kP (bM prog w) A (.call (.ref C) ⟨ja,[]⟩) R ⟨h,g,d,t,D⟩:=by
 refine ui x.a λnm q N S G F u y P H T B L I i=>?_;refine codeAny_of_tree ?_;refine(?_:bw _ _ _ _ _ _);refine nd_load (X _ _ i) ?_;refine(?_:bw _ _ (callAny.viaDunder _ _) _ _ _);refine aN<|(looks_specialIn X x.e).at ?_;dsimp only;refine U (tc_bind _) ?_;refine aN<|br<|aN<|br ?_;refine br (a:=Fin.again<|.call _ ⟨.ref C::ja,[]⟩)<|i5 V ?_;refine codeAny_call_builtin_at (Nk _<|by decide+kernel) entry_typeCall<|C0 tc_kind tc_split (looks_instIn X x.f) (tc_args _ _ _) ?_;have p:oU (bM prog w) h (mroOf<|.ref C)<|.ref C::.ref G::iV:=((Di<|X _ _ i).andThen .now).andThen .now;have m:oU (bM prog w) h _ _:=λA Q E s k q=>by obtain⟨a,b,c,d,e⟩:=s;exact wpAny_madeBy_exc (k _ _<|X _ _ i) q
 repeat (first|with_reducible refine qq ?_|lk)
 refine codeAny_call_builtin_code (Nk _ C7.quiet)<|wpAny_check_new_subU C7 (rfl) .base (X _ _ i) ?_;refine YJ (X _ _ i) ?_ f;have k:∀b o,h.get? b=Y o->((h.push {cls:=.type "tuple",data:=.seq ja.toArray}).push<|iu C h.objs.size).get? b=Y o:=λb o e=>fC _<|fC _ e;have W:((h.push {cls:=.type "tuple",data:=.seq ja.toArray}).push<|iu C h.objs.size).get? (h.objs.size+1)=Y (iu C h.objs.size):=by heap_get
 have l:oU (bM prog w) _ (oI<|.ref _) _:=(Di W).andThen .now;have s1:oU (bM prog w) _ _ true:=λA Q E s B q=>by obtain⟨a,b,c,d,e⟩:=s;exact se (B _ _<|k _ _<|X _ _ i)<|by exact U (show(kU C::.ref G::iV).contains (.ref C)=true from by simp)<|q
 have n:=(uV (M:=bM prog w) X x.b).keeps k;have Z:=(bind_fn (M:=bM prog w) X (.ref<|h.objs.size+1) x.m).keeps k
 repeat (first|with_reducible refine qq ?_|lk)
 refine uW j λr s' z=>?_;rcases r with e|(v|_|_|_)<;>first|exact z|exact z.elim|skip
 obtain⟨rfl,z⟩:=z;exact br<|br z
end
section
variable {prog:j4}{w:el}{A:di}{K:Frag}{C fI:Addr}{h:Heap}{g:Array yX}{d:Drawn}{t:Nat}{a:l8}
def YH(c:lZ K C fI)(X:K.In h)(F:h.get? x=Y (iu C ta))(R:fb K (.ref C) name=Y O)
  (W:∀n P,n.get? x=Y {iu C ta with dict:=Y h.objs.size}->n.Ns h.objs.size (λy=>if y=name then Y v else O)->(∀y o,y≠x->h.get? y=Y o->n.get? y=Y o)->Q () ⟨n,g,d,P,a⟩):
  bw (bM prog w) A (setAttr (.ref x) name v) Q E ⟨h,g,d,t,a⟩:=by
 refine ui c.a λnm q N bs G sn Z S dd k0 k1 a6 k3 k5 a7=>?_;have a0:=X _ _ a7;have I:InstAt h x _ C O:=⟨F,V,V,trivial⟩;refine set_plain X I c.i ?_;have mc:∀b,(kU C::.ref G::iV).contains b=true->oU (bM prog w) h _ true:=λb a8 A Q E s a6 q=>by obtain⟨a1,a2,a3,a4,a5⟩:=s;exact se (a6 _ _ a0)<|by exact U a8<|q
 refine Lr u4.slot.plain u4.entry<|@C0 _ _ _ ⟨h,g,d,t+1,a⟩ "object.__setattr__" "object" "__setattr__" (.ref x) [.str name t,v] [] _ u4.kind u4.split (I.type.andThen<|mc _<|V) (u4.args _ _ v) ?_;refine U (osa_eq _ _ _ _)<|U (refuse_eq _ _) ?_;refine aN<|aN<|I.type.here<|aN<|(((Di a0).andThen .now).andThen .now:oU _ h _<|.ref C::.ref G::iV).here ?_;refine U (refuseLoop_ref _ _ _ _)<|U (refuseLoop_ref _ _ _ _)<|U (PySem.F.store_Exception.passes _) ?_;refine br<|aN<|I.type.here<|aN<|(uV X R).here<|aN<|br ?_;refine(?_:bw _ _ (storeInOwnDict _ _ (.str name t) name v false) _ _ _);obtain⟨o,ho,hc,z,u⟩:∃o,o=iu C ta/\o.cls=.ref C/\o.dict=none/\(∀c,o.data≠.cls c):=(jH _ V V V λ_ h=>by cases h);have l:{o with dict:=Y h.objs.size}={iu C ta with dict:=Y h.objs.size}:=U ho V;have F:=ho.symm▸F
 repeat (first|(with_reducible refine oH F<|U hc ?_)|with_reducible refine oH a0 ?_|wp_step)
 refine U z<|U (if_neg<|by simp[typeHasDict]) ?_;split
 ·rename_i i;exact aS i
 split
 ·rename_i c i;exact absurd i<|u c
 ·have f:(h.push {cls:=.type "dict",data:=.dict #[]}).get? x=Y o:=fC _ F;have k:=f5<|pd F;refine aN<|wpAny_alloc' ?_;refine aN<|wpAny_update' f ?_;refine br ?_;have H:((h.push {cls:=.type "dict",data:=.dict #[]}).update x λo=>{cls:=o.cls,dict:=Y h.objs.size,data:=o.data,slots:=o.slots}).get? h.objs.size
    =Y {cls:=.type "dict",data:=.dict #[]}:=
   (MQ _ _ _ _ k.symm).trans (Heap.get?_push_at V V)
  have B:((h.push {cls:=.type "dict",data:=.dict #[]}).update x λo=>{cls:=o.cls,dict:=Y h.objs.size,data:=o.data,slots:=o.slots}).Ns h.objs.size λ_=>O:=
   (dG _ _ _ H V (λe he=>absurd he<|by simp) λ_=>V)
  refine aN<|br<|aN<|wpAny_nsSet1 (MS B) λn j M=>?_;refine ia (j.count<|Lu name v Within.nil) λoD T a9 m p r=>?_;refine aN<|Ld m (by refine U p<|Lp<|aE r<|by refine U j8<|U yF<|U fT ?_;exact aW [] (.a (.n 0)<|.n 1) (.a (.n 16777216)<|.n 1) [] V) ?_
  wp_walk
  refine W n _ ?_ j.ns λb ob D L=>?_
  ·refine aP l<|(M.2 x k).trans (yV _ f ?_);refine U ho ?_;rfl
  ·exact(M.2 b<|f5<|pd L).trans<|(MQ _ _ _ _ D).trans<|fC _ L
end
end bc
end
section
set_option backward.match.sparseCases false
open PySem PySem.W PyProof.Rows PySem.SeqAt PySem.MeetsSeq PySem.Calls
namespace bc
noncomputable def RX(W:Wd)(a:Heap):Hp->Heap->Int->bI->Prop:=λ_ h i v=>
 ∃e d b t,v=.ref e/\a.get? e=O/\h.get? e=Y {iu (W.T 7).a b with dict:=Y d}/\a.get? d=O/\h.Ns d λy=>if y="told" then Y<|.int i t else O
structure CB(W:Wd)(fn:Fn)(fI:Addr)(qa:pf):Prop where
 b:fn.c=2
 c:fn.g=2
 a:∃(y1 y2:Str)(p1 p2 p3 pos:Pos),y1≠y2/\(y1==("__debug__":Str))=false/\(y2==("__debug__":Str))=false/\qa.scope.names.lookup y1=Y .local/\qa.scope.names.lookup y2=Y .local/\
  x7 W fn [y1,y2] fI qa [.Assign [.Attribute (.Name y1 p1) "told" p2] (.Name y2 p3) pos]
section
variable {W:Wd}{A:di}{H:Hp}{s:bU}{l:List Env}
def Zj(ok:W.y)(x:lZ W.K (W.T 7).a fI)(F:∀W',W'.u W->CB W' fn fI qa)(g:bu W H s.heap)(rb:uN A 1)(hh:A.handled=O)(rI:A.frames=Y l)(fo:fa W H s.heap l)(ru:aT W.T (aU W.fr H) s.heap (.c i) u)(q:Q i H):aQ W A E (RX W s.heap) Q (call (.ref (W.T 7).a) [u]) H s:=by
 obtain⟨h,L,M,t,os⟩:=s;refine qq<|YL x (g.G ok) (by simp[fT]) ?_;generalize he:h.objs.size+1=e;have k:∀b o,h.get? b=Y o->((h.push {cls:=.type "tuple",data:=.seq [u].toArray}).push<|iu (W.T 7).a h.objs.size).get? b=Y o:=λb o e=>fC _<|fC _ e;have hx:((h.push {cls:=.type "tuple",data:=.seq [u].toArray}).push<|iu (W.T 7).a h.objs.size).get? e=Y (iu (W.T 7).a h.objs.size):=by subst he;heap_get
 have N:h.get? e=O:=by subst he;exact pe<|mg _
 generalize((h.push {cls:=.type "tuple",data:=.seq [u].toArray}).push _)=ky at k hx |-;generalize h.objs.size=ta at hx;have d:∀y,y=e->h.get? y=O:=λy q=>q▸N;refine bp (bu.Q (s₁:=⟨ky,L,M,t,os⟩) (P:=λy=>y=e) (up:=λ_=>False) g k d λy q=>⟨_,q▸hx⟩) λg1 v1=>?_;have T:=F _<|(Wd.u.d W).f (λy=>y=e) λ_=>False;refine YQ T.a λa1 X p1 p2 p3 pos IP WR ua Wy Wx FA=>?_;have ar:Ar _ H ky (A.under<|.builtin "type.__call__" ⟨.ref (W.T 7).a::[u],[]⟩) l 1:=
  ⟨⟨by have:=rb.c;exact aW [_,_] (.a (.a (.a (.a (.v 0)<|.n 1)<|.m 3<|.n 1)<|.n 9)<|.n 1) (.v 1) [(.a (.a (.a (.v 0)<|.m 3<|.n 1)<|.n 11)<|.n 1,.v 1)] V this,by have:=rb.b;exact aW [_,_] (.a (.a (.a (.a (.v 0)<|.n 1)<|.m 12<|.n 1)<|.n 60)<|.n 1) (.v 1) [(.a (.a (.a (.v 0)<|.m 12<|.n 1)<|.n 69)<|.n 1,.v 1)] V this⟩,hh,rI,fa.D (s:=⟨h,L,M,t,os⟩) (s₁:=⟨ky,L,M,t,os⟩) (P:=λy=>y=e) (up:=λ_=>False) fo k⟩
 have hb:fn.d [.f e,.c i]=Y [Y<|.f e,Y<|.c i]:=by unfold Fn.d;refine U T.b<|U T.c ?_;simp
 refine Kk (W:=W.q _ _) (s:=⟨ky,L,M,t,os⟩) (ok.y _ _) FA g1 ar (vs:=[.f e,.c i]) (us:=[.ref e,u]) (bW V (v1 _ _ ru) trivial) hb λa S co Wv hC B hA xm rb' st a0 hg ho a4=>?_
 set_option backward.match.sparseCases true in refine(?_:bw _ _ (exec _ a.env>>=λf=>match f with|.next=>iZ [] a.env|f=>pure f) _ _ S)
 refine aN ?_;refine U (uZ _ _ _ _) ?_;refine aN<|eN ?_;refine U (show CU [.Attribute (.Name a1 p1) "told" p2] (.Name X p3) pos.line a.env=pure false from V) ?_;refine aN<|br ?_;refine U (if_neg<|by decide) ?_;have sv:∀{j}{y}{p}{b}{s'},[a1,X][j]? =Y y->a.env.kindOf y=Y .local->(y==("__debug__"))=false->[Y<|AV.f e,Y<|AV.c i][j]? =Y (Y b)->
   St ((W.q (λy=>y=e) λ_=>False).t a.env) a [Y<|.f e,Y<|.c i] [] H s'->
   aQ ((W.q (λy=>y=e) λ_=>False).t a.env) a.A (λ_ _=>False) (RV _) (λv H'=>v=b/\H'=H) (eval (.Name y p) a.env) H s':=λ{j y p b s'}e1 e2 e3 e4 zK=>by
  refine E9 co (U Wv<|e1) (.inl ⟨hC,e2⟩) e3 _ H s' ?_ zK;refine U e4 ?_;exact⟨V,V⟩
 refine aN<|cS (sv (j:=1) (b:=.c i) V (by refine U B<|Wx) ua V st) (λv EH z=>?_) λe s' z=>?_
 ·(refine eh z λb H' n3 a2 jg uq=>?_;clear z;subst jg;subst uq)
  obtain⟨tk,rfl⟩:=a2;rw[show nr [.Attribute (.Name a1 p1) "told" p2] (.Name X p3) a.env=pure O from V];refine aN<|br ?_;refine aN ?_;refine aN<|e5<|cS (sv (j:=0) (b:=.f e) V (by refine U B<|Wy) WR V<|st.nx n3) (λv w z=>?_) λe s' z=>?_
  ·obtain⟨b,H',n4,a2,rfl,rfl⟩:=z;subst a2;have n:=n3.p n4;refine aN<|eN<|aN<|e5 ?_;have We:w.heap.get? e=Y (iu (W.T 7).a ta):=by
    have:=n.I e _ (.inl<|.inr V)<|a0 _ _ hx;exact this.l λ_ _ h=>by cases h
   have al:=λy o q=>n.j.f y o<|a0 _ _<|k _ _ q;obtain⟨h4,I,C,t4,D⟩:=w;refine YH (K:=W.K) (fI:=fI) x (n.i.G (W:=(W.q (λy=>y=e) λ_=>False).t a.env)<|(ok.y _ _).v _) We x.ly λh5 t5 a3 R r=>yd<|br<|br ?_;refine ry V i H' ⟨⟨λy o c Z=>?_,λ_ _ _ Z=>Z,λy o c=>?_⟩,λy o hf c=>?_,?_,?_,?_⟩ (rt e h4.objs.size ta tk V N a3 ?_ R) q;·exact(n.j.g y o (a0 _ _<|k _ _ c)<|mE (s:=⟨ky,L,M,t,os⟩) a4 (k _ _ c)<|jN (s:=⟨h,L,M,t,os⟩) d c Z).j λm G=>.i<|r y m (λz=>by rw[z,N]at c;exact aS c) G
   ·refine aF (al y o c) λm G=>⟨m,r y m (λz=>by rw[z,N]at c;exact aS c) G⟩
   ·exact(n.I y o (.inl<|.inl hf)<|a0 _ _<|k _ _ c).j λm G=>.i<|r y m (λz=>by rw[z,N]at c;exact aS c) G
   ·have WS:∀y,y=e->W.r.get? y=O:=λy q=>by
     cases z:W.r.get? y with
     |none=>rfl
     |some o=>have:=g.D y o z;rw[q]at this;rw[N]at this;exact aS this
    exact bu.S (s:=⟨h5,I,C,t5,D⟩)<|bu.ak (s:=⟨h5,I,C,t5,D⟩) (nS (W:=(W.q (λy=>y=e) λ_=>False).t a.env) (P:=λy=>y=e) (s:=⟨h4,I,C,t4,D⟩) n.i (λy q=>.inl<|.inr q) WS (λy o q c=>r y o q c) λy q=>⟨_,q▸a3⟩).2
   ·exact n.y.trans hg
   ·exact n.K.trans ho
   ·cases z:h.get? h4.objs.size with
    |none=>rfl
    |some o=>
     refine aF (al _ o z) λm G=>?_;exact absurd (pd G)<|dk _
  ·exact(aH z λ_ q _=>q.elim)
 ·exact(aH z λ_ q _=>q.elim)
end
def Sl{K}(x:lZ K C fI)(k:A.handled=O)
  (h:bw M A t (λv a=>∃e j i,v=.ref e/\K.In a.heap/\a.heap.get? e=Y {iu C j with dict:=Y i}/\E (.ref e) a) E s):
  bw M A (raiseStmt env (Y t) O) Q E s:=by
 refine ui x.a λL q N B G I p n F u D y H r o=>?_;refine aN<|cS h (λv a b=>?_) λ_ _ x=>x
 (refine fw b λe j i c X m l=>?_;clear b;subst c)
 have f:=X _ _ o;obtain⟨z,g,d,w,os⟩:=a
 repeat (first|with_reducible refine oH m ?_|with_reducible refine oH f ?_|(with_reducible refine se f<|U (V:(kU C::.ref G::iV).contains _=true) ?_)|wp_step)
 exact wpAny_raiseNew_none k l
section
variable {W:Wd}{a:Cx}
def V4{P:Int->Prop}v:(match v with|.c i=>P i|_=>False)=∃i,[v]=[AV.c i]/\P i:=by
 induction v using bc.AV.casesOn with
 |c i=>exact propext ⟨λk=>aO i V k,λk=>aH k λj e k=>rG (i3 e).1▸k⟩
 |_=>exact propext ⟨False.elim,λk=>aH k λj e _=>aS<|congrArg (λl=>l.head?.bind AV.p) e⟩
def Qx(D:W.y)(l:Ro a<|n+1)(x:lZ W.K (W.T 7).a fI)(M:(W.T 7).b=[("told":Str)])(F:∀W',W'.u W->CB W' fn fI qa){p c A}{e}{g:VK->ba->ei}
  (hk:a.env.kindOf nm=Y .globalImplicit) (N:(nm==("__debug__":Str))=false) (hn:nsIn W.K d9 nm=Y (Y<|.ref (W.T 7).a)) (a4:js W.K (.ref (W.T 7).a)=true)
  (T:∀E m,bD W a E m [] (g E m)<|eval e a.env) (Z:dW [e]=true):
  eC W a (λm K=>g (λe=>K (.b e) m) m λv _=>(match v with|.c i=>K (.b<|.n 7 [.c i]) m Hp.aw|_=>False)) (exec (.Raise (Y<|.Call (.Name nm p) [e] [] c) O A) a.env):=λm K H s EE d k hp a3=>by
 refine U (arm_exec_Raise _ _ _ _) ?_;refine aN<|eN ?_;refine(?_:bw _ _ (raiseStmt a.env (Y<|eval (.Call (.Name nm p) [e] [] c) a.env>>=λv=>gF A>>=λ_=>pure v) O) _ _ s);refine Sl x l.a.b<|aN ?_;refine(?_:bw _ _ (eval (.Name nm p) a.env>>=λv=>kR c v [] (j1 c<|iY [e] a.env) []) _ _ s);refine aN<|ud D l.a k.ag hk N hn ?_;have I:eL [g (λe=>K (.b e) m) m] (λvs _=>∃i,vs=[.c i]/\K (.b<|.n 7 [.c i]) m Hp.aw) H:=
  Eq.mp (congrArg (λf=>g (λe=>K (.b e) m) m f H)<|funext λv=>funext λ_=>V4 v) d
 have z:aQ W a.A (λe=>K (.b e) m) (RX W s.heap) (λi _=>K (.b<|.n 7 [.c i]) m Hp.aw) (kR c (.ref (W.T 7).a) [] (j1 c<|iY [e] a.env) []) H s:=by
  refine qc D k.ag (.d a4) Z (lB (.cons (T _ m) .d) Z _ H s I k) λus vs H' s' h vl I=>?_
  (refine aH I λi S Q=>?_;clear I;subst S)
  (refine aH (hY vl) λu j ru=>?_;subst j)
  refine aQ.I (Zj D x F h.i ⟨by have:=l.c.c;exact aW [_,_,_] (.a (.a (.a (.v 0)<|.m 3<|.n 1)<|.n 11)<|.n 1) (.v 1) [(.a (.a (.a (.v 0)<|.m 3<|.a (.v 2)<|.n 1)<|.n 11)<|.n 1,.v 1)] V this,by have:=l.c.b;exact aW [_,_,_] (.a (.a (.a (.v 0)<|.m 12<|.n 1)<|.n 69)<|.n 1) (.v 1) [(.a (.a (.a (.v 0)<|.m 12<|.a (.v 2)<|.n 1)<|.n 69)<|.n 1,.v 1)] V this⟩ l.a.b l.a.i (l.e<|k.nx h).d ru (q:=Q)) λv b eb wI n'' r q=>aO b ?_ q;refine By r λG g R a1 h1 a0 C P a2=>?_;exact rt G g R a1 h1 (h.j.p a0) C (h.j.p P) a2
 refine cS z (λv s' y=>?_) λe s' y=>a3 e s'<|rN k y
 (refine cj y λi H' h X Q=>By X λG g R a1 j a0 C P a2=>?_;subst j)
 refine aN<|eN<|br<|dG G R g V (h.i.G D) C<|a3 _ _ ?_;have t:=h.p<|Nx.L h.i (H':=Hp.aw) λ_ _ e=>nomatch e
 refine⟨.n 7 [.c i],m,Q,k.nx t,An G _ g i a1 _ V V a0 C V V V (by simp) P ?_<|.inl<|V,t.j,λx o T e=>t.I x o (k.fr.uf x T) e,t.i.D,t.y,t.K⟩;refine U M ?_;refine fw a2 λo es ep ho N B w=>?_;refine(dG o es ep ho N B λy=>?_);refine U (w y) ?_;by_cases L:y="told";·subst L;rfl
 ·simp[L,jw,beq_eq_false_iff_ne.mpr L]
end
end bc
end
section
set_option backward.match.sparseCases false
open PySem PySem.W PyProof.Rows PySem.SeqAt PySem.MeetsSeq PySem.Calls Builtin Builtin.ObjectAttr
namespace bc
section
variable {prog:j4}{w:el}{A:di}{K:Frag}{C fI x:Addr}{s:bU}{E:bI->bU->Prop}{Q:bI->bU->Prop}
def YN(c:lZ K C fI)(X:K.In s.heap)(I:InstAt s.heap x ox C<|Y od)(j:qx K C=true)(m:sk name od=Y (Y v))(e:fb K (.ref C) name=Y O)
  (f:handedIn v=true) (h:Q v {s with toks:=s.toks+1}):bw (bM prog w) A (getAttr (.ref x) name true) Q E s:=by
 refine ui c.a λF q N r G n a i u D H k o y l=>?_;obtain⟨b,g,d,t,os⟩:=s;have L:=I.type (M:=bM prog w);have a:oU _ b (isInstance _ _) true:=L.andThen λA Q E s k q=>by obtain⟨P,R,B,z,p⟩:=s;exact se (k _ _<|X _ _ l)<|by exact U (show(kU C::.ref G::iV).contains (.type "BaseException")=true from V)<|q
 refine aN<|wpAny_mkText<|e5<|aN<|L.at<|aN<|(uV X c.l).at ?_;dsimp only;refine U (if_neg<|by refine U (show(Lx "BaseException.__getattribute__"==Lx "object.__getattribute__")=false from by decide+kernel) ?_;simp) ?_;unfold getAttrByItsOwn hookBefore callGetattribute boundAndCalled;refine aN<|(uV X c.c).at ?_;refine aN<|wpAny_attempt<|e5 ?_;refine U (if_neg<|by decide)<|U (LF.ga.bind _) ?_;refine aN<|br<|qq<|Lr LF.ga.plain PySem.F.entry_bexc_ga<|@C0 _ _ _ ⟨b,g,d,t+1,os⟩ "BaseException.__getattribute__" "BaseException" "__getattribute__" (.ref x) [.str name t] [] _ (by decide+kernel) (by decide+kernel) a (PySem.F.args_bexc_ga _ _) ?_;refine aN<|br<|aN<|br<|aN<|L.at<|aN<|(looks_find X I<|findObj_own j e V m).at ?_;refine br ?_;refine(?_:bw _ _ (handedOut v) _ _ _);exact U (handedOut_of f)<|br h
end
end bc
end
section
set_option backward.match.sparseCases false
open PySem PySem.W PyProof.Rows PySem.SeqAt PySem.MeetsSeq PySem.Calls
namespace bc
section
variable {W:Wd}{Z:Cx}{A:di}{m mc:ba}{H:Hp}{s s':bU}
def St.ak(N:St W Z m mc Hp.aw s){h'}(d:∀x o,s.heap.get? x=Y o->hM h' x o)(F:∀x o,W.r.get? x=Y o->h'.get? x=Y o)(e:s'.heap=h'):St W Z m mc Hp.aw s':=by
 subst e;obtain⟨g,⟨A,G,C,hc,l⟩,a0,K,R,Q,uf,H,B,fr⟩:=N;have p:∀a v,aT W.T (aU W.fr Hp.aw) s.heap a v->aT W.T (aU W.fr Hp.aw) s'.heap a v:=aT.g λx o e n=>⟨d x o e,n⟩;have al:∀x o,s.heap.get? x=Y o->∃o',s'.heap.get? x=Y o':=λx o e=>by refine bq (d x o e) (λz=>aH z λk q _=>?_) λw=>fY w λ_ _ _ q=>?_<;>exact⟨_,q⟩
 refine⟨⟨F,g.F,⟨λa o e=>aS e,λ_ _ _ _ _ _ _ e=>aS e,λ_ _ _ _ e=>aS e,g.z.W,λx hx=>?_⟩⟩,bQ A G ?_ (λn c e=>?_) ?_,a0,K,R,Q,uf,H,B,λenv S=>?_⟩;·exact aF (g.z.Q x hx) λo e=>al x o e
 ·refine ia C λo X P t h r=>aH ((d _ o t).m<|by refine U h ?_;nofun) λk q _=>?_;exact lK _ X P q h r
 ·refine aH (hc n c e) λo t h=>aH ((d _ o t).m<|by refine U h ?_;nofun) λk q _=>?_;exact aO _ q h
 ·exact⟨λi T v j f=>⟨λa b=>aH ((l.1 i T v j f).1 a b) λu e r=>aO u e<|p _ _ r,λa=>aH ((l.1 i T v j f).2 a) λu e r=>aO u e<|p _ _ r⟩,λa i T v j f b=>aH (l.2 a i T v j f b) λu e r=>aO u e<|p _ _ r⟩
 ·refine ib (fr env S) λD L o a1 E M z I=>gR z λX n y=>aH ((d _ o M).m<|by refine U y ?_;nofun) λk q _=>?_;exact jI D L _ a1 E q (pQ X n y) I
def OH(x:Z.f)(P:St W Z m mc H s)(G:Z.e=false)(F:Z.b[i]? =Y nm)(a0:Z.env.kindOf nm=Y .local)(K:m[i]? =Y (Y v))
  (a1:∀s',cY W H s H s'->St W Z (m.set i O) mc H s'->Q () s'):bw (bM W.p W.w) A (unbindName Z.env nm) Q E s:=by
 obtain⟨g,⟨X,N,M,hc,y⟩,mV,iT,mK,pz,uf,D,L,z⟩:=P;have p:∀{j}{d},Z.b[j]? =Y d->j≠i->d≠nm:=λ{j d}e f q=>f (by subst q;exact(Dz ((et.mp e).1) x.e).mp (e.trans F.symm))
 refine aH ((y.1 i nm v F K).1 G a0) λa4 T _=>?_;refine wpAny_unbindName_local a0 M T (by refine U x.a ?_;rfl) λh' u l h=>?_;have n:=v7 (k:=s.toks) g mV mK D h<|jA l;refine a1 _ n ⟨n.w,(eX _ N l (λd c e=>(hc d c e).sameBut h λq=>x.d d c (kM e) q.symm) (λj d I B R=>?_) λq=>by rw[G]at q;exact aV q),mV,iT,mK,pz,uf,D,L,z.C h (by refine ia l λo w a2 S a3 _=>?_;exact .inl (je o w a2 S a3))⟩
 rcases ug R with⟨rfl,t⟩|⟨f,t⟩;·exact aS t
 ·exact⟨λa b=>aH ((y.1 j d I B t).1 a b) λC e r=>aO C (by simp[p B f,e])<|r.d n.p,λb=>aH ((y.1 j d I B t).2 b) λC e r=>aO C e<|r.d n.p⟩
def YK{K}(x:lZ K C fI)(X:K.In s.heap)(j:s.heap.get? e=Y oe)(b:oe.cls=.ref C)(h:Q true s):
  bw M A (excMatches (.ref e)<|.ref C) Q E s:=by
 refine ui x.a λw q N l G n i c p t r m k v f=>?_;have a:=X _ _ f;obtain⟨o,g,d,u,os⟩:=s;refine aN<|aN<|aN<|oH a<|br ?_;refine U (by refine U (nw _ _) ?_;kernel_rfl:isSubtype _ _=pure false) ?_;refine br ?_
 repeat (first|(with_reducible refine oH j<|U b ?_)|with_reducible refine oH a ?_|(with_reducible refine se a ?_;first|refine U (V:(kU C::.ref G::iV).contains (.type "BaseException")=true) ?_|refine U V ?_)|wp_step)
 exact h
end
noncomputable def JZ(i j:Nat):ba->FK->Hp->Prop:=λm K H=>(match m[i]? with
 |some (some v)=>ov 7 0 v (λw=>K .a<|m.set j<|Y w) H
 |_=>False)
section
variable {W:Wd}{T:Cx}{K:FK}{H:Hp}{s s':bU}{EE:bI->bU->Prop}
def Pw(a0:W.y)(G:T.f)(D:T.e=false)(x:lZ W.K (W.T 7).a fI)(l:qx W.K (W.T 7).a=true)(b:(W.T 7).b=[("told":Str)]){i:Nat}
  (a4:T.b[i]? =Y n) (d:T.env.kindOf n=Y .local) (B:(n==("__debug__"))=false) (L:gU T j y) (N:m[i]? =Y (Y<|.n 7 [.c k])) (a:St W T m [] H s) (P:∀s',cY W H s H s'->St W T (m.set j<|Y<|.c k) [] H s'->Q .next s'):
  bw (bM W.p W.w) A (iZ [.Assign [.Name y p1] (.Attribute (.Name n p2) "told" p3) a2] T.env) Q E s:=by
 set_option backward.match.sparseCases true in refine(?_:bw _ _ _ _ _ s)
 refine aN ?_;refine U (uZ _ _ _ _) ?_;refine aN<|eN ?_;refine U (show CU [.Name y p1] _ a2.line T.env=pure false from V) ?_;refine aN<|br ?_;refine U (if_neg<|by decide) ?_;have z:eval (.Attribute (.Name n p2) "told" p3) T.env=(eval (.Name n p2) T.env>>=λo=>gF p3.atName>>=λ_=>iE [o] (getAttr o "told" true)>>=λr=>sm (.Name n p2) o r>>=λ_=>pure r):=by refine(?_:(qA _ "told" T.env _>>=_)=_);exact U (zE V) V
 refine U z ?_;obtain⟨⟨f,cm,S,hc,R⟩,_⟩:=id a.fr;refine aH ((R.1 i n _ a4 N).1 D d) λu a1 a3=>?_;refine aN<|aN<|CR (yf G.a d S a1 ?_) B
 (refine uk (A7 a.ag a3<|.inl V) λZ K o us e I h g=>?_;subst e)
 (refine cj (wN g) λw r0 C X _=>aF X λt e=>?_;subst e)
 have p:sk ("told") o=Y (Y<|.int k t):=by refine U (h _)<|U b ?_;subst C;rfl
 refine aN<|eN<|aN<|e5<|YN x (a.ag.G a0) I l p x.ly V<|aN<|Lf<|br ?_;refine U (show nr [.Name y p1] _ T.env=pure O from V) ?_;refine aN<|br ?_;have F:Nx W H s H {s with toks:=s.toks+1}:=Nx.toks a.ag;refine aN<|sf<|nU (v:=.c k) G (a.nx F) D L.1 L.2 ⟨t,V⟩ λc M q=>br<|br ?_;exact P c ((F.kd a.fr.uf).q M) q
def Qu(ok:W.y)(R:T.f)(hC:T.e=false)(xm:T.a=T.env::l)(x:lZ W.K (W.T 7).a fI)(C:qx W.K (W.T 7).a=true)(WI:(W.T 7).b=[("told":Str)])(hb:eC W T db<|iZ body T.env)
  (hk:T.env.kindOf Ai=Y .globalImplicit) (hd:(Ai==("__debug__"))=false) (hg:nsIn W.K d9 Ai=Y (Y<|.ref (W.T 7).a))
  (hn:T.b[i]? =Y n) (D:T.env.kindOf n=Y .local) (WO:(n==("__debug__"))=false) (hy:gU T j y):
  eC W T (λm K=>db m λc P H=>(match c with
    |.b (.n C' vs)=>C'=7/\JZ i j (P.set i<|Y<|.n C' vs) (λc Az=>K c<|Az.set i O) H
    |.b _=>False
    |f=>K f P H))
   (exec (.Try body [.ExceptHandler (Y<|.Name Ai pC) (Y n) [.Assign [.Name y p1] (.Attribute (.Name n p2) "told" p3) p4] p5] [] [] pos) T.env):=λm K H s EE d st hp hE=>by
 refine wpAny_Try_except ?_;refine cS (hb m _ H s (λe b7=>bw _ T.A _ (λ_ b0=>bw _ T.A (setFlight e O) (λ_ G=>bw _ T.A (handleBy e T.env
   [.ExceptHandler _ _ [.Assign [.Name y p1] _ p4] p5]) _ EE G) EE b0) EE b7) d st PassesOwn.looking λe s' z=>?_) (λf s' z=>?_) λ_ _ z=>z
 ·refine cj z λav P k b c=>?_;have F:cY W H s Hp.aw s':=⟨c.k.a,c.k.e,b.ag,c.k.b,c.k.d⟩;obtain⟨⟨Q,ox,dx,Z,tk,vs,rfl,rfl,a3,a4,a5,a6,a7,a8,a9,a10,a11⟩,a12,adV,a13,a14,a15⟩:=c;refine bp k λ_ k=>?_;have a1:=b.fr.ag;have a1:=xm▸a1;refine rP (a1 T.env<|.head _) λ_ L _ hf _=>?_;refine Gn (U R.i<|U xm V) a1 hf a4 a7 a8 (λy e=>F.p.p e) (a11.imp id λhh=>Bz hh λt oT ts c b1 b2 b3=>w7 t oT ts c b1 b2 b3) λh' w=>?_;refine Jg w.g λmF a2 hz t oT ts c b1 b2 b3 b4 b5 b6=>?_;have old:∀y o,s.heap.get? y=Y o->y≠Q/\¬s.heap.get? y=O:=λy o e=>⟨λq=>(by rw[q,a3]at e;exact aS e),λq=>(by rw[q]at e;exact aS e)⟩;have kp:=λy o e A a=>w.c y A (old y o e).1 (λq=>absurd q (old y o e).2) a;have IV:=λy o e=>by
   refine(kp y o (st.ag.D y o e) o<|a13 y o e).2 λhm=>?_;rw[Dt]at hm;refine aH hm λenv he rI=>?_;refine xC (a1 env he) λ_ L' _ a0 q3 _=>?_;rw[rI]at a0;(have a0:=bz a0;subst a0);rw[e]at q3;exact aS<|cc q3
  have E:St W T P [] Hp.aw {s' with heap:=h'}:=b.ak w.f IV V;have n1:cY W H s Hp.aw {s' with heap:=h'}:=⟨⟨λy o e nn=>(F.p.g y o e nn).j λA a=>(kp y o e A a).1,F.p.i,λy o e=>by refine aF (F.p.f y o e) λA a=>?_;exact w.d y A a⟩,λy o hx e=>(F.y y o hx e).j λA a=>(kp y o e A a).1,E.ag,F.r,F.z⟩
  refine wpAny_handleBy_cons (codeAny_handlers_test<|ud ok R E.ag hk hd hg<|YK x (E.ag.G ok) a2 a5 ?_) λq=>PySem.Value.noConfusion q;refine codeAny_of_tree ?_;refine aN<|wpAny_noted ?_;refine aN<|eN<|aN<|Ff a2 V b1 b4 b5 b6 λh2 Wm p=>?_;have I:∀y o,h'.get? y=Y o->hM h2 y o:=λy o e=>by
   by_cases q:y=t
   ·subst q;rw[b4]at e;(have e:=bz e;subst e);exact .inr<|gc ts _ b5 Wm
   ·exact .inl<|.i<|(p y q).trans e
  have nt:∀y o,s.heap.get? y=Y o->y≠t:=λy o e q=>by rw[q,b2]at e;exact aS e
  have S:St W T P [] Hp.aw {s' with heap:=h2}:=E.ak I (λy o e=>(p y<|nt y o<|st.ag.D y o e).trans<|IV y o e) V;have n2:cY W H s Hp.aw {s' with heap:=h2}:=⟨⟨λy o e nn=>(n1.p.g y o e nn).j λA a=>.i<|(p y<|nt y o e).trans a,n1.p.i,λy o e=>by refine aF (n1.p.f y o e) λA a=>?_;exact⟨A,(p y (nt y o e)).trans a⟩⟩,λy o hx e=>(n1.y y o hx e).j λA a=>.i ((p y (nt y o e)).trans a),S.ag,F.r,F.z⟩
  have g:∀y,s.heap.get? y=O->¬aU W.fr Hp.aw y:=λy e hh=>by
   rcases hh with⟨o,q⟩|⟨_,_,_,q⟩|q;·exact aS q
   ·exact aS q
   ·refine aF (st.ag.z.Q y q) λo a=>?_;rw[e]at a;exact aS a
  have RK:aT W.T (aU W.fr Hp.aw) h2 (.n 7 [.c Z])<|.ref Q:=by refine⟨Q,dx,_,[.int Z tk],V,g Q a3,g dx a9,(p Q<|gr b3).trans a2,a5,V,a6,?_,⟨tk,V⟩,trivial⟩;refine ia a10 λo es ep ho C r=>?_;refine aH ((w.f dx o ho).m<|by refine U C ?_;nofun) λsl q _=>?_;refine aH ((I dx _ q).m<|by refine U C ?_;nofun) λsl2 a0 _=>?_;exact lK _ es ep a0 C r
  refine aN<|yh<|nU R S hC hn (.inl D) RK λG n3 tx=>?_;unfold JZ at k;split at k
  rotate_left
  ·exact k.elim
  rename_i v N;have Wf:v=.n 7 [.c Z]:=by
   refine bq (ug N) (λM=>bp M λ_ e=>?_) λs7=>bp s7 λe _=>?_;·exact(bz e).symm
   ·exact absurd V e
  subst Wf;have k:K .a (((P.set i _).set j<|Y<|.c Z).set i O) Hp.aw:=cj k λvs v h e q=>by
   refine bq h (λh=>?_) λM=>fY M λ_ _ h _=>?_;·cases h;(have e:=bz e;subst e);exact q
   ·exact bc.AV.noConfusion h
  refine aN<|wpAny_attempt<|Pw ok R hC x C WI hn D WO hy N tx λEG n4 tw=>?_;refine br<|br ?_;refine aN<|yh<|nU (v:=.k) R tw hC hn (.inl D) V λadz n5 PH=>?_;refine wpAny_onRaise (OH (i:=i) (v:=.k) R PH hC hn D (by rw[List.getElem?_set_self];simpa using((et.mp N).1)) λady n6 X=>?_)
  rw[List.set_set]at X;exact dG .a _ Hp.aw ((((n2.q n3).q n4).q n5).q n6) X V k
 ·refine fw z λc P H' n' b B k=>?_
  match c,B,k with
  |.a,B,k=>
   have B:=B;subst B;exact br<|dG .a P H' n' b V k
  |.d,B,k=>
   have B:=B;subst B;exact dG .d P H' n' b V k
  |.c v,B,k=>
   (refine aH B λu jg ru=>?_;subst jg)
   exact dG (.c v) P H' n' b (aO u V ru) k
end
structure SE where
 f:List Str
 a:List (Str×vq)
 l:List Str
 g:Bool
structure Tb where
 f:List (Str×Nat)
 g:List (Str×Nat)
 c:List ((Nat×Str)×Nat)
 a:List (List Str)
 b:List (Str×List UInt8)
 e:List Str
noncomputable def Tb.d(T:Tb)(C i:Nat):Option Str:=(T.a[C]?).bind (·[i]?)
structure jm(T:Tb)(W:Wd)(ad:Nat->Addr):Prop where
 v:∀n f,T.f.lookup n=Y f->nsIn W.K d9 n=Y (Y<|.ref<|ad f)/\js W.K (.ref<|ad f)=true
 w:∀n C,T.g.lookup n=Y C->nsIn W.K d9 n=Y (Y<|.ref (W.T C).a)/\js W.K (.ref (W.T C).a)=true/\makesIn W.K (W.T C).a=true/\
  fb W.K (.ref (W.T C).a) "__init__"=Y (Y<|.ref<|ad<|gS C)/\l4 W.K (.ref<|ad<|gS C)=Y (.type "function")
 u:∀C n f,T.c.lookup (C,n)=Y f->jq W.K (W.T C)/\n∉(W.T C).b/\fb W.K (.ref (W.T C).a) n=Y (Y<|.ref<|ad f)/\l4 W.K (.ref<|ad f)=Y (.type "function")/\js W.K (.ref<|ad f)=true
 p:∀C i n,T.d C i=Y n->jq W.K (W.T C)/\(W.T C).b[i]? =Y n
 s:∀n b,T.b.lookup n=Y b->∃t,nsIn W.K d9 n=Y (Y<|.bytes b.toArray t)
 r:∀n∈T.e,nsIn W.K d9 n=Y O
def jm.q{T}(x:jm T g j)(l:W.u g):jm T W j:=by obtain⟨a,b,c,d,e,f⟩:=x;obtain⟨i,m,n,h,o,k⟩:=l;exact⟨by refine U h<|a,by refine U h<|U i ?_;exact b,by refine U h<|U i ?_;exact c,by refine U h<|U i ?_;exact d,by exact U h<|e,by exact U h<|f⟩
structure eR(cK:Wd)(n:Nat)(e:SE)(W:Wd)(cx:Cx)(mc:ba):Prop where
 o:W.u cK
 j:Ro cx n
 l:cx.b=e.f
 p:cx.e=e.g
 t:e.g=true->cx.d=e.l
 q:cx.env.scope.names=e.a
 s:e.g=false->mc=[]
noncomputable def pU(n:Str):Bool:=n==("__debug__")
noncomputable def SE.b(e:SE)(n:Str):Bool:=decide (e.a.lookup n=Y .globalImplicit)&&!pU n
noncomputable def SE.d(e:SE)(i:Nat)(n:Str):Bool:=decide (e.f[i]? =Y n)&&(decide (e.a.lookup n=Y .local)||decide (e.a.lookup n=Y .cell))
noncomputable def SE.k(e:SE)(i:Nat)(n:Str):Bool:=decide (e.f[i]? =Y n)&&((!e.g&&decide (e.a.lookup n=Y .local))||decide (e.a.lookup n=Y .cell))&&!pU n
noncomputable def SE.j(e:SE)(i:Nat)(n:Str):Bool:=decide (e.l[i]? =Y n)&&e.g&&decide (e.a.lookup n=Y .local)&&!pU n
noncomputable def eQ{α β:Type}(f:α->β->Bool):List α->List β->Bool
 |[],[]=>true
 |a::r,b::t=>f a b&&eQ f r t
 |_,_=>false
theorem r6:∀{l}{t},eQ f l t=true->(∀a b,f a b=true->R a b)->c6 R l t
 |[],[],_,_=>.d
 |a::r,b::t,h,k=>have h:=ef.mp h;.cons (k _ _ h.1) (r6 h.2 k)
 |[],_::_,h,_=>aV h
 |_::_,[],h,_=>aV h
def c6.f{α β c:Type}{R:c->β->Prop}{g:α->c}{l}{t}(h:c6 (λa b=>R (g a) b) l t):c6 R (l.map g) t:=by
 induction h with
 |d=>exact .d
 |cons h _ i=>exact .cons h i
noncomputable def KB:Bi->Option Str
 |.b=>Y "len"|.n=>Y "abs"|.t=>Y "max"|.r=>Y "min"|.u=>Y "sum"|.m=>Y "int"|.o=>Y "list"|.k=>Y "bytes"|_=>O
@[elab_as_elim] def PK{α:Type}{M:α->Prop}{a b}(h:Y a=Y b)(k:M a):M b:=aP (bz h) k
def aa3(h:KB op=Y n):gX n=Y (qf op)/\n≠"__name__"/\qf op≠.none/\∀H o,jF op H o=True:=by induction op using bc.Bi.casesOn<;>first|exact aS h|exact PK h<|e8 (by kernel_rfl) (by decide+kernel) (by decide) λ_ _=>V
noncomputable def hF(e:Expr):Option {p:Str×Pos//e=.Name p.1 p.2}:=ic e 0 ((bR e).s,(bR e).p) (by decide) V
noncomputable def rV(e:Expr):Option {p:Const×Nat×Pos//e=.Constant p.1 p.2.1 p.2.2}:=ic e 1 ((bR e).c,(bR e).n,(bR e).p) (by decide) V
noncomputable def xJ(e:Expr):Option {p:UnaryOp×Expr×Pos//e=.UnaryOp p.1 p.2.1 p.2.2}:=ic e 2 ((bR e).u,hd 0 (bR e).l,(bR e).p) (by decide) V
noncomputable def J3(e:Expr):Option {p:Expr×u5×Expr×Pos//e=.BinOp p.1 p.2.1 p.2.2.1 p.2.2.2}:=ic e 3 (hd 0 (bR e).l,(bR e).r,hd 1 (bR e).l,(bR e).p) (by decide) V
noncomputable def xM(e:Expr):Option {p:BoolOp×List Expr×Pos//e=.BoolOp p.1 p.2.1 p.2.2}:=ic e 5 ((bR e).b,(bR e).l,(bR e).p) (by decide) V
noncomputable def Z6(e:Expr):Option {p:Expr×Expr×Expr×Pos//e=.IfExp p.1 p.2.1 p.2.2.1 p.2.2.2}:=ic e 6 (hd 0 (bR e).l,hd 1 (bR e).l,hd 2 (bR e).l,(bR e).p) (by decide) V
noncomputable def rW(e:Expr):Option {p:Expr×Str×Pos//e=.Attribute p.1 p.2.1 p.2.2}:=ic e 8 (hd 0 (bR e).l,(bR e).s,(bR e).p) (by decide) V
noncomputable def uv(e:Expr):Option {p:Expr×Expr×Pos//e=.Subscript p.1 p.2.1 p.2.2}:=ic e 9 (hd 0 (bR e).l,hd 1 (bR e).l,(bR e).p) (by decide) V
noncomputable def JY(e:Expr):Option {p:List Expr×Pos//e=.List p.1 p.2}:=ic e 11 ((bR e).l,(bR e).p) (by decide) V
noncomputable def uu(e:Expr):Option {p:List Expr×Nat×Pos//e=.Tuple p.1 p.2.1 p.2.2}:=ic e 12 ((bR e).l,(bR e).n,(bR e).p) (by decide) V
noncomputable def Z9(e:Expr):Option {p:List (Option Expr)×List Expr×Pos//e=.Dict p.1 p.2.1 p.2.2}:=ic e 13 ((bR e).o,(bR e).l,(bR e).p) (by decide) V
noncomputable def d1{α:Type}(l:List α):Option {x:α//l=[x]}:=match l with
 |[x]=>Y ⟨x,V⟩
 |_=>O
noncomputable def d2{α:Type}(l:List α):Option {x:α×α//l=[x.1,x.2]}:=match l with
 |[x,y]=>Y ⟨(x,y),V⟩
 |_=>O
noncomputable def d0{α:Type}(l:List α):Option {x:Unit//l=[]}:=match l with
 |[]=>Y ⟨(),V⟩
 |_=>O
def mX{α β e:Type}{a d}{b c}(f:α->β->e)(h:a=d)(k:b=c):f a b=f d c:=h▸k▸V
noncomputable def BU(e:Expr):Option {p:Expr×CmpOp×Expr×Pos//e=.Compare p.1 [p.2.1] [p.2.2.1] p.2.2.2}:=
 (d1 (bR e).q).bind λo=>(d1 (bR e).m).bind λr=>ic e 4 (hd 0 (bR e).l,o.1,r.1,(bR e).p) (by decide)<|mX (λq m=>Y<|Expr.Compare _ q m (bR e).p) o.2 r.2
noncomputable def J2(e:Expr):Option {p:Expr×List Expr×Pos//e=.Call p.1 p.2.1 [] p.2.2}:=
 (d0 (bR e).k).bind λo=>ic e 7 (hd 0 (bR e).l,(bR e).m,(bR e).p) (by decide)<|congrArg (λk=>Y<|yZ _ (bR e).m k (bR e).p) o.2
noncomputable def oj(e:Expr):Option {p:Str×Pos×List Expr×Pos//e=.Call (.Name p.1 p.2.1) p.2.2.1 [] p.2.2.2}:=
 (J2 e).bind λc=>(hF c.1.1).map λn=>⟨(n.1.1,n.1.2,c.1.2.1,c.1.2.2),c.2.trans<|congrArg (λf=>yZ f c.1.2.1 [] c.1.2.2) n.2⟩
noncomputable def J1(e:Expr):Option {p:Expr×Str×Pos×List Expr×Pos//e=.Call (.Attribute p.1 p.2.1 p.2.2.1) p.2.2.2.1 [] p.2.2.2.2}:=
 (J2 e).bind λc=>(rW c.1.1).map λn=>⟨(n.1.1,n.1.2.1,n.1.2.2,c.1.2.1,c.1.2.2),c.2.trans<|congrArg (λf=>yZ f c.1.2.1 [] c.1.2.2) n.2⟩
noncomputable def xK{α:Type}(o:Option α):Option {x:Unit//o=O}:=match o with
 |none=>Y ⟨(),V⟩
 |some _=>O
noncomputable def qd{α:Type}(o:Option α):Option {x:α//o=Y x}:=match o with
 |none=>O
 |some x=>Y ⟨x,V⟩
noncomputable def Z0(e:Expr):Option {p:Option Expr×Option Expr×Pos//e=.Slice p.1 p.2.1 O p.2.2}:=
 (xK _).bind λo=>ic e 10 (hd 0 (bR e).o,hd 1 (bR e).o,(bR e).p) (by decide)<|congrArg (λk=>Y<|DV _ _ k (bR e).p) o.2
noncomputable def Z'(e:Expr):Option {p:Nat×Pos×Pos×Pos//e=.Slice O O (Y<|.UnaryOp .USub (.Constant (.int 1) p.1 p.2.1) p.2.2.1) p.2.2.2}:=
 (xK _).bind λx=>(xK _).bind λy=>(qd _).bind λz=>(xJ z.1).bind λu=>(rV u.1.2.1).bind λc=>
  if h:u.1.1=.USub/\c.1.1=.int 1 then ic e 10 (c.1.2.1,c.1.2.2,u.1.2.2,(bR e).p) (by decide) (by refine(mX (λa b=>Y<|DV a b _ (bR e).p) x.2 y.2).trans<|congrArg (λk=>Y<|DV O O k (bR e).p) ?_;exact z.2.trans (congrArg Y (u.2.trans ((mX (λo k=>Nh o k u.1.2.2) h.1 c.2).trans (congrArg (λk=>Nh .USub (.Constant k c.1.2.1 c.1.2.2) u.1.2.2) h.2)))))
  else O
def Xk(g:Comprehension)(h:g.is_async=0):g=⟨g.target,g.iter,g.ifs,0⟩:=by induction g using PySem.Comprehension.casesOn;exact congrArg _ h
noncomputable def J0(e:Expr):Option {p:Expr×Expr×Expr×List Expr×oN×Pos//e=.ListComp p.1 [⟨p.2.1,p.2.2.1,p.2.2.2.1,0⟩] p.2.2.2.2.1 p.2.2.2.2.2}:=
 (d1 (bR e).g).bind λg=>if h:g.1.is_async=0 then ic e 14 (hd 0 (bR e).l,g.1.target,g.1.iter,g.1.ifs,(bR e).z,(bR e).p) (by decide)
  (congrArg (λg=>Y<|Expr.ListComp _ g (bR e).z (bR e).p)<|g.2.trans<|congrArg (λx=>[x])<|Xk g.1 h)
  else O
noncomputable def Option.ask{α:Type}(x:Option α)(p:α->Bool):Bool:=match x with
 |some a=>p a
 |none=>false
def bE:∀{x},Option.ask x p=true->∃a,p a=true
 |some a,h=>⟨a,h⟩
noncomputable def bG{α:Type}{P:α->Prop}(x:Option {a:α//P a})(c:α->Bool):Bool:=Option.ask x λa=>c a.1
def cu:(a&&b)=true->a=true/\b=true:=by induction a using Bool.casesOn<;>induction b using Bool.casesOn<;>decide
def gD(h:(a&&(b&&c))=true):a=true/\b=true/\c=true:=⟨(cu h).1,cu (cu h).2⟩
def jl(h:(a&&(b&&(c&&d)))=true):a=true/\b=true/\c=true/\d=true:=⟨(cu h).1,gD (cu h).2⟩
def uJ(h:(a&&(b&&(c&&(d&&e))))=true):a=true/\b=true/\c=true/\d=true/\e=true:=⟨(cu h).1,jl (cu h).2⟩
def KT(h:(a&&(b&&(c&&(d&&(e&&f)))))=true):a=true/\b=true/\c=true/\d=true/\e=true/\f=true:=⟨(cu h).1,uJ (cu h).2⟩
def jc:(a||b)=true->a=true\/b=true:=by induction a using Bool.casesOn<;>induction b using Bool.casesOn<;>decide
def ko:(!a)=true->a=false:=by induction a using Bool.casesOn<;>decide
def bV[Decidable p](h:decide p=true):p:=of_decide_eq_true h
noncomputable def Wa(l:List Nat)(n:Nat):Bool:=l.any<|gG n
noncomputable def z6(e:Expr):Bool:=Wa [0,1,7,8,9] (bR e).t
def Su a e:cond (z6 e) (fA e a (eval e a)=(do let v<-eval e a;gF e.pos;iE [v] (sh v))) True:=by induction e using PySem.Expr.casesOn<;>first|exact kW|exact mz _
def Ss(h:z6 e=true)a:fA e a (eval e a)=(do let v<-eval e a;gF e.pos;iE [v] (sh v)):=Aa (Su a e) h
abbrev hJ:=Bool->SE->X->Expr->Bool
noncomputable def Z4(x:X):Option {u:Unit//x=.e .k}:=match x with
 |.e .k=>Y ⟨(),V⟩
 |_=>O
noncomputable def B0(rec:hJ)(e:SE)(x:X)(o:Option Expr):Bool:=match o with
 |some y=>rec false e x y
 |none=>bG (Z4 x) λ_=>true
noncomputable def A6(e:Expr):Bool:=gG (bR e).t 99
noncomputable def uA(T:Tb)(rec:hJ)(e:SE)(k:gV)(a:List X)(i:Expr):Bool:=
 match k with
 |.a=>bG (d1 a) λx=>!A6 i&&rec false e x i
 |.b=>bG (oj i) λq=>e.b q.1&&(decide (q.1=("range"))&&(T.e.contains q.1&&(dW q.2.2.1&&eQ (rec false e) a q.2.2.1)))
 |.c=>bG (oj i) λq=>bG (d1 q.2.2.1) λy=>bG (d1 a) λx=>e.b q.1&&(decide (q.1=("enumerate"))&&(T.e.contains q.1&&(dW [y]&&rec false e x y)))
noncomputable def B1(f:Nat->Str->Bool):List Nat->List Expr->Bool:=eQ λi t=>bG (hF t) λq=>f i q.1
noncomputable def BZ(f:Nat->Str->Bool)(a:List Nat)(u:Bool)(t:Expr):Bool:=if u then bG (uu t) λq=>B1 f a q.1 else bG (hF t) λq=>bG (d1 a) λi=>f i q.1
noncomputable def jB(e:Expr):List Str:=cond (gG (bR e).t 0) [(bR e).s]<|cond (gG (bR e).t 12) ((bR e).l.filterMap λx=>cond (gG (bR x).t 0) (Y (bR x).s) O) []
noncomputable def tG(a b:List<|Str×vq):List<|Str×vq:=b.map λ(n,k)=>if(k==.free&&(a.lookup n==Y .cell))then(n,.cell)else(n,k)
noncomputable def SE.h(e:SE)(s:oN)(c:List Str):SE:=⟨e.f,tG e.a s.names,c,true⟩
noncomputable def aar(e:SE)(s:oN):Bool:=decide (s.kind=.function)&&(decide ((s.names.map (·.1)).Nodup)&&s.names.all λx=>decide (x.2≠.cell)&&((decide (x.2≠.free)||decide (e.a.lookup x.1=Y .cell))&&(decide (x.2≠.local)||decide (s.names.lookup x.1=Y .local))))
noncomputable def B3(T:Tb)(rec:hJ)(e:SE)(g:X)(h:List Nat)(u:Bool)(k:gV)(f d:List X)(b t a:Expr)(c:List Expr)(s:oN):Bool:=
 (!e.g&&(aar e s&&(decide ((jB t).Nodup)&&BZ (λi n=>decide ((jB t)[i]? =Y n)&&decide (s.names.lookup n=Y .local)) h u t)))&&
 (rec false (e.h s<|jB t) g b&&(eQ (rec true<|e.h s<|jB t) d c&&(uA T rec e k f a&&(decide (k≠.c)||lM t))))
noncomputable def Ka(T:Tb)(e:SE)(v:AV)(a:Expr):Bool:=match v with
 |.d b=>bG (rV a) (λq=>xN (.d b) q.1)||bG (hF a) λq=>e.b q.1&&(decide (T.b.lookup q.1=Y b)&&decide (b.length<=1000))
 |.l l=>bG (uu a) λq=>bG (d0 q.1) λ_=>l.isEmpty
 |v=>bG (rV a) λq=>xN v q.1
noncomputable def rX(T:Tb)(e:SE)(n s:Str):Bool:=e.b n&&(decide (n=s)&&T.e.contains n)
noncomputable def Kb(T:Tb)(rec:hJ)(e:SE)(o:Bi)(b:List X)(a:List Expr):Bool:=bG (d1 b) λx=>bG (d2 a) λy=>rec false e x y.1&&match o with
 |.w=>bG (hF y.2) λt=>rX T e t.1 "bytes"
 |.v=>bG (hF y.2) λt=>rX T e t.1 "str"
 |.p=>bG (uu y.2) λl=>bG (d2 l.1) λz=>bG (hF z.1) λt=>bG (hF z.2) λu=>rX T e t.1 "bytes"&&rX T e u.1 "str"
 |_=>false
noncomputable def Z5(e:Option Expr):Option {p:Int×Nat×Pos//e=Y (.Constant (.int p.1) p.2.1 p.2.2)}:=
 (qd e).bind λx=>(rV x.1).bind λc=>match c with
  |⟨(.int i,k,p),q⟩=>Y ⟨(i,k,p),x.2.trans<|congrArg Y q⟩
  |_=>O
noncomputable def JW(e:Option Expr):Option {p:Str×Nat×Pos//e=Y (.Constant (.str p.1) p.2.1 p.2.2)}:=
 (qd e).bind λx=>(rV x.1).bind λc=>match c with
  |⟨(.str i,k,p),q⟩=>Y ⟨(i,k,p),x.2.trans<|congrArg Y q⟩
  |_=>O
noncomputable def Kd(rec:hJ)(e:SE)(k:DK)(h:List AV)(g:List X)(b:List<|Option Expr)(f:List Expr):Bool:=
 (bG (d0 h) λ_=>bG (d0 b) λ_=>bG (d0 f) λ_=>decide (k≠.s)&&g.isEmpty)||
 ((bG (d1 h) λv=>Option.ask v.p λi=>bG (d1 b) λa=>bG (Z5 a) λj=>bG (d1 f) λy=>bG (d1 g) λx=>decide (k=.i)&&(decide (i=j.1)&&rec false e x y))||
 (bG (d2 h) λv=>Option.ask v.1.z λs=>Option.ask v.2.z λt=>bG (d2 b) λa=>bG (JW a.1) λc=>bG (JW a.2) λd=>bG (d2 f) λy=>bG (d2 g) λx=>
   decide (k=.s)&&(decide (s=c.1)&&(decide (t=d.1)&&(decide (s≠t)&&(rec false e x.1 y.1&&rec false e x.2 y.2))))))
def Cr(h:Option.ask x p=true):∃a,x=Y a/\p a=true:=by
 induction x using Option.casesOn with
 |none=>exact aV h
 |some a=>exact⟨a,V,h⟩
noncomputable def J8(T:Tb)(rec:hJ)(e:SE)(x:X)(d:Expr):Bool:=
 match x with
 |.e v=>Ka T e v d
 |.d i=>bG (hF d) λq=>e.k i q.1
 |.s i=>bG (hF d) λq=>e.j i q.1
 |.y x=>bG (xJ d) λq=>decide (q.1=.USub)&&rec false e x q.2.1
 |.G x=>bG (xJ d) λq=>decide (q.1=.Not)&&rec false e x q.2.1
 |.j o _ a b=>bG (J3 d) λq=>decide (lG q.2.1=Y o)&&(rec false e a q.1&&rec false e b q.2.2.1)
 |.H _ a b=>bG (J3 d) λq=>bG (JY q.1) λl=>bG (d1 l.1) λy=>decide (q.2.1=.Mult)&&(dW [y]&&(rec false e a y&&rec false e b q.2.2.1))
 |.h o a b=>bG (BU d) λq=>decide (ux q.2.1=o)&&(!yo q.2.1 q.2.2.1&&(rec false e a q.1&&rec false e b q.2.2.1))
 |.F a b=>bG (BU d) λq=>bG (oj q.1) λl=>bG (oj q.2.2.1) λr=>bG (d1 l.2.2.1) λy=>bG (d1 r.2.2.1) λz=>
   decide (q.2.1=.Eq)&&(rX T e l.1 "repr"&&(decide (r.1=l.1)&&((dW [y]&&dW [z])&&(rec false e a y&&rec false e b z))))
 |.t g=>bG (xM d) λq=>decide (q.1=.And)&&(!q.2.1.isEmpty&&eQ (rec false e) g q.2.1)
 |.A g=>bG (xM d) λq=>decide (q.1=.Or)&&(!q.2.1.isEmpty&&eQ (rec false e) g q.2.1)
 |.D c a b=>bG (Z6 d) λq=>rec true e c q.1&&(rec false e a q.2.1&&rec false e b q.2.2.1)
 |.p f g=>bG (oj d) λq=>e.b q.1&&(decide (T.f.lookup q.1=Y f)&&(dW q.2.2.1&&eQ (rec false e) g q.2.2.1))
 |.E C _ g=>bG (oj d) λq=>e.b q.1&&(decide (T.g.lookup q.1=Y C)&&(dW q.2.2.1&&eQ (rec false e) g q.2.2.1))
 |.o C f x g=>bG (J1 d) λq=>(decide (T.c.lookup (C,q.2.1)=Y f)&&(mQ q.1&&(decide (q.2.2.2.1.length<30)&&decide (q.2.2.1.endLine=q.2.2.2.2.line))))&&(dW q.2.2.2.1&&(rec false e x q.1&&eQ (rec false e) g q.2.2.2.1))
 |.g C i x=>bG (rW d) λq=>decide (T.d C i=Y q.2.1)&&(mQ q.1&&rec false e x q.1)
 |.w a w h=>bG (uv d) λq=>bG (Z0 q.2.1) λs=>rec false e a q.1&&(B0 rec e w s.1&&B0 rec e h s.2.1)
 |.K _ a=>bG (uv d) λq=>bG (Z' q.2.1) λ_=>rec false e a q.1
 |.l a i=>bG (uv d) λq=>rec false e a q.1&&rec false e i q.2.1
 |.m _ g=>bG (JY d) λq=>dW q.1&&eQ (rec false e) g q.1
 |.q g=>bG (uu d) λq=>dW q.1&&(decide (q.1.length<=30)&&eQ (rec false e) g q.1)
 |.B k A g=>bG (Z9 d) λq=>Kd rec e k A g q.1 q.2.1
 |.u n p u k m j=>bG (J0 d) λq=>B3 T rec e n p u k m j q.1 q.2.1 q.2.2.1 q.2.2.2.1 q.2.2.2.2.1
 |.r o g=>bG (oj d) (λq=>(e.b q.1&&(T.e.contains q.1&&dW q.2.2.1))&&((decide (KB o=Y q.1)&&eQ (rec false e) g q.2.2.1)||(decide (q.1=("isinstance"))&&Kb T rec e o g q.2.2.1)))||
   bG (J1 d) λq=>Option.ask (kt o) λt=>(match g with
    |x::r=>(decide (q.2.1=j3 t.2.1)&&(mQ q.1&&(decide (q.2.2.2.1.length<30)&&decide (q.2.2.1.endLine=q.2.2.2.2.line))))&&(dW q.2.2.2.1&&(rec false e x q.1&&eQ (rec false e) r q.2.2.2.1))
    |[]=>false)
 |.z x=>rec false e x d
 |.I=>true
noncomputable def J9(T:Tb)(rec:hJ)(e:SE)(x:X)(c:Expr):Bool:=(z6 c&&rec false e x c)||match x with
 |.G x=>bG (xJ c) λq=>decide (q.1=.Not)&&rec true e x q.2.1
 |.h o a b=>bG (BU c) λq=>decide (ux q.2.1=o)&&(!yo q.2.1 q.2.2.1&&(rec false e a q.1&&rec false e b q.2.2.1))
 |.t d=>bG (xM c) λq=>decide (q.1=.And)&&eQ (rec true e) d q.2.1
 |.A d=>bG (xM c) λq=>decide (q.1=.Or)&&eQ (rec true e) d q.2.1
 |_=>false
noncomputable def uB(T:Tb):Nat->hJ
 |0=>λ_ _ _ _=>false
 |n+1=>λt e x a=>if t then J9 T (uB T n) e x a else J8 T (uB T n) e x a
structure jU(M:Wd)(F:cF)(n:Nat)(L:hJ):Prop where
 v:∀{e:SE}{x:X}{ex:Expr},L false e x ex=true->∀{W:Wd}{I:Cx}{K:ba}(E:VK)(m:ba),eR M n e W I K->bD W I E m K (den F E m K x) (eval ex I.env)
 t:∀{e:SE}{x:X}{ex:Expr},L true e x ex=true->∀{W:Wd}{I:Cx}{K:ba}(E:VK)(m:ba),eR M n e W I K->ig W I E m K (den F E m K x) (fA ex I.env<|eval ex I.env)
section
variable {T:Tb}{M:Wd}{v:Nat->Addr}{F:cF}{n:Nat}{L:hJ}{e:SE}{W:Wd}{I:Cx}{K:ba}
def eR.g(f:eR M n e W I K)x:I.env.kindOf x=e.a.lookup x:=by unfold Env.kindOf;exact U f.q V
def eR.d(f:eR M n e W I K)(h:e.b x=true):I.env.kindOf x=Y .globalImplicit/\(x==("__debug__"))=false:=by simp only[SE.b,pU,lu,decide_eq_true_eq,vV]at h;exact⟨(f.g x).trans h.1,h.2⟩
def eR.k(f:eR M n e W I K)(h:e.d i x=true):gU I i x:=by simp only[SE.d,lu,NH,decide_eq_true_eq]at h;refine⟨by refine U f.l<|h.1,?_⟩;exact U (f.g _)<|h.2
def aaS:gX ("range")=Y (.type "range"):=by kernel_rfl
def Tq:("range":Str)≠"__name__":=by decide+kernel
def aaT:gX ("enumerate")=Y (.type "enumerate"):=by kernel_rfl
def Tr:("enumerate":Str)≠"__name__":=by decide+kernel
def lT(S:jU M F n L)(f:eR M n e W I K)(h:eQ (L false e) xs es=true):c6 (λd g=>bD W I E m K d<|eval g I.env) (xs.map<|den F E m K) es:=
 c6.f (r6 h λa b c=>S.v c E m f)
def EB(S:jU M F n L)(f:eR M n e W I K)(h:eQ (L true e) xs es=true):c6 (λd g=>ig W I E m K d<|fA g I.env<|eval g I.env) (xs.map<|den F E m K) es:=
 c6.f (r6 h λa b c=>S.t c E m f)
def J'(S:jU M F n L)(f:eR M n e W I K)(h:B0 L e x o=true):bD W I E m K (den F E m K x)<|ym o I.env:=by
 induction o using Option.casesOn with
 |some y=>exact Fb (lo:=Y y) (d:=Y _) (λe q=>by(have q:=bz q;subst q);exact aO _ V<|S.v h E m f) λh=>by cases h
 |none=>
  refine aF (bE h) λq _=>?_;exact U q.2<|Fb (lo:=O) (d:=O) nofun λ_=>V
def QZ x a e:cond (A6 e) True<|so e a x=pure x:=by induction e using PySem.Expr.casesOn<;>first|exact kW|exact mz<|pure x
def QY(h:A6 it=false)x e:so it e x=pure x:=lH (QZ x e it) h
def A0(h:uA T L e k args it=true)x:so it I.env x=pure x:=by
 induction k using bc.gV.casesOn with
 |a=>exact aF (bE h) λ_ h=>QY (ko (cu h).1) x _
 |b=>refine aF (bE h) λq _=>U q.2 ?_;rfl
 |c=>refine aF (bE h) λq _=>U q.2 ?_;rfl
def B2(o:M.y)(u:jm T M v)(S:jU M F n L)(f:eR M n e W I K)(h:uA T L e k args i=true)E m H s
  (R:List AV->List AV->Hp->Prop) Q (d:eL (args.map<|den F E m K) (λz H=>match dX k H z with|some w=>R z w H|aY=>False) H) (p:St W I m K H s)
  (t:∀i z w A B b P,Nx W H s A B->dX k A z=Y w->R z w A->iC W k z w i P A B b->Q i b):
  bw (bM W.p W.w) I.A (eval i I.env) (λx c=>bw (bM W.p W.w) I.A (jZ x) Q (eG W E H s) c) (eG W E H s) s:=by
 induction k using bc.gV.casesOn with
 |a=>
  refine aF (bE h) λx h=>?_;have d:=x.2▸d;exact PD (S.v (cu h).2 E m f) d p t
 |b=>
  refine aF (bE h) λq h=>?_;refine jO (uJ h) λg a r j l=>?_;refine U q.2 ?_;exact PC (o.p f.o) f.j.a f.j.d (f.d g).1 (f.d g).2 ((u.q f.o).r _<|vN.mp r) ((bV a)▸aaS) ((bV a)▸Tq) (lT S f l) j d p t
 |c=>
  refine aF (bE h) λq h=>?_;refine aF (bE h) λy h=>?_;refine aF (bE h) λx h=>?_;have d:=x.2▸d;refine U q.2<|U y.2 ?_;refine jO (uJ h) λg a r j l=>?_;exact PE (o.p f.o) f.j.a f.j.d (f.d g).1 (f.d g).2 ((u.q f.o).r _<|vN.mp r) ((bV a)▸aaT) ((bV a)▸Tr) (S.v l E m f) j d p t
def U7(h:names.lookup x=Y .local):(tG adH names).lookup x=Y .local:=by
 induction names with
 |nil=>simp at h
 |cons p r i=>
  obtain⟨n,k⟩:=p;unfold tG;simp only[sM];rw[jw]at h;by_cases q:x=n
  ·subst q;simp at h;subst h;simp
  ·have h:=beq_eq_false_iff_ne.mpr q▸h;split;·refine U jw<|U (beq_eq_false_iff_ne.mpr q) ?_;exact i h
   ·refine U jw<|U (beq_eq_false_iff_ne.mpr q) ?_;exact i h
theorem Al{R:Nat×Str->Prop}(b:∀i n,f i n=true->R (i,n)):∀{j}{k},B1 f j k=true->∃l,j=l.map (·.1)/\c6 (λp e=>R p/\∃q,e=.Name p.2 q) l k
 |[],[],_=>aO [] V .d
 |i::r,t::k,h=>by refine bp (cu h) λa c=>?_;refine aH (Al b (j:=r) (k:=k) c) λl d g=>?_;refine aF (bE a) λq a=>?_;exact aO ((i,q.1.1)::l) (by refine U d ?_;rfl)<|.cons (UL (b _ _ a) _ q.2) g
 |[],_::_,h=>aV h
 |_::_,[],h=>aV h
def Kf{S}(a:∀i n,g i n=true->S i n)(h:BZ g dS c4 t=true):CA S dS c4 t:=by
 induction c4 using Bool.casesOn with
 |true=>exact aF (bE h) λq h=>aH (Al a h) λl e b=>.inr<|Ao _ _ _ l q.2 V e b
 |false=>exact aF (bE h) λq h=>aF (bE h) λi h=>.inl<|dG _ _ _ q.2 V i.2<|a _ _ h
structure ac4(T:Tb)(L:hJ)(e:SE)(M:Wd)(F:cF)(n:Nat)(W:Wd)(I:Cx)(eY:X)(dS:List Nat)(c4:Bool)(k:gV)(args kE:List X)(BI target iter:Expr)(ifs:List Expr)(scope:oN):Prop where
 i:e.g=false
 j:scope.kind=.function
 l:(scope.names.map (·.1)).Nodup
 o:∀x∈scope.names,x.2≠.cell
 b:∀x∈scope.names,x.2=.free->I.env.kindOf x.1=Y .cell
 a:∀x∈scope.names,x.2=.local->scope.names.lookup x.1=Y .local
 q:(jB target).Nodup
 c:∀C cl,uS (e0 I scope cl C<|jB target) dS c4 target
 g:∀m P C cl K,(e0 I scope cl C<|jB target).f->bD (W.q P W.v) (e0 I scope cl C<|jB target) (λ_ _=>False) m K (den F (λ_ _=>False) m K eY) (eval BI<|iF scope cl C I.env)
 f:∀m P C cl K,(e0 I scope cl C<|jB target).f->c6 (λd e=>ig (W.q P W.v) (e0 I scope cl C<|jB target) (λ_ _=>False) m K d<|fA e (iF scope cl C I.env)<|eval e<|iF scope cl C I.env) (kE.map<|den F (λ_ _=>False) m K) ifs
 p:k=.c->lM target=true
 h:uA T L e k args iter=true
def FJ(f:eR M n e W I K)s:(sj s I.env).names=tG e.a s.names:=by unfold sj tG;dsimp only;congr 1;funext p;obtain⟨a,k⟩:=p;refine U (f.g _)<|U f.j.a.a ?_;simp
def Ke(S:jU M F n L)(f:eR M n e W I K)
  (h:B3 T L e eY dS c4 k args kE BI target iter ifs scope=true):ac4 T L e M F n W I eY dS c4 k args kE BI target iter ifs scope:=by
 refine bp (cu h) λp D=>?_;refine fG (jl p) λB s w y=>?_;refine fG (jl D) λA u G l=>?_;refine dN (gD s) λr E g=>?_;have g:=λx t=>gD<|my.mp g x t;have j:∀P C c K,(e0 I scope c C<|jB target).f->eR M n (e.h scope<|jB target) (W.q P W.v) _ K:=λP C c K d=>
  ⟨f.o.f _ _,⟨d,f.j.c⟩,f.l,V,λ_=>V,FJ f scope,λh=>aV h⟩
 refine⟨ko B,bV r,bV E,λx t=>bV (g x t).1,λx t q=>?_,λx t q=>?_,bV w,λC c=>?_,λm P C c K d=>S.v A _ m<|j P C c K d,λm P C c K d=>c6.f<|r6 u λa b o=>S.t o _ m<|j P C c K d,λq=>?_,G⟩;·exact U (f.g _)<|bV<|(jc (g x t).2.1).resolve_left λz=>bV z q
 ·exact bV<|(jc (g x t).2.2).resolve_left λz=>bV z q
 ·refine Kf (λi n q=>⟨bV (cu q).1,?_⟩) y;refine(?_:((sj scope I.env).names).lookup n=Y .local);refine U (FJ f _) ?_;exact U7<|bV (cu q).2
 ·exact(jc l).resolve_left λz=>bV z q
end
def Qd{W}{cx}{E}{m X:ba}{c:ei}(j:bD W cx E m X c t):bD W cx E m X (λQ=>c λv=>kA v Q) t:=λQ H s d g=>by refine cS (j _ H s d g) (λv l y=>?_) λ_ _ y=>y;refine cj y λb k n r q=>?_;refine cj (JA n.i r q) λh a e f i=>?_;exact bQ h a (n.p e) f i
def Ce:gX ("isinstance")=Y (.builtin "isinstance"):=by kernel_rfl
def Ah:("isinstance":Str)≠"__name__":=by decide+kernel
def Ku:gX ("bytes")=Y (.type "bytes"):=by kernel_rfl
def Gs:("bytes":Str)≠"__name__":=by decide+kernel
def Kt:gX ("str")=Y (.type "str"):=by kernel_rfl
def Gr:("str":Str)≠"__name__":=by decide+kernel
def aaR:gX ("repr")=Y (.builtin "repr"):=by kernel_rfl
def Tp:("repr":Str)≠"__name__":=by decide+kernel
section
variable {T:Tb}{cK:Wd}{ad:Nat->Addr}{F:cF}{n:Nat}{rec:hJ}{e:SE}{W:Wd}{cx:Cx}{X:ba}
def Iv{α:Type}{l:List α}(h:l.isEmpty=true):l=[]:=by induction l using List.casesOn<;>first|rfl|exact aV h
def Gz{α:Type}{l:List α}(h:l.isEmpty=false):l≠[]:=λq=>by rw[q]at h;exact aV h
def uz(t:jm T W ad)(f:eR cK n e W cx X)(h:rX T e x s=true):x=s/\cx.env.kindOf x=Y .globalImplicit/\(x==("__debug__"))=false/\nsIn W.K d9 x=Y O:=by refine dN (gD h) λa c b=>?_;exact e8 (bV c) (f.d a).1 (f.d a).2<|t.r _<|vN.mp b
def aat(o:W.y)(j:jm T W ad)(f:eR cK n e W cx X){v}{c}(h:Ka T e v c=true){E}{m}:bD W cx E m X (λQ H=>Q v H)<|eval c cx.env:=by
 have a:∀{v},bG (rV c) (λq=>xN v q.1)=true->bD W cx E m X (λQ H=>Q v H) (eval c cx.env):=λh=>by refine aF (bE h) λq h=>?_;refine U q.2<|Qj h
 induction v using bc.AV.casesOn with
 |d b=>
  refine bq (jc h) (λh=>?_) λh=>?_;·exact a h
  ·refine aF (bE h) λq h=>dN (gD h) λd k g=>?_;refine aF (j.s _ _<|bV k) λt i=>?_;refine U q.2<|Qc o f.j.a (f.d d).1 (f.d d).2 i<|bV g
 |l l=>
  refine aF (bE h) λq h=>?_;refine aF (bE h) λz h=>?_;refine U q.2<|U z.2<|U (Iv h) ?_;exact Fa .d V<|by decide
 |_=>exact a h
def aau(D:W.y)(r:jm T W ad)(S:jU cK F n rec)(f:eR cK n e W cx X)(h:Kb T rec e op xs es=true)
  (A:cx.env.kindOf nm=Y .globalImplicit) (w:(nm==("__debug__"))=false) (B:nsIn W.K d9 nm=Y O) (c:dW es=true) (a:nm=("isinstance")):bD W cx E m X (den F E m X<|.r op xs) (eval (.Call (.Name nm p) es [] pos) cx.env):=by
 refine aF (bE h) λx h=>?_;refine aF (bE h) λy h=>?_;refine bp (cu h) λC h=>?_;have g:(∀v,jF op=λ_ _=>True)->bD W cx E m X (λQ=>den F E m X x.1 λv=>gC op [v] Q) (eval (.Call (.Name nm p) es [] pos) cx.env)->bD W cx E m X (den F E m X<|.r op xs) (eval (.Call (.Name nm p) es [] pos) cx.env):=λK z Q H s d L=>z Q H s (by
  have d:=x.2▸d;have M:(λ(o:AV)H=>jF op H o/\gC op [o] Q H)=λo=>gC op [o] Q:=by funext o H;refine U (K o)<|true_and _
  have d:den F E m X x.1 (λo H=>jF op H o/\gC op [o] Q H) H:=d;rw[M]at d;exact d) L
 rw[y.2]at c |-;induction op using bc.Bi.casesOn with
 |w=>
  refine aF (bE h) λq h=>?_;refine fG (uz r f h) λb j i k=>?_;refine y.2▸g (λ_=>V) ?_;refine U y.2 ?_;rw[q.2]at c |-;exact Fc D f.j.a (.inl ⟨V,V⟩) A w B (a▸Ce) (a▸Ah) j i k (b▸Ku) (b▸Gs) (S.v C E m f) c
 |v=>
  refine aF (bE h) λq h=>?_;refine fG (uz r f h) λb j i k=>?_;refine y.2▸g (λ_=>V) ?_;refine U y.2 ?_;rw[q.2]at c |-;exact Fc D f.j.a (.inr ⟨V,V⟩) A w B (a▸Ce) (a▸Ah) j i k (b▸Kt) (b▸Gr) (S.v C E m f) c
 |p=>
  refine aF (bE h) λl h=>?_;refine aF (bE h) λz h=>?_;refine aF (bE h) λt h=>?_;refine aF (bE h) λu h=>?_;refine bp (cu h) λP Z=>?_;refine fG (uz r f P) λb j i k=>?_;refine fG (uz r f Z) λG N R I=>?_;refine y.2▸g (λ_=>V) ?_;refine U y.2 ?_;rw[l.2,z.2,t.2,u.2]at c |-;exact Qb D f.j.a A w B (a▸Ce) (a▸Ah) j i k (b▸Ku) (b▸Gs) N R I (G▸Kt) (G▸Gr) (S.v C E m f) c
 |_=>exact aV h
def aav(S:jU cK F n rec)(f:eR cK n e W cx X)(h:Kd rec e k ks xs g gK=true):
  bD W cx E m X (uw k ks<|xs.map<|den F E m X) (eval (.Dict g gK pos) cx.env):=by
 refine bq (jc h) (λh=>?_) λh=>bq (jc h) (λh=>?_) λh=>?_
 ·refine aF (bE h) λv h=>aF (bE h) λa h=>?_;refine aF (bE h) λb h=>?_;refine bp (cu h) λl o=>?_;refine U (Iv o)<|U v.2<|U a.2<|U b.2 ?_;exact Qh<|bV l
 ·refine aF (bE h) λv h=>aH (Cr h) λi A h=>?_;refine aF (bE h) λa h=>?_;refine aF (bE h) λj h=>?_;refine aF (bE h) λy h=>?_;refine aF (bE h) λx h=>?_;refine dN (gD h) λl o q=>?_;refine U v.2<|U (AV.o A)<|U (bV l)<|U a.2<|U j.2<|U y.2<|U x.2<|U (bV o) ?_;exact Qg<|S.v q E m f
 ·refine aF (bE h) λv h=>aH (Cr h) λs B h=>?_;refine aH (Cr h) λt z h=>?_;refine aF (bE h) λa h=>?_;refine aF (bE h) λc h=>?_;refine aF (bE h) λd h=>?_;refine aF (bE h) λy h=>?_;refine aF (bE h) λx h=>?_;refine Jj (KT h) λl o q p u r=>?_;have C:=S.v u E m f;have w:=S.v r E m f;have p:=bV p;refine U v.2<|U (AV.u B)<|U (AV.u z)<|U (bV l)<|U y.2<|U x.2 ?_;clear h l u r;obtain⟨c,hc⟩:=c;obtain⟨d,hd⟩:=d;refine U a.2<|U hc<|U hd ?_;rw[bV o,bV q]at p |-;exact Qf p C w
def aap(D:cK.y)(B:jm T cK ad)(P:lV cK ad F n)(S:jU cK F n rec)(h:J8 T rec e x ex=true)E m(f:eR cK n e W cx X):bD W cx E m X (den F E m X x)<|eval ex cx.env:=by
 have A:=D.p f.o;have I:=B.q f.o;have c:=f.j.d;induction x using bc.X.casesOn with
 |e v=>exact aat A I f h
 |d i=>
  refine aF (bE h) λq h=>?_;refine bp (cu h) λh p=>?_;refine bp (cu h) λj o=>?_;refine U q.2 ?_;refine E9 f.j.a (by refine U f.l<|bV j) ?_<|ko p;refine U (f.g _)<|U f.p ?_;exact(jc o).imp (λz=>⟨ko (cu z).1,bV (cu z).2⟩) bV
 |s i=>
  refine aF (bE h) λq h=>?_;refine bp (cu h) λh u=>?_;refine bp (cu h) λh p=>?_;refine bp (cu h) λj o=>?_;refine U q.2 ?_;exact Qi f.j.a (by refine U (f.t o)<|bV j) ⟨by refine U f.p<|o,by refine U (f.g _)<|bV p⟩<|ko u
 |y x=>
  refine aF (bE h) λq h=>?_;refine bp (cu h) λj o=>?_;refine U q.2<|U (bV j) ?_;exact P6<|S.v o E m f
 |G x=>
  refine aF (bE h) λq h=>?_;refine bp (cu h) λj o=>?_;refine U q.2<|U (bV j) ?_;exact P4<|S.v o E m f
 |j op mu a b=>
  refine aF (bE h) λq h=>?_;refine dN (gD h) λj o p=>?_;refine U q.2 ?_;exact Qp c (S.v o E m f) (S.v p E m f)<|bV j
 |H mu a b=>
  refine aF (bE h) λq h=>?_;refine aF (bE h) λl h=>?_;refine aF (bE h) λy h=>?_;refine fG (jl h) λj o p u=>?_;refine U q.2<|U l.2<|U y.2<|U (bV j) ?_;exact PZ c (S.v p E m f) (S.v u E m f) o
 |h op a b=>
  refine aF (bE h) λq h=>?_;refine fG (jl h) λj o p u=>?_;refine U q.2<|aP (bV j) ?_;exact Ql A c (S.v p E m f) (S.v u E m f)<|ko o
 |F a b=>
  refine aF (bE h) λq h=>?_;refine aF (bE h) λl h=>?_;refine aF (bE h) λr h=>?_;refine aF (bE h) λy h=>?_;refine aF (bE h) λz h=>?_;refine jO (uJ h) λj o p u G=>?_;refine fG (uz I f o) λk1 k2 k3 k4=>?_;refine U q.2<|U l.2<|U r.2<|U y.2<|U z.2<|U (bV j)<|U (bV p) ?_;exact Qe A f.j.a c k2 k3 k4 (k1▸aaR) (k1▸Tp) (S.v (cu G).1 E m f) (S.v (cu G).2 E m f) (cu u).1 (cu u).2
 |t xs=>
  refine aF (bE h) λq h=>?_;refine dN (gD h) λj o p=>?_;refine U q.2<|U (bV j) ?_;exact U (show den F E m X (.t xs)=ie true (xs.map<|den F E m X)from rT true xs)<|Fd (op:=.And) V (lT S f p)<|Gz<|ko o
 |A xs=>
  refine aF (bE h) λq h=>?_;refine dN (gD h) λj o p=>?_;refine U q.2<|U (bV j) ?_;exact U (show den F E m X (.A xs)=ie false (xs.map<|den F E m X)from rT false xs)<|Fd (op:=.Or) V (lT S f p)<|Gz<|ko o
 |D a b d=>
  refine aF (bE h) λq h=>?_;refine dN (gD h) λj o p=>?_;refine U q.2 ?_;exact P9 (S.t j E m f) (S.v o E m f)<|S.v p E m f
 |p g xs=>
  refine aF (bE h) λq h=>?_;refine fG (jl h) λj o p u=>?_;refine bp (I.v _ _<|bV o) λL a0=>?_;refine U q.2 ?_;exact U ZE<|Qm A f.o P f.j (f.d j).1 (f.d j).2 L a0 (lT S f u) p
 |E C mu xs=>
  refine aF (bE h) λq h=>?_;refine fG (jl h) λj o p u=>?_;refine jO (I.w _ _<|bV o) λL a0 a4 a1 a3=>?_;refine U q.2 ?_;exact U ZA<|P5 A f.o P f.j (f.d j).1 (f.d j).2 L a0 a4 a1 a3 (lT S f u) p
 |o C g x xs=>
  refine aF (bE h) λq h=>?_;refine bp (cu h) λh k=>?_;refine fG (jl h) λj o p u=>?_;refine dN (gD k) λG N h7=>?_;refine jO (I.u _ _ _<|bV j) λL a0 a4 a1 a3=>?_;refine U q.2 ?_;exact U ZB<|P7 A f.o P f.j L a0 a4 a1 a3 o (bV p) (bV u) (S.v N E m f) (lT S f h7) G
 |g C i x=>
  refine aF (bE h) λq h=>?_;refine dN (gD h) λj o p=>?_;refine bp (I.p _ _ _<|bV j) λL a0=>?_;refine U q.2 ?_;exact Qr A L a0 o<|S.v p E m f
 |w a lo hi=>
  refine aF (bE h) λq h=>?_;refine aF (bE h) λs h=>?_;refine dN (gD h) λj o p=>?_;refine U q.2<|U s.2 ?_;exact PX c (S.v j E m f) (J' S f o)<|J' S f p
 |K mu a=>
  refine aF (bE h) λq h=>?_;refine aF (bE h) λs h=>?_;refine U q.2<|U s.2 ?_;exact PY c<|S.v h E m f
 |l a i=>
  refine aF (bE h) λq h=>?_;refine bp (cu h) λj o=>?_;refine U q.2 ?_;exact PV A c (S.v j E m f)<|S.v o E m f
 |m mu xs=>
  refine aF (bE h) λq h=>?_;refine bp (cu h) λj o=>?_;refine U q.2 ?_;exact U ZC<|P8 (lT S f o) j
 |q xs=>
  refine aF (bE h) λq h=>?_;refine dN (gD h) λj o p=>?_;refine U q.2 ?_;exact U Zz<|Fa (lT S f p) j<|bV o
 |B k ks xs=>
  refine aF (bE h) λq h=>?_;refine U q.2 ?_;exact U ZD<|aav S f h
 |u eY dS c4 k args kE=>
  refine aF (bE h) λq h=>?_;have w:=Ke S f h;have Z:=f.s w.i;subst Z;refine U q.2 ?_;exact U JP<|Qk f.j.a c w.j w.l w.o w.b w.a w.q w.c (w.g m) (w.f m) w.p (A0 w.h) λH s R Q d st hQ=>B2 D B S f w.h E m H s R Q d st hQ
 |r op xs=>
  refine bq (jc h) (λh=>?_) λh=>?_
  ·refine aF (bE h) λq h=>bp (cu h) λha a2=>?_;refine dN (gD ha) λj o p=>?_;have M:=I.r _<|vN.mp o;refine U q.2 ?_;refine bq (jc a2) (λh=>?_) λh=>?_
   ·refine bp (cu h) λu G=>fG (aa3<|bV u) λb1 b2 b3 b4=>?_;exact U (ZF b4 xs)<|Qq A f.j.a c (f.d j).1 (f.d j).2 M b1 b2 b3 (lT S f (E:=E) (m:=m) G) p
   ·refine bp (cu h) λu G=>aau A I S f G (f.d j).1 (f.d j).2 M p<|bV u
  ·refine aF (bE h) λq h=>?_;cases K:kt op with
   |none=>rw[K]at h;exact aV h
   |some t=>
    rw[K]at h;induction xs using List.casesOn with
    |nil=>exact aV h
    |cons x r=>
     refine bp (cu h) λha a2=>?_;refine fG (jl ha) λj o p u=>?_;refine dN (gD a2) λG N h7=>?_;refine U q.2<|U (bV j) ?_;exact U JQ<|Qo A c K o (bV p) (bV u) (S.v N E m f) (lT S f h7) G
 |z x=>exact Qd<|S.v h E m f
 |I=>exact λQ H s d st=>d.elim
def aaq(o:cK.y)(S:jU cK F n rec)(h:J9 T rec e x ex=true)E m(f:eR cK n e W cx X):ig W cx E m X (den F E m X x)<|fA ex cx.env<|eval ex cx.env:=by
 refine bq (jc h) (λh=>?_) λh=>?_;·exact O8 (S.v (cu h).2 E m f)<|Ss (cu h).1 _
 ·induction x using bc.X.casesOn with
  |G x=>
   refine aF (bE h) λq h=>?_;refine bp (cu h) λc d=>?_;refine U q.2<|U (bV c) ?_;exact O9<|S.t d E m f
  |h op a b=>
   refine aF (bE h) λq h=>?_;refine fG (jl h) λc d i g=>?_;refine U q.2<|aP (bV c) ?_;exact O' (o.p f.o) f.j.d (S.v i E m f) (S.v g E m f)<|ko d
  |t xs=>
   refine aF (bE h) λq h=>?_;refine bp (cu h) λc d=>?_;refine U q.2<|U (bV c) ?_;exact U (show den F E m X (.t xs)=ie true _ from rT true xs)<|ED (op:=.And) V<|EB S f d
  |A xs=>
   refine aF (bE h) λq h=>?_;refine bp (cu h) λc d=>?_;refine U q.2<|U (bV c) ?_;exact U (show den F E m X (.A xs)=ie false (xs.map _)from rT false xs)<|ED (op:=.Or) V<|EB S f d
  |_=>exact aV h
theorem B4(o:cK.y)(t:jm T cK ad)(s:lV cK ad F n):∀k,jU cK F n (uB T k)
 |0=>⟨λ{e x a}h=>aV h,λ{e x a}h=>aV h⟩
 |k+1=>⟨λ{e x a}h{W cx X}E m f=>aap o t s (B4 o t s k) h E m f,λ{e x a}h{W cx X}E m f=>aaq (T:=T) o (B4 o t s k) h E m f⟩
end
end bc
end
section
open PySem PySem.W PyProof.Rows PySem.SeqAt PySem.MeetsSeq PySem.Calls
namespace bc
noncomputable def pM(e:Expr):Bool:=Nat.blt (bR e).t 14
def Tj t l a e:cond (pM e) (nq e t l a=pure false) True:=by induction e using PySem.Expr.casesOn<;>first|exact kW|exact mz<|pure false
def ro(h:pM v=true)t l e:nq v t l e=pure false:=Aa (Tj t l e v) h
noncomputable def tv(k:Str->Option vq)(a:List Expr)(v:Expr):Option<|Option<|List Str:=
 cond (gG (bR v).t 12) (
  let c:=(bR v).l
  if !(a.length==2||a.length==3)||c.length !=a.length then Y O
  else if c.any λ|.Starred ..=>true|_=>false then Y O
  else
   let b:=(a.head?.map (·.pos.line)).getD 0
   let n:=a.filterMap λ
    |.Name i p=>if k i==Y .local&&p.line==b then Y i else O
    |_=>O
   if n.length !=a.length||n.eraseDups.length !=n.length then Y O
   else if c.all (foldedForSure 8)then Y O
   else if c.all (constantsAlone 8)then O
   else Y (Y n)) (Y O)
section
variable {T:Tb}{a:Wd}{b:Nat->Addr}{F:cF}{n:Nat}{rec:hJ}{e:SE}{W:Wd}{c:Cx}{m:ba}
def eR.r(f:eR a n e W c m):c.env.blockKind=.function:=by unfold Env.blockKind;refine U f.j.a.a ?_;rfl
def Wc{a b c d e:Bool}{n}{g:Sem<|Option<|List Str}{r}(f:z=false)
  (h:(if a then Y O else if b then Y O else if c then Y O else if d then Y O else if e then O else Y<|Y n)=Y r):
  (if(a||z)then pure O else if b then pure O else if c then pure O else if d then pure O else if e then g else pure<|Y n)=(pure r):=by
 subst f;induction a using Bool.casesOn with
 |true=>exact congrArg pure<|bz h
 |false=>induction b using Bool.casesOn with
  |true=>exact congrArg pure<|bz h
  |false=>induction c using Bool.casesOn with
   |true=>exact congrArg pure<|bz h
   |false=>induction d using Bool.casesOn with
    |true=>exact congrArg pure<|bz h
    |false=>induction e using Bool.casesOn with
     |true=>exact aS h
     |false=>exact congrArg pure<|bz h
def Po a k p b e:cond (gG (bR e).t 12) True<|nr [.Tuple a k p] e b=pure O:=by induction e using PySem.Expr.casesOn<;>first|exact kW|exact mz<|pure O
def EI(f:eR a n e W c m)(h:tv (λx=>e.a.lookup x) ts value=Y r):nr [.Tuple ts k p] value c.env=pure r:=by
 rw[(funext λx=>(f.g x).symm)]at h;cases e:gG (bR value).t 12 with
 |false=>unfold tv at h;rw[e]at h;exact bz h▸lH (Po ts k p c.env value) e
 |true=>
  refine U (vw (vn e) (by decide) V) ?_;unfold tv at h;rw[e]at h;exact Wc (U f.r V) h
end
end bc
end
section
set_option backward.match.sparseCases false
open PySem PySem.W PyProof.Rows PySem.SeqAt PySem.MeetsSeq PySem.Calls
namespace bc
structure r9(W:Wd)(gz:Str):Prop where
 v:∃fI fn qa,lZ W.K (W.T 7).a fI/\∀W',W'.u W->CB W' fn fI qa
 y:qx W.K (W.T 7).a=true
 r:(W.T 7).b=[("told":Str)]
 s:nsIn W.K d9 gz=Y (Y<|.ref (W.T 7).a)
 w:js W.K (.ref (W.T 7).a)=true
theorem r9.u(x:r9 cK gz)(a:W.u cK):r9 W gz:=by obtain⟨⟨o,fn,h,p,q⟩,b,c,d,e⟩:=x;have t:∀n:Wd,n.u W->n.u cK:=λn l=>⟨l.T.trans a.T,l.a.trans a.a,l.w.trans a.w,l.K.trans a.K,l.b.trans a.b,l.g.trans a.g⟩;obtain⟨f,i,j,g,m,k⟩:=a;exact⟨(je o fn h (by refine U g<|U f ?_;exact p) λn l=>q n<|t n l),by refine U g<|U f ?_;exact b,by refine U f<|c,by refine U g<|U f ?_;exact d,by refine U g<|U f ?_;exact e⟩
noncomputable def zD(e:SE)(s:oN)(v:Pos)(n:Str)(p:Pos):Bool:=decide (e.a.lookup n=Y .local)&&p.line==v.line&&!(s.names.any λ(m,k)=>m==n&&(k==.local||k==.cell))
structure K3 where
 t:Nat
 e:dZ
 b:List (List Stmt)
 h:List ExceptHandler
noncomputable def c8(s:Stmt):K3:=match s with
 |.Assign l v p=>⟨0,{dZ.d 0 p [v]with m:=l},[],[]⟩
 |.AugAssign x o y p=>⟨1,{dZ.d 0 p [x,y]with r:=o},[],[]⟩
 |.Expr x p=>⟨2,dZ.d 0 p [x],[],[]⟩
 |.Return x p=>⟨3,{dZ.d 0 p []with o:=[x]},[],[]⟩
 |.Break p=>⟨4,dZ.d 0 p [],[],[]⟩
 |.Pass p=>⟨5,dZ.d 0 p [],[],[]⟩
 |.If x a b p=>⟨6,dZ.d 0 p [x],[a,b],[]⟩
 |.While x a b p=>⟨7,dZ.d 0 p [x],[a,b],[]⟩
 |.For x y a b p=>⟨8,dZ.d 0 p [x,y],[a,b],[]⟩
 |.Raise x y p=>⟨9,{dZ.d 0 p []with o:=[x,y]},[],[]⟩
 |.Try a h b c p=>⟨10,dZ.d 0 p [],[a,b,c],h⟩
 |_=>⟨99,dZ.e,[],[]⟩
noncomputable def z7(v:K3)(t:Nat):Option Stmt:=match t with
 |0=>Y<|.Assign v.e.m (hd 0 v.e.l) v.e.p
 |1=>Y<|.AugAssign (hd 0 v.e.l) v.e.r (hd 1 v.e.l) v.e.p
 |2=>Y<|.Expr (hd 0 v.e.l) v.e.p
 |3=>Y<|.Return (hd 0 v.e.o) v.e.p
 |4=>Y<|.Break v.e.p
 |5=>Y<|.Pass v.e.p
 |6=>Y<|.If (hd 0 v.e.l) (hd 0 v.b) (hd 1 v.b) v.e.p
 |7=>Y<|.While (hd 0 v.e.l) (hd 0 v.b) (hd 1 v.b) v.e.p
 |8=>Y<|.For (hd 0 v.e.l) (hd 1 v.e.l) (hd 0 v.b) (hd 1 v.b) v.e.p
 |9=>Y<|.Raise (hd 0 v.e.o) (hd 1 v.e.o) v.e.p
 |10=>Y<|.Try (hd 0 v.b) v.h (hd 1 v.b) (hd 2 v.b) v.e.p
 |_=>O
def Od e:cond (gG (c8 e).t 99) True<|z7 (c8 e) (c8 e).t=Y e:=by induction e using PySem.Stmt.casesOn<;>first|exact kW|exact mz _
def D7(h:(c8 e).t=k)(a:gG k 99=false)(q:z7 (c8 e) k=Y x):e=x:=by subst h;exact bz<|(lH (Od e) a).symm.trans q
noncomputable def lE{β:Type}{f:β->Stmt}(e:Stmt)(k:Nat)(b:β)(a:gG k 99=false)(q:z7 (c8 e) k=Y (f b)):Option {p:β//e=f p}:=
 if h:(c8 e).t=k then Y ⟨b,D7 h a q⟩else O
noncomputable def zV(s:Stmt):Option {p:Expr×Expr×Pos//s=.Assign [p.1] p.2.1 p.2.2}:=
 (d1 (c8 s).e.m).bind λm=>lE s 0 (m.1,hd 0 (c8 s).e.l,(c8 s).e.p) V<|congrArg (λk=>Y<|C5 k _ (c8 s).e.p) m.2
noncomputable def RG(s:Stmt):Option {p:Expr×u5×Expr×Pos//s=.AugAssign p.1 p.2.1 p.2.2.1 p.2.2.2}:=lE s 1 (hd 0 (c8 s).e.l,(c8 s).e.r,hd 1 (c8 s).e.l,(c8 s).e.p) V V
noncomputable def RE(s:Stmt):Option {p:Expr×Pos//s=.Expr p.1 p.2}:=lE s 2 (hd 0 (c8 s).e.l,(c8 s).e.p) V V
noncomputable def Ry(s:Stmt):Option {p:Expr×Pos//s=.Return (Y p.1) p.2}:=
 (qd _).bind λx=>lE s 3 (x.1,(c8 s).e.p) V<|congrArg (λk=>Y<|Stmt.Return k (c8 s).e.p) x.2
noncomputable def RF(s:Stmt):Option {p:Pos//s=.Break p}:=lE s 4 (c8 s).e.p V V
noncomputable def RA(s:Stmt):Option {p:Pos//s=.Pass p}:=lE s 5 (c8 s).e.p V V
noncomputable def RC(s:Stmt):Option {p:Expr×List Stmt×List Stmt×Pos//s=.If p.1 p.2.1 p.2.2.1 p.2.2.2}:=lE s 6 (hd 0 (c8 s).e.l,hd 0 (c8 s).b,hd 1 (c8 s).b,(c8 s).e.p) V V
noncomputable def Rw(s:Stmt):Option {p:Expr×List Stmt×Pos//s=.While p.1 p.2.1 [] p.2.2}:=
 (d0 _).bind λz=>lE s 7 (hd 0 (c8 s).e.l,hd 0 (c8 s).b,(c8 s).e.p) V<|congrArg (λk=>Y<|Stmt.While _ _ k (c8 s).e.p) z.2
noncomputable def RD(s:Stmt):Option {p:Expr×Expr×List Stmt×Pos//s=.For p.1 p.2.1 p.2.2.1 [] p.2.2.2}:=
 (d0 _).bind λz=>lE s 8 (hd 0 (c8 s).e.l,hd 1 (c8 s).e.l,hd 0 (c8 s).b,(c8 s).e.p) V<|congrArg (λk=>Y<|Stmt.For _ _ _ k (c8 s).e.p) z.2
noncomputable def Rz(s:Stmt):Option {p:Str×Pos×Expr×Pos×Pos//s=.Raise (Y<|.Call (.Name p.1 p.2.1) [p.2.2.1] [] p.2.2.2.1) O p.2.2.2.2}:=
 (qd _).bind λx=>(xK _).bind λz=>(oj x.1).bind λc=>(d1 c.1.2.2.1).bind λy=>
  lE s 9 (c.1.1,c.1.2.1,y.1,c.1.2.2.2,(c8 s).e.p) V (mX (λa b=>Y<|Stmt.Raise a b (c8 s).e.p) (x.2.trans<|congrArg Y<|c.2.trans<|congrArg (λk=>yZ _ k [] c.1.2.2.2) y.2) z.2)
structure acZ where
 a:List Stmt
 b:Str
 c:Str
 y:Str
 d:Str
 ly:Str
 (p0 p1 p2 p3 p4 p5:Pos)
noncomputable def Z7(h:ExceptHandler):Option {p:Expr×Str×List Stmt×Pos//h=.ExceptHandler (Y p.1) (Y p.2.1) p.2.2.1 p.2.2.2}:=match h with
 |.ExceptHandler (some t) (some n) b p=>Y ⟨(t,n,b,p),V⟩
 |_=>O
noncomputable def Rx(s:Stmt):Option {p:acZ//∃q,s=.Try p.a [.ExceptHandler (Y<|.Name p.b p.p0) (Y p.c) [.Assign [.Name p.y p.p1] (.Attribute (.Name p.d p.p2) p.ly p.p3) p.p4] p.p5] [] [] q}:=
 if h:(c8 s).t=10 then
  (d0 _).bind λi=>(d0 _).bind λf=>(d1 (c8 s).h).bind λg=>(Z7 g.1).bind λd=>(hF d.1.1).bind λc=>(d1 d.1.2.2.1).bind λb=>(zV b.1).bind λa=>
   (hF a.1.1).bind λy=>(rW a.1.2.1).bind λr=>(hF r.1.1).map λv=>
    ⟨⟨hd 0 (c8 s).b,c.1.1,d.1.2.1,y.1.1,v.1.1,r.1.2.1,c.1.2,y.1.2,v.1.2,r.1.2.2,a.1.2.2,d.1.2.2.2⟩,(c8 s).e.p,(D7 h V V).trans
     ((mX (λa b=>Stmt.Try _ (c8 s).h a b (c8 s).e.p) i.2 f.2).trans (congrArg (λa=>Stmt.Try _ a [] [] (c8 s).e.p) (g.2.trans (congrArg (λa=>[a]) (d.2.trans
      (mX (λa b=>adr (Y a) _ b d.1.2.2.2) c.2 (b.2.trans (congrArg (λa=>[a]) (a.2.trans (mX (λx z=>C5 [x] z a.1.2.2) y.2
       (r.2.trans (congrArg (λx=>Ni x r.1.2.1 r.1.2.2) v.2))))))))))))⟩
 else O
noncomputable def acT(h:List S):Option {p:Nat×Nat//h=[.d (.b p.1)<|.g 7 0<|.d p.2]}:=match h with
 |[.d (.b j) (.g 7 0 (.d i))]=>Y ⟨(j,i),V⟩
 |_=>O
noncomputable def Kg(T:Tb)(rec:hJ)(e:SE)(t:bc.T)(x:X)(b value:Expr):Bool:=match t with
 |.b i=>bG (hF b) λq=>e.d i q.1&&((pM value&&rec false e x value)||bG (J0 value) λv=>zD e v.2.2.2.2.1 v.2.2.2.2.2 q.1 q.2&&match x with
   |.u eY dS u k args c=>B3 T rec e eY dS u k args c v.1 v.2.1 v.2.2.1 v.2.2.2.1 v.2.2.2.2.1
   |_=>false)
 |.d is=>bG (uu b) λq=>(pM value&&rec false e x value)&&match tv (λx=>e.a.lookup x) q.1 value with
   |some none=>B1 e.d is q.1
   |some (some names)=>decide (is.Nodup)&&(decide (names.length=is.length)&&(is.zip names).all λq=>e.d q.1 q.2)
   |none=>false
 |.c C i o=>bG (rW b) λq=>(pM value&&rec false e x value)&&(decide (T.d C i=Y q.2.1)&&rec false e o q.1)
 |.e a i=>bG (uv b) λq=>(pM value&&rec false e x value)&&(rec false e a q.1&&rec false e i q.2.1)
noncomputable def aaw(T:Tb)(rec:hJ)(e:SE)(t:bc.T)(b:Expr):Bool:=match t with
 |.b i=>bG (hF b) λq=>e.d i q.1
 |.c C i o=>bG (rW b) λq=>decide (T.d C i=Y q.2.1)&&rec false e o q.1
 |.e a i=>bG (uv b) λq=>!tW q.2.1&&(rec false e a q.1&&rec false e i q.2.1)
 |.d _=>false
noncomputable def oo(T:Tb)(gz:Str)(rec:hJ):Nat->SE->S->Stmt->Bool
 |0=>λ_ _ _=>false
 |n+1=>λe s d=>match s with
  |.d t x=>bG (zV d) λp=>Kg T rec e t x p.1 p.2.1
  |.m t o x=>bG (RG d) λp=>decide (lG p.2.1=Y o)&&((decide (o=.a)||decide (o=.b))&&(rec false e x p.2.2.1&&aaw T rec e t p.1))
  |.e x=>bG (RE d) λp=>pM p.1&&rec false e x p.1
  |.f x=>bG (Ry d) λp=>rec false e x p.1
  |.q=>bG (RF d) λ_=>true
  |.p=>bG (RA d) λ_=>true
  |.g c a b=>bG (RC d) λp=>rec true e c p.1&&(eQ (oo T gz rec n e) a p.2.1&&eQ (oo T gz rec n e) b p.2.2.1)
  |.i c b=>bG (Rw d) λp=>rec true e c p.1&&eQ (oo T gz rec n e) b p.2.1
  |.j g u k f b=>bG (RD d) λp=>BZ e.d g u p.1&&((decide (k≠.c)||lM p.1)&&(uA T rec e k f p.2.1&&eQ (oo T gz rec n e) b p.2.2.1))
  |.n C x=>bG (Rz d) λp=>decide (C=7)&&(e.b p.1&&(decide (p.1=gz)&&(dW [p.2.2.1]&&rec false e x p.2.2.1)))
  |.o b C v h=>bG (Rx d) λp=>bG (acT h) λa=>(decide (C=7)&&(e.b p.b&&(decide (p.b=gz)&&(decide (p.d=p.c)&&(decide (p.ly=("told"))&&decide (a.2=v))))))&&
     ((decide (e.f[v]? =Y p.c)&&decide (e.a.lookup p.c=Y .local))&&(!pU p.c&&(e.d a.1 p.y&&eQ (oo T gz rec n e) b p.a)))
  |.l=>true
section
variable {T:Tb}{cK:Wd}{ad:Nat->Addr}{F:cF}{n:Nat}{rec:hJ}{e:SE}{W:Wd}{cx:Cx}{m:ba}{gz:Str}
theorem Cg:∀{b}{l},c6 (λs c=>eC W cx (xI F s)<|exec c cx.env) b l->eC W cx (aK F b) (iZ l cx.env)
 |_,_,.d=>Qz
 |_,_,.cons h a=>Qv h<|Cg a
def Pm(f:eR cK n e W cx m){p}{l:Nat}(h:zD e scope vp y p=true):nq (.ListComp eY gs scope vp) (Y<|.Name y p) l cx.env=pure true:=by simp only[zD,lu,decide_eq_true_eq,vV]at h;refine bp h λz a=>bp z λb c=>?_;show pure (cx.env.blockKind==.function&&cx.env.kindOf y==Y .local&&p.line==vp.line&&!(scope.names.any λ(n,k)=>n==y&&(k==.local||k==.cell)))=_;refine U f.r<|U (f.g _)<|U b<|U c<|U a ?_;rfl
def Pl{n}:nr [.Name n p] v env=pure O:=V
def Pn{n}:nr [.Attribute o n p] v env=pure O:=V
def Pk:nr [.Subscript o i p] v env=pure O:=V
def aax(w:cK.y)(u:jm T cK ad)(S:jU cK F n rec)(h:Kg T rec e t x tt value=true)(hC:e.g=false)(f:eR cK n e W cx []):eC W cx (xI F<|.d t x)<|exec (.Assign [tt] value pos) cx.env:=by
 have a0:=w.p f.o;have c:=f.j.d;have D:=f.j.a;have A:=f.p.trans hC;induction t using bc.T.casesOn with
 |b i=>
  refine aF (bE h) λq h=>?_;refine bp (cu h) λy b=>?_;refine U q.2 ?_;refine bq (jc b) (λb=>?_) λb=>?_;·exact bp (cu b) λb g=>wz (QK D A<|f.k y) (λE m=>S.v g E m f) V (ro b _ _ _) Pl
  ·refine aF (bE b) λv b=>bp (cu b) λP L=>?_;clear b h;induction x using bc.X.casesOn with
   |u eY dS c4 k args X=>
    have j:=Ke S f L;refine U v.2 ?_;exact λm K H s Z d I M a2=>QI D c A j.j j.l j.o j.b j.a j.q j.c j.g j.f j.p (A0 j.h) (λE m H s R Q d I hQ=>B2 w u S f j.h E m H s R Q d I hQ) (f.k y) (Pm f P) m K H s Z (Eq.mp (congrFun (congrFun (JP) λv=>K .a<|m.set i _) H) d) I M a2
   |_=>exact aV L
 |d is=>
  refine aF (bE h) λq h=>?_;refine bp (cu h) λh g=>?_;refine bp (cu h) λy b=>?_;refine U q.2 ?_;cases z:tv (λx=>e.a.lookup x) q.1.1 value with
  |none=>rw[z]at g;exact aV g
  |some r=>
   rw[z]at g;induction r using Option.casesOn with
   |none=>
    refine aH (Al (R:=λp=>gU cx p.1 p.2) (λi n q=>f.k q) g) λl G N=>?_;subst G;exact wz (QL D c A N) (λE m=>S.v b E m f) V (ro y _ _ _)<|EI f z
   |some names=>
    refine dN (gD g) λg B a1=>?_;have B:=bV B;have G:=Mh<|bb B.symm;have:=QH (k:=q.1.2.1) (p:=q.1.2.2) (pos:=pos) D c A (λq a4=>f.k<|(my.mp a1) q a4) (U G<|bV g) (λE m=>S.v b E m f) (ro y _ _ _)<|U (List.map_snd_zip<|bb B)<|EI f z;exact G▸this
 |c C i o=>
  refine aF (bE h) λq h=>?_;refine bp (cu h) λh k=>?_;refine bp (cu h) λy b=>?_;refine bp (cu k) λg B=>?_;refine bp ((u.q f.o).p _ _ _<|bV g) λt1 a3=>?_;refine U q.2 ?_;exact wz (QN a0 c t1 a3 λE m=>S.v B E m f) (λE m=>S.v b E m f) V (ro y _ _ _) Pn
 |e a i=>
  refine aF (bE h) λq h=>?_;refine bp (cu h) λh k=>?_;refine bp (cu h) λy b=>?_;refine bp (cu k) λg B=>?_;refine U q.2 ?_;exact wz (QM a0 c (λE m=>S.v g E m f) λE m=>S.v B E m f) (λE m=>S.v b E m f) V (ro y _ _ _) Pk
def aas(y:cK.y)(w:jm T cK ad)(xo:r9 cK gz)(A:jU cK F (n+1) rec):∀k{e}{s}{G},oo T gz rec k e s G=true->e.g=false->∀{W}{cx},eR cK (n+1) e W cx []->(∃l,cx.a=cx.env::l)->eC W cx (xI F s) (exec G cx.env):=by
 intro k;induction k with
 |zero=>intro e s G h;exact aV h
 |succ k ih=>
  intro e s G h a5 W cx f N;have R:=y.p f.o;have c:=f.j.d;have a3:=f.j.a;have L:=f.p.trans a5;have D:∀{W},eR cK _ e W cx []->∀{b}{l},eQ _ b l=true->eC W cx _ _:=λ{W}f'{b l}M=>Cg<|r6 M λs G q=>ih q a5 f' N;induction s using bc.S.casesOn with
  |d t x=>
   refine aF (bE h) λp h=>?_;refine U p.2 ?_;exact aax y w A h a5 f
  |m t op x=>
   refine aF (bE h) λp h=>?_;refine fG (jl h) λu r B j=>?_;have r:=(jc r).imp bV bV;refine U p.2 ?_;induction t using bc.T.casesOn with
   |b i=>
    refine aF (bE j) λq j=>?_;refine U q.2 ?_;exact QE a3 c L (f.k j) (bV u) r λE m=>A.v B E m f
   |c C i o=>
    refine aF (bE j) λq j=>?_;refine bp (cu j) λj a0=>?_;refine bp ((w.q f.o).p _ _ _<|bV j) λt1 t2=>?_;refine U q.2 ?_;exact QG R c t1 t2 (bV u) r (λE m=>A.v a0 E m f) λE m=>A.v B E m f
   |e a i=>
    refine aF (bE j) λq j=>?_;refine dN (gD j) λj a0 a4=>?_;refine U q.2 ?_;exact QF R c (ko j) (bV u) r (λE m=>A.v a0 E m f) (λE m=>A.v a4 E m f) λE m=>A.v B E m f
   |d _=>exact aV j
  |e x=>
   refine aF (bE h) λp h=>?_;refine bp (cu h) λu r=>?_;refine U p.2 ?_;exact QC a3 (λE m=>A.v r E m f)<|ro u _ _ _
  |f x=>
   refine aF (bE h) λp h=>?_;refine U p.2 ?_;exact Qw λE m=>A.v h E m f
  |q=>
   refine aF (bE h) λp h=>?_;exact U p.2<|QD
  |p=>
   refine aF (bE h) λp h=>?_;exact U p.2<|Qy
  |g a b d=>
   refine aF (bE h) λp h=>?_;refine dN (gD h) λu r B=>?_;refine U p.2 ?_;exact QA (λE m=>A.t u E m f) (D f r)<|D f B
  |i a b=>
   refine aF (bE h) λp h=>?_;refine bp (cu h) λu r=>?_;refine U p.2 ?_;exact Qt (λE m=>A.t u E m f)<|D f r
  |j dS c4 k0 args b=>
   refine aF (bE h) λp h=>?_;refine fG (jl h) λu r B j=>?_;refine U p.2 ?_;refine QB a3 c L (Kf (λ_ _=>f.k) u) (λq=>(jc r).resolve_left λz=>bV z q) (λP=>D ⟨f.o.f _ _,f.j,f.l,f.p,f.t,f.q,f.s⟩ j) (A0 B) λm K H s Q d G hQ=>?_;have d:jh F (λe=>K _ m) m [] args _ H:=d;rw[lQ]at d;exact B2 y w A f B _ m H s (λvs S H=>og (λH'=>eg k0 H H' vs) dS c4 (λm' K'=>aK F b m' K') K S m H) Q d G hQ
  |n C x=>
   refine aF (bE h) λp h=>?_;refine jO (uJ h) λu r B j a0=>?_;have I:=xo.u f.o;refine gA I.v λfI fn X a1 a2=>?_;have g:=f.d r;refine U p.2<|U (bV u) ?_;rw[bV B]at g |-;exact Qx R f.j a1 I.r a2 g.1 g.2 I.s I.w (λE m=>A.v a0 E m f) j
  |o b C v hh=>
   refine aF (bE h) λp h=>?_;refine aF (bE h) λa h=>?_;refine bp (cu h) λha M=>?_;refine Jj (KT ha) λu r B j a0 a4=>?_;refine fG (jl M) λM h9 Z a6=>?_;refine bp (cu M) λh7 h8=>?_;have I:=xo.u f.o;refine gA I.v λfI fn X a1 a2=>?_;refine aF N λl hl=>?_;have g:=f.d r;refine aF p.2 λq hq=>?_;refine U hq<|U a.2<|U (bV u)<|U (bV j)<|U (bV a0)<|U (bV a4) ?_;rw[bV B]at g |-;exact λm K H s EE d G hp hE=>Qu R a3 L hl a1 I.y I.r (D f a6) g.1 g.2 I.s (by exact U f.l<|bV h7) (U (f.g _)<|bV h8) (ko h9) (f.k Z) m K H s EE d G hp hE
  |l=>exact λm K H s EE d G hp hE=>d.elim
end
def Gj{o:Obj}(h:o.cls=c)(k:o.data=x):o=⟨c,o.dict,x,o.slots⟩:=by subst h;subst k;rfl
noncomputable def Z1(d:Data):Option {p:Array bI×Nat//d=.seq p.1 p.2}:=match d with
 |.seq x n=>Y ⟨(x,n),V⟩
 |_=>O
noncomputable def Z8(d:Data):Option {f:pf//d=.func f}:=match d with
 |.func f=>Y ⟨f,V⟩
 |_=>O
noncomputable def Z2(v:bI):Option {a:Addr//v=.ref a}:=match v with
 |.ref a=>Y ⟨a,V⟩
 |_=>O
noncomputable def JX(b:FuncBody):Option {l:List Stmt//b=.stmts l}:=match b with
 |.stmts l=>Y ⟨l,V⟩
 |_=>O
noncomputable def wj(v:bI):Tok:=match v with
 |.int _ t=>t
 |.str _ t=>t
 |.bytes _ t=>t
 |_=>default
noncomputable def JV(K:Frag)(v:bI):Option {p:Addr×Obj×Array bI×Nat//v=.ref p.1/\K.lookup p.1=Y ⟨.type "tuple",p.2.1.dict,.seq p.2.2.1 p.2.2.2,p.2.1.slots⟩}:=
 (Z2 v).bind λa=>(qd<|K.lookup a.1).bind λo=>(Z1 o.1.data).bind λq=>if h:o.1.cls=.type "tuple" then Y ⟨(a.1,o.1,q.1),a.2,o.2.trans<|congrArg Y<|Gj h q.2⟩else O
noncomputable def BR(K:Frag)(a:AV)(v:bI):Bool:=match a with
 |.k=>decide (v=.none)
 |.c i=>decide (v=.int i (wj v))
 |.m x=>decide (v=.str x (wj v))
 |.d b=>decide (v=.bytes b.toArray (wj v)/\b.length<=1000)
 |.l l=>bG (JV K v) λp=>decide (p.2.2.1.toList=[])&&l.isEmpty
 |_=>false
noncomputable def zN(K:Frag)(v:bI):Option<|List bI:=if v=.none then Y []else(JV K v).map λp=>p.1.2.2.1.toList
noncomputable def I7(K:Frag)(a:Addr):Option {p:Obj×pf//K.lookup a=Y ⟨p.1.cls,p.1.dict,.func p.2,p.1.slots⟩}:=
 (qd _).bind λo=>(Z8 o.1.data).map λf=>⟨(o.1,f.1),o.2.trans<|congrArg Y<|Gj V f.2⟩
noncomputable def iU(K:Frag)(a:Addr):pf:=(((I7 K a).map C4).getD default).2
noncomputable def uE(f:pf):List Stmt:=((JX f.body).map C4).getD []
def I0{α:Type}{P:α->Prop}{x:Option {a//P a}}{d}(h:x.isSome=true):P<|(x.map C4).getD d:=by
 induction x using Option.casesOn with
 |none=>exact aV h
 |some p=>exact p.2
noncomputable def xy(K:Frag)(b:Fn)(n:List Str)(a:Addr):Bool:=
 let f:=iU K a
 decide ((I7 K a).isSome=true/\codeIn K f.code f.qualname=true/\(JX f.body).isSome=true/\f.scope.isCoroutine=false/\f.scope.isGenerator=false/\f.scope.kind=.function/\f.closure=[]/\f.globals=d9/\f.builtins=yn/\
  f.params.posonlyargs.isEmpty=true/\f.params.kwonlyargs.isEmpty=true/\f.params.vararg.isNone=true/\f.params.kwarg.isNone=true/\f.params.args.map (·.arg)=n.take b.c/\n.Nodup/\n.length=b.g/\
  b.c<=b.g/\b.b.length<=b.c/\∀c∈n,f.scope.names.lookup c=Y .local\/f.scope.names.lookup c=Y .cell)&&Option.ask (zN K f.defaults) (eQ (BR K) b.b)
def Zy(g:bu W H h)(o:W.y)(e:BR W.K a v=true):aT W.T (aU W.fr H) h a v:=by
 induction a using AV.casesOn with
 |k=>exact of_decide_eq_true (p:=v=.none) e
 |c=>exact⟨_,bV e⟩
 |m=>exact⟨_,bV e⟩
 |d=>exact aO _ (bV e).1<|aE (bV e).2<|by decide
 |l l=>
  refine aF (bE e) λp e=>?_;exact kr p.1.1 p.1.2.2.1 p.2.1 (g.F _ _<|o.t _ _ p.2.2) (As _ (g.D _ _<|o.t _ _ p.2.2) V _ V) (U (bV (cu e).1)<|U (yG.mp (cu e).2) kW)<|U (yG.mp (cu e).2)<|cB _
 |_=>exact aV e
def Zx(g:bu W H h)(o:W.y):∀{l}{b},eQ (BR W.K) l b=true->bk W.T (aU W.fr H) h l b:=λ{l}=>by
 induction l with
 |nil=>intro b e;rcases b with _|⟨_,_⟩;exact trivial;exact aV e
 |cons a r i=>intro b e;rcases b with _|⟨u,t⟩;exact aV e;exact⟨Zy g o (cu e).1,i (cu e).2⟩
def Q1{K}(e:zN K v=Y l)s(X:K.In s.heap)M A E Q(a:∀o,(o.getD #[]).toList=l->Q o s):bw M A (seqItems? v) Q E s:=by
 by_cases h:v=.none;·refine U h<|br<|a O ?_;exact bz<|(if_pos h).symm.trans e
 ·refine aH (qE.mp<|(if_neg h).symm.trans e) λp _ q=>U p.2.1<|aN<|wpAny_load (X _ _ p.2.2)<|br<|a _ q
def I6(o:W.y)(e:xy W.K fn names a=true):x7 W fn names a (iU W.K a)<|uE<|iU W.K a:=by
 have c:=bV (cu e).1;refine⟨⟨_,_,_,I0 c.1⟩,c.2.1,I0 c.2.2.1,c.2.2.2.1,c.2.2.2.2.1,c.2.2.2.2.2.1,c.2.2.2.2.2.2.1,c.2.2.2.2.2.2.2.1,c.2.2.2.2.2.2.2.2.1,yG.mp c.2.2.2.2.2.2.2.2.2.1,yG.mp c.2.2.2.2.2.2.2.2.2.2.1,
  C9.mp c.2.2.2.2.2.2.2.2.2.2.2.1,C9.mp c.2.2.2.2.2.2.2.2.2.2.2.2.1,c.2.2.2.2.2.2.2.2.2.2.2.2.2.1,c.2.2.2.2.2.2.2.2.2.2.2.2.2.2.1,c.2.2.2.2.2.2.2.2.2.2.2.2.2.2.2.1,c.2.2.2.2.2.2.2.2.2.2.2.2.2.2.2.2.1,
  c.2.2.2.2.2.2.2.2.2.2.2.2.2.2.2.2.2.1,c.2.2.2.2.2.2.2.2.2.2.2.2.2.2.2.2.2.2,?_⟩
 have e:=(cu e).2;cases b:zN W.K (iU W.K a).defaults with
 |none=>rw[b]at e;exact aV e
 |some l=>rw[b]at e;exact(aO l (λs X M A E Q f=>Q1 b s X M A E Q f) λH h g=>Zx g o e)
def rz{α β:Type}[BEq α][LawfulBEq α]{a}{b}{l:List<|α×β}(h:l.lookup a=Y b):(a,b)∈l:=by
 induction l with
 |nil=>exact aS h
 |cons p r i=>
  rw[show(p::r).lookup a=(match a==p.1 with|true=>Y p.2|false=>r.lookup a)from V]at h;cases e:a==p.1 with
  |true=>rw[e]at h;refine U (eq_of_beq e)<|aP (bz h) ?_;exact .head _
  |false=>rw[e]at h;exact .tail _<|i h
noncomputable def EF(a:Tb)(b:Nat->Addr)(t:jn)(K:Frag):Bool:=decide (
 (∀p∈a.f,nsIn K d9 p.1=Y (Y<|.ref<|b p.2)/\js K (.ref<|b p.2)=true)/\
 (∀p∈a.g,nsIn K d9 p.1=Y (Y<|.ref (t p.2).a)/\js K (.ref (t p.2).a)=true/\makesIn K (t p.2).a=true/\fb K (.ref (t p.2).a) "__init__"=Y (Y<|.ref<|b<|gS p.2)/\l4 K (.ref<|b<|gS p.2)=Y (.type "function"))/\
 (∀p∈a.c,xO K (t p.1.1)=true/\p.1.2∉(t p.1.1).b/\fb K (.ref (t p.1.1).a) p.1.2=Y (Y<|.ref<|b p.2)/\l4 K (.ref<|b p.2)=Y (.type "function")/\js K (.ref<|b p.2)=true)/\
 (∀C∈fV a.a.length,xO K (t C)=true/\(a.a[C]?).getD []=(t C).b)/\
 (∀p∈a.b,nsIn K d9 p.1=Y (Y<|.bytes p.2.toArray<|wj<|((nsIn K d9 p.1).getD O).getD .none))/\
 ∀n∈a.e,nsIn K d9 n=Y O)
def Pa(h:EF t d W.T W.K=true):jm t W d:=by
 have h:=bV h;refine⟨λn f e=>h.1 _<|rz e,λn C e=>h.2.1 _<|rz e,λC n f e=>?_,λC i n e=>?_,λn b e=>⟨_,h.2.2.2.2.1 _<|rz e⟩,h.2.2.2.2.2⟩;·exact⟨jq.x (h.2.2.1 _<|rz e).1,(h.2.2.1 _<|rz e).2⟩
 ·refine aH (LS.mp e) λl c e=>bp (h.2.2.2.1 C<|mj.mpr (et.mp c).1) λa b=>?_;have b:=c▸b;exact⟨jq.x a,by exact aP b<|e⟩
noncomputable def Iu(n b:Str)(l:List Stmt):Bool:=bG (d1 l) λs=>bG (zV s) λa=>bG (rW a.1) λr=>bG (hF r.1) λv=>bG (hF a.2.1) λw=>decide (v.1=n/\r.2.1=("told")/\w.1=b)
def VZ(h:Iu n1 n2 l=true):∃b d c p,l=[.Assign [.Attribute (.Name n1 b) "told" d] (.Name n2 c) p]:=by refine aF (bE h) λs h=>aF (bE h) λa h=>aF (bE h) λr h=>aF (bE h) λv h=>aF (bE h) λw h=>?_;exact⟨v.1.2,r.1.2.2,w.1.2,a.1.2.2,s.2.trans<|congrArg (λx=>[x])<|a.2.trans<|mX (λx y=>C5 [x] y a.1.2.2) (r.2.trans<|mX (λx y=>Ni x y r.1.2.2) (v.2.trans<|congrArg (λx=>Expr.Name x v.1.2) (bV h).1) (bV h).2.1)<|w.2.trans<|congrArg (λx=>Expr.Name x w.1.2) (bV h).2.2⟩
noncomputable def Jd(C f:Addr)(n:Str)(b:Fn)(a:List Str)(K:Frag):Bool:=bG (d2 a) λy=>xy K b a f&&decide (fb K (.ref C) "__init__"=Y (Y<|.ref f)/\l4 K (.ref f)=Y (.type "function")/\specialIn K (.ref C) "__call__"=Y (Y<|.builtin "type.__call__")/\instIn K (.ref C) (.type "type")=Y true/\
 fb K (.ref C) "__setattr__"=Y (Y<|.builtin "object.__setattr__")/\fb K (.ref C) "__getattribute__"=Y (Y<|.builtin "BaseException.__getattribute__")/\fb K (.ref C) "__getattr__"=Y O/\fb K (.ref C) "told"=Y O/\
 qx K C=true/\nsIn K d9 n=Y (Y (.ref C))/\js K (.ref C)=true/\b.c=2/\b.g=2/\y.1≠y.2/\pU y.1=false/\pU y.2=false/\(iU K f).scope.names.lookup y.1=Y .local/\(iU K f).scope.names.lookup y.2=Y .local/\Iu y.1 y.2 (uE (iU K f))=true)
def YO(t:W.y)(h:Jd (W.T 7).a fI gz fn names W.K=true)(o:(W.T 7).b=[("told":Str)])
  (d:∃x q N i G e s b p f u n j r,W.K.lookup (W.T 7).a=Y (yl x q (W.T 7).a N i (.ref G::iV) true e s false b p f u n j r "Exception.__new__")):r9 W gz:=by
 refine aF (bE h) λy h=>?_;have c:=bV (cu h).2;have g:=(cu h).1;rw[y.2]at g;refine⟨(je fI fn (iU W.K fI) ⟨d,c.1,c.2.1,c.2.2.1,c.2.2.2.1,c.2.2.2.2.1,c.2.2.2.2.2.1,c.2.2.2.2.2.2.1,c.2.2.2.2.2.2.2.1⟩ λA l=>⟨c.2.2.2.2.2.2.2.2.2.2.2.1,c.2.2.2.2.2.2.2.2.2.2.2.2.1,?_⟩),c.2.2.2.2.2.2.2.2.1,o,c.2.2.2.2.2.2.2.2.2.1,c.2.2.2.2.2.2.2.2.2.2.1⟩;have k:=c.2.2.2.2.2.2.2.2.2.2.2.2.2;refine YT (VZ k.2.2.2.2.2) λv z w a m=>?_;refine⟨y.1.1,y.1.2,v,z,w,a,k.1,k.2.1,k.2.2.1,k.2.2.2.1,k.2.2.2.2.1,?_⟩;have:=I6 (t.p l)<|U l.K<|g;have this:=m▸(l.K▸this);exact this
theorem KW(o:b.y)(t:jm k b e)(x:r9 b j){c:Nat->List Str}{a I:Nat}
  (v:∀f h,P f=Y h->xy b.K h (c f) (e f)=true/\eQ (oo k j (uB k a) I ⟨c f,(iU b.K<|e f).scope.names,[],false⟩) h.e (uE<|iU b.K<|e f)=true):
  ∀n,lV b e (aR P n)<|n+1
 |0=>λW i A l H s f L M Q E d g D F=>d.elim
 |n+1=>by
  refine QJ o λf h u=>?_;refine bp (v f h u) λy w=>?_;refine(je (c f) (iU b.K<|e f) (uE<|iU b.K<|e f) (λW i=>?_) λW i K C p B m r z=>?_)
  ·have:=I6 (o.p i) (U i.K<|y);exact i.K▸this
  ·exact Cg<|r6 w λs G q=>aas o t x (B4 o t (KW o t x v n) a) I q V (⟨i,⟨C,z⟩,p,B,λq=>aV q,U m V,λ_=>V⟩) r
end bc
end
section
open PySem PySem.W
namespace bc.P
noncomputable def adL:List<|Nat×Addr:=[(1007,36),(0,85),(1000,99),(1,120),(1001,141),(2,148),(3,153),(1002,174),(4,181),(5,188),(6,195),(7,202),(8,209),(9,216),(10,223),(11,230),(12,237),(13,244),(14,251),(15,265),(16,272),(17,279),(18,286),(19,294),(20,301),(1003,315),(21,322),(22,329),(23,336),(24,343),(25,350),(26,357),(27,364),(28,371),(29,385),(1004,400),(30,407),(31,412),(32,419),(33,426),(1005,449),(34,470),(35,475),(36,481),(1006,496),(37,503),(38,510),(39,524),(40,531),(41,539),(42,544),(43,549),(44,556),(45,563),(46,568),(47,573),(48,580),(49,587),(50,594),(51,599),(52,604),(53,611),(54,616)]
noncomputable def ad(f:Nat):Addr:=(adL.lookup f).getD 0
noncomputable def aak:List x8:=[⟨123,["a_from","a_to","b_from","b_to"]⟩,⟨156,["known","strange","count"]⟩,⟨254,["a","b","gone","come"]⟩,⟨374,["numbers","lines","sizes"]⟩,⟨429,["old_from","old_many","new_from","new_many","rows","heading"]⟩,⟨459,["old_path","new_path","old_mode","new_mode","old_id","new_id","hunks","kind","likeness","binary"]⟩,⟨513,["old","new"]⟩,⟨64,["told"]⟩]
noncomputable def tu:jn:=λC=>(aak[C]?).getD ⟨0,[]⟩
noncomputable def tb:Tb where
 f:=[("lines_of",0),("line_further",15),("line_rising",16),("myers",17),("patience",18),("histogram",19),("by",20),("slid",29),("heading_of",34),("hunk_around",35),("hunks_of",36),("image_place",39),("hunk_ways",40),("apply_hunks",41),("reversed_patch",42),("_law_deck",43),("_law_draw",44),("_law_letter",45),("_law_text",46),("_law_turned",47),("_law_moved",48),("_law_octets",49),("_law_last",50),("_law_place",51),("_law_applied",52),("_law_heard",53),("law",54)]
 g:=[("Change",0),("LineNumbers",1),("LineSheet",2),("LineGaps",3),("Hunk",4),("FilePatch",5),("HunkImage",6)]
 c:=[((0,"places"),1),((1,"number_of"),2),((1,"numbers_of"),3),((2,"whole"),4),((2,"trimmed"),5),((2,"mark"),6),((2,"changes"),7),((2,"halved"),8),((2,"mark_fewest"),9),((2,"lone_pairs"),10),((2,"mark_patience"),11),((2,"rare_stretch"),12),((2,"is_led_up_to"),13),((2,"mark_histogram"),14),((3,"start"),21),((3,"can_go_up"),22),((3,"can_go_down"),23),((3,"put"),24),((3,"ends_blank"),25),((3,"marks"),26),((3,"settled"),27),((3,"settle"),28),((4,"start"),30),((4,"side"),31),((4,"context"),32),((4,"turned"),33),((6,"fits"),37),((6,"place"),38)]
 a:=[["a_from","a_to","b_from","b_to"],["known","strange","count"],["a","b","gone","come"],["numbers","lines","sizes"],["old_from","old_many","new_from","new_many","rows","heading"],["old_path","new_path","old_mode","new_mode","old_id","new_id","hunks","kind","likeness","binary"],["old","new"]]
 b:=[("KEPT",[32]),("OUT",[45]),("IN",[43]),("FEED",[10]),("BLANKS",[32,9,10,13,11,12])]
 e:=["len","abs","max","min","sum","int","list","bytes","isinstance","str","repr","range","enumerate"]
noncomputable def gz:Str:="PatchRejected"
noncomputable def GC:List Str:=["self","told"]
noncomputable def T3:List Str:=["octets","found","begun","ended"]
noncomputable def Up:List Str:=["self","a_from","a_to","b_from","b_to"]
noncomputable def TL:List Str:=["self"]
noncomputable def Uk:List Str:=["self"]
noncomputable def TP:List Str:=["self","line","key","number","other"]
noncomputable def TO:List Str:=["self","lines"]
noncomputable def Uj:List Str:=["self","a","b","numbers"]
noncomputable def Tz:List Str:=["self"]
noncomputable def TB:List Str:=["self","part","a_low","a_high","b_low","b_high"]
noncomputable def TX:List Str:=["self","part","a_low","a_high","b_low","b_high","place"]
noncomputable def UC:List Str:=["self","found","at","far","a_from","b_from"]
noncomputable def Ux:List Str:=["self","part","a_low","a_high","b_low","b_high","wide","tall","slant","ahead","behind","many","lane","at"]
noncomputable def TV:List Str:=["self","part","waiting","a_low","a_high","b_low","b_high","at","far"]
noncomputable def TY:List Str:=["self","part","a_low","a_high","b_low","b_high","a_places","b_places","place","found"]
noncomputable def TT:List Str:=["self","part","waiting","a_low","a_high","b_low","b_high","held","at","far"]
noncomputable def TJ:List Str:=["self","part","most","a_low","a_high","b_low","b_high","places","place","row","best","is_alike","far","at","size","rarest","key"]
noncomputable def Ui:List Str:=["self","at","far","a_low","b_low","places","most"]
noncomputable def TU:List Str:=["self","part","most","waiting","a_low","a_high","b_low","b_high","stretch","is_alike","at","far","size"]
noncomputable def T5:List Str:=["reach","lane"]
noncomputable def T4:List Str:=["pairs","piles","ahead","number","pair","low","high","middle","found"]
noncomputable def TQ:List Str:=["a","b","sheet"]
noncomputable def TN:List Str:=["a","b","sheet"]
noncomputable def Uv:List Str:=["a","b","most","sheet"]
noncomputable def UG:List Str:=["how","a","b"]
noncomputable def Ul:List Str:=["self","numbers","marks","lines","mark"]
noncomputable def Uy:List Str:=["self","gap"]
noncomputable def UD:List Str:=["self","gap","start"]
noncomputable def UE:List Str:=["self","gap","start"]
noncomputable def TK:List Str:=["self","gap","other"]
noncomputable def UA:List Str:=["self","gap","line"]
noncomputable def TS:List Str:=["self","found","gap","size"]
noncomputable def TG:List Str:=["self","gap","others","size","top","beside","low"]
noncomputable def TH:List Str:=["self","others","gap"]
noncomputable def TC:List Str:=["changes","a","b","sheet","change","near","far"]
noncomputable def Un:List Str:=["self","old_from","old_many","new_from","new_many","rows","heading"]
noncomputable def Ut:List Str:=["self"]
noncomputable def TF:List Str:=["self","sign"]
noncomputable def UB:List Str:=["self","ahead","behind"]
noncomputable def TA:List Str:=["self","rows","gone","come","sign","line"]
noncomputable def Uo:List Str:=["self","old_path","new_path","old_mode","new_mode","old_id","new_id","hunks","kind","likeness","binary"]
noncomputable def Uw:List Str:=["lines","start","place","first"]
noncomputable def Uu:List Str:=["a","b","group","context","start","end","rows","at","more","change","there","old_many","new_many"]
noncomputable def Ur:List Str:=["old","new","context","between","how","a","b","groups","change"]
noncomputable def Um:List Str:=["self","hunk","ahead","behind","kept","part"]
noncomputable def Uz:List Str:=["self","lines","done","at","end"]
noncomputable def TM:List Str:=["self","lines","done","near","most_off","most","off"]
noncomputable def Uq:List Str:=["image","lines","done","near","most_off","bounds","at"]
noncomputable def Us:List Str:=["hunk","least_context","ahead","behind","found","gone"]
noncomputable def UH:List Str:=["octets","hunks","most_off","least_context","lines","found","done","off","number","hunk","place","ahead","behind","bounds","image","near"]
noncomputable def TI:List Str:=["patch","binary","kind"]
noncomputable def Ue:List Str:=["script","cells","mixed","cell"]
noncomputable def Ud:List Str:=["deck","many"]
noncomputable def Ua:List Str:=["deck"]
noncomputable def T7:List Str:=["deck"]
noncomputable def T6:List Str:=["deck","rows","kept","turn","at"]
noncomputable def T':List Str:=["deck","rows","turn","at"]
noncomputable def T9:List Str:=["deck","rows","octets"]
noncomputable def Ub:List Str:=["octets","last"]
noncomputable def T8:List Str:=["lines","hunk","old","told","low","most_off","is_bound","some","fresh","found","at"]
noncomputable def Ug:List Str:=["lines","hunks","most_off","found","done","off","number","hunk","old","own","at"]
noncomputable def Uc:List Str:=["octets","hunks","most_off","found","e"]
noncomputable def Uh:List Str:=["script","deck","old","new","near","far","context","between","how","hunks","back","other","most_off","due"]
noncomputable def Tw:List<|Nat×List Str:=[(1007,GC),(0,T3),(1000,Up),(1,TL),(1001,Uk),(2,TP),(3,TO),(1002,Uj),(4,Tz),(5,TB),(6,TX),(7,UC),(8,Ux),(9,TV),(10,TY),(11,TT),(12,TJ),(13,Ui),(14,TU),(15,T5),(16,T4),(17,TQ),(18,TN),(19,Uv),(20,UG),(1003,Ul),(21,Uy),(22,UD),(23,UE),(24,TK),(25,UA),(26,TS),(27,TG),(28,TH),(29,TC),(1004,Un),(30,Ut),(31,TF),(32,UB),(33,TA),(1005,Uo),(34,Uw),(35,Uu),(36,Ur),(1006,Um),(37,Uz),(38,TM),(39,Uq),(40,Us),(41,UH),(42,TI),(43,Ue),(44,Ud),(45,Ua),(46,T7),(47,T6),(48,T'),(49,T9),(50,Ub),(51,T8),(52,Ug),(53,Uc),(54,Uh)]
noncomputable def GB(f:Nat):List Str:=(Tw.lookup f).getD []
end bc.P
end
section
set_option Elab.async false
open PySem PySem.W PyProof.Rows
namespace bc.P
noncomputable def p8(K:Frag)(p:Nat×Fn):Bool:=xy K p.2 (GB p.1) (ad p.1)&&eQ (oo tb gz (uB tb 60) 30 ⟨GB p.1,(iU K<|ad p.1).scope.names,[],false⟩) p.2.e (uE<|iU K<|ad p.1)
def Xg(P:fe):F1.all (p8<|Hd.KF P)=true:=by kernel_rfl
def Xf(P:fe):F0.all (p8<|Hd.KF P)=true:=by kernel_rfl
def Xe(P:fe):FZ.all (p8<|Hd.KF P)=true:=by kernel_rfl
def Xd(P:fe):FY.all (p8<|Hd.KF P)=true:=by kernel_rfl
def Xc(P:fe):FX.all (p8<|Hd.KF P)=true:=by kernel_rfl
def Xb(P:fe):FW.all (p8<|Hd.KF P)=true:=by kernel_rfl
def acQ(P:fe){f:Nat}{fd:Fn}(h:prog f=Y fd):p8 (Hd.KF P) (f,fd)=true:=by
 have h:=rz h;unfold FV at h;simp only[fM]at h;rcases h with((((h|h)|h)|h)|h)|h;·exact my.mp (Xg P) _ h
 ·exact my.mp (Xf P) _ h
 ·exact my.mp (Xe P) _ h
 ·exact my.mp (Xd P) _ h
 ·exact my.mp (Xc P) _ h
 ·exact my.mp (Xb P) _ h
def Pd(P:fe):EF tb ad tu (Hd.KF P)=true:=by kernel_rfl
def YM(P:fe):Jd 64 (ad 1007) gz Yi GC (Hd.KF P)=true:=by kernel_rfl
def YI(P:fe):∃nm q N bs G sn sub col dd k0 k1 k2 k3 k5,(Hd.KF P).lookup 64=Y (yl nm q 64 N bs (.ref G::iV) true sn sub false col dd k0 k1 k2 k3 k5 "Exception.__new__"):=
 ⟨"PatchRejected","PatchRejected",63,[.ref 39],39,[],[],O,O,Y<|.ref 55,O,Y<|Hd.sv "PatchRejected" 242,Y<|Hd.sv "PatchRejected" 250,Y<|.bool true,by kernel_rfl⟩
end bc.P
end
section
set_option backward.match.sparseCases false
namespace bc
open P
structure Gm where
 F:cF
 m:ba
 d:ba
 H:Hp
noncomputable def ae(g:Gm)(x:X)(v:AV):Prop:=∀E Q,Q v g.H->den g.F E g.m g.d x Q g.H
noncomputable def eM(g:Gm)(x:List X)(v:List AV):Prop:=∀E Q,Q v g.H->jh g.F E g.m g.d x Q g.H
def rZ(q:Q (.c<|a+b) H):iw .a mu (.c a) (.c b) Q H:=.inl<|bQ a b V V q
def Ck(q:Q (.c<|a-b) H):iw .b mu (.c a) (.c b) Q H:=bQ a b V V q
def xV(c:cf H u=Y a)(e:cf H v=Y b)(q:iR mu (a++b) Q H):iw .a mu u v Q H:=.inr<|.inr<|bQ a b c e q
def rY(e:H d=Y (.bF C dx vs))(h:i=vs.length)(q:K<|H.ag d<|.bF C dx<|vs++[v]):ke C i (.f d) v K H:=
 lK d dx vs V e (U (if_neg<|by exact U h<|dk _) ⟨h,q⟩)
def KH(e:H d=Y (.bF C dx vs))(h:i<vs.length)(q:K<|H.ag d<|.bF C dx<|vs.set i v):ke C i (.f d) v K H:=
 lK d dx vs V e (U (if_pos h) q)
def KL(e:H d=Y (.bF C dx vs))(h:vs[i]? =Y v)(q:Q v H):ov C i (.f d) Q H:=bQ vs v (.inr<|gc d dx V e) h q
def xU(e:H d=Y o)(q:EL o i Q H):mM (.f d) i Q H:=aO o e q
def qg(e:H d=Y o)(q:Fh o d i v K H):pE (.f d) i v K H:=bQ d o V e q
def ou{u c a}{l}{p q}{Q}(o:cf H u=Y l)(b:pK c=Y p)(e:pK a=Y q)(h:Q (.g<|eV l p q) H):rk u c a Q H:=bQ p q b e<|.inr<|aO l o h
def xT{l}{c a}{p q}{Q}(b:pK c=Y p)(e:pK a=Y q)(h:Q (.d<|eV l p q) H):rk (.d l) c a Q H:=bQ p q b e<|.inl<|aO l V h
def KJ(e:H d=Y (.bF C dx vs))(q:Q (.n C vs)<|H.aB d):kA (.f d) Q H:=aO d V<|.inr<|je C dx vs e q
def I3(h:H a=Y (.b l))(q:Q (.g l)<|H.aB a):kA (.f a) Q H:=aO a V<|.inl<|aO l h q
section
variable {g:Gm}{x y z:X}{v w u:AV}{a b c:Int}{p q r:Bool}{i:Nat}{mu:Bool}
def aL:ae g (.e v) v:=λ_ _ q=>q
def J(e:g.m[i]? =Y (Y v):=by rfl):ae g (.d i) v:=λE Q q=>by refine(?_:(match g.m[i]? with|some (some v)=>Q v g.H|_=>False));exact U e<|q
def gv(e:g.d[i]? =Y (Y v)):ae g (.s i) v:=λE Q q=>by refine(?_:(match g.d[i]? with|some (some v)=>Q v g.H|_=>False));refine U e<|q
def gi(h:ae g x<|.c a):ae g (.y x)<|.c<|-a:=λE Q q=>h E _ q
def Oi(h:ae g x<|.e p):ae g (.G x)<|.e<|!p:=λE Q q=>h E _ q
def eA(h:ae g x<|.c a)(k:ae g y<|.c b):ae g (.j .a mu x y)<|.c<|a+b:=λE Q q=>h E _<|k E _<|rZ q
def c3(h:ae g x<|.c a)(k:ae g y<|.c b):ae g (.j .b mu x y)<|.c<|a-b:=λE Q q=>h E _<|k E _<|Ck q
def zi(h:ae g x<|.c a)(k:ae g y<|.c b)(l:a.natAbs<ix.natAbs/\b.natAbs<ix.natAbs):ae g (.j .e mu x y)<|.c<|a*b:=λE Q q=>h E _<|k E _<|eX a b V V l q
def zt(h:ae g x<|.c a)(k:ae g y<|.c b)(l:0<b/\b<ix):ae g (.j .c mu x y)<|.c<|a/b:=λE Q q=>h E _<|k E _<|eX a b V V l q
def wb(h:ae g x<|.c a)(k:ae g y<|.c b)(l:0<b/\b<ix):ae g (.j .d mu x y)<|.c<|a%b:=λE Q q=>h E _<|k E _<|eX a b V V l q
def Ed(h:ae g x<|.c (n+1:Nat)):ae g (.j .b mu x<|.e<|.c 1)<|.c n:=λE Q q=>h E _ (Ck (mu:=mu) (by exact U (show((n+1:Nat):Int)-1=n from qQ n 1)<|q))
def fW(h:ae g x v)(k:ae g y w)(e:uy op g.H v w=Y r):ae g (.h op x y)<|.e r:=λE Q q=>h E _ (k E _ (by exact U e<|q))
def wc(h:ae g x<|.c a)(k:ae g y<|.c b):ae g (.h .d x y)<|.e<|decide (a<b):=λE Q q=>h E _<|k E _ q
def zk(h:ae g x<|.c a)(k:ae g y<|.c b):ae g (.h .j x y)<|.e<|decide (a<=b):=λE Q q=>h E _<|k E _ q
def En(h:ae g x<|.c a)(k:ae g y<|.c b):ae g (.h .f x y)<|.e<|decide (b<a):=λE Q q=>h E _<|k E _ q
def q9(h:ae g x<|.c a)(k:ae g y<|.c b):ae g (.h .i x y)<|.e<|decide (b<=a):=λE Q q=>h E _<|k E _ q
def i6(h:ae g x<|.c a)(k:ae g y<|.c b):ae g (.h .a x y)<|.e<|decide (a=b):=λE Q q=>h E _<|k E _ q
def zh(h:ae g x<|.c a)(k:ae g y<|.c b):ae g (.h .c x y)<|.e<|!decide (a=b):=λE Q q=>h E _<|k E _ q
def d4(h:ae g x<|.e p)(k:p=true->ae g y (.e q)):ae g (.t [x,y])<|.e<|p&&q:=λE Q z=>h E _ (by
 induction p using Bool.casesOn;·exact z
 ·refine k V E _ ?_;induction q using Bool.casesOn<;>exact z)
def gL(h:ae g x<|.e p)(k:p=false->ae g y (.e q)):ae g (.A [x,y])<|.e<|p||q:=λE Q z=>h E _ (by
 induction p using Bool.casesOn;·refine k V E _ ?_;induction q using Bool.casesOn<;>exact z
 ·exact z)
def kc(h:ae g x<|.e p)(k:p=true->ae g (.t [y,z]) (.e q)):ae g (.t [x,y,z])<|.e<|p&&q:=λE Q w=>h E _ (by
 induction p using Bool.casesOn;·exact w
 ·exact k V E _ w)
def mH(h:ae g x<|.e p)(k:p=false->ae g (.A [y,z]) (.e q)):ae g (.A [x,y,z])<|.e<|p||q:=λE Q w=>h E _ (by
 induction p using Bool.casesOn;·exact k V E _ w
 ·exact w)
def gM(h:ae g x<|.e p)(k:p=true->ae g y v)(l:p=false->ae g z v):ae g (.D x y z) v:=λE Q w=>h E _ (by
 induction p using Bool.casesOn;·exact l V E _ w
 ·exact k V E _ w)
def fN:eM g [] []:=λ_ _ q=>q
def bt(h:ae g x v)(k:eM g xs vs):eM g (x::xs)<|v::vs:=λE Q q=>h E _<|k E _ q
def cJ(h:ae g x v):eM g [x] [v]:=λE Q q=>h E _ q
def bB(h:ae g x v)(k:ae g y w):eM g [x,y] [v,w]:=λE Q q=>h E _<|k E _ q
def cO(h:eM g xs vs):ae g (.q xs)<|.l vs:=λE Q q=>h E _ q
def tf(h:eM g xs vs)(l:vs.length<=sz):ae g (.m false xs)<|.g vs:=λE Q q=>h E _ ⟨l,q⟩
def qX:ae g (.m false [])<|.g []:=λE Q q=>⟨cB _,q⟩
def px(h:eM g xs vs)(k:∀E Q,Q v g.H->g.F f vs Q E g.H):ae g (.p f xs) v:=λE Q q=>h E _<|k E Q q
def iK(h:ae g x u)(c:lR g.H u=Y C)(a:eM g xs vs)(k:∀E Q,Q v g.H->g.F f (u::vs) Q E g.H):ae g (.o C f x xs) v:=λE Q q=>h E _ ⟨c,a E _<|k E Q q⟩
def cL(h:ae g x<|.f d)(e:g.H d=Y (.bF C dx vs))(a:vs[j]? =Y v):ae g (.g C j x) v:=λE Q q=>h E _<|KL e a q
def ew(h:ae g x<|.n C vs)(e:vs[j]? =Y v):ae g (.g C j x) v:=λE Q q=>h E _<|bQ vs v (.inl V) e q
def tK(h:k<n):lC n k=Y k:=by unfold lC;refine U (if_pos<|f9 k) (U (if_pos<|by exact h) ?_);rfl
def F6 n:lC (n+1) (-1)=Y n:=by unfold lC;refine U (if_neg<|by decide) (U (if_pos<|by exact b9 λd=>aJ [_] [] [.l 1 (.a (.a (.n<|-1)<|.c<|.a bo<|.n 1) aM) bJ] V d) ?_);exact congrArg Y<|cN<|cA [_,_] [] af aG [.e 1 af<|.a (.n<|-1)<|.c<|.a aZ<|.n 1] V<|g7<|b9 λz=>aJ [_] [] [.l 1 (.a (.a (.n<|-1)<|.c<|.a bo<|.n 1) aM) bJ] V z
def wk(o:cf H u=Y l)(e:lC l.length n=Y k)(b:l[k]? =Y v)(q:Q v H):mM u (.c n) Q H:=by
 have a:uG l _ Q H:=dG n k v V e b q;rcases G7 o with rfl|⟨d,rfl,h⟩;·exact a
 ·exact xU h a
def v9{n:Nat}(h:ae g x u)(o:cf g.H u=Y l)(k:ae g y<|.c n)(e:l[n]? =Y v):ae g (.l x y) v:=λE Q q=>h E _<|k E _<|wk o (tK (et.mp e).1) e q
def td(h:ae g x u)(o:cf g.H u=Y (l++[v]))(k:ae g y<|.c<|-1):ae g (.l x y) v:=λE Q q=>h E _<|k E _<|wk o (U bZ<|F6 _) (by simp) q
def qV{n:Nat}(h:ae g x<|.l l)(k:ae g y<|.c n)(e:l[n]? =Y v):ae g (.l x y) v:=λE Q q=>h E _<|k E _<|dG n n v V (tK (et.mp e).1) e q
def mG(h:ae g x<|.f d)(o:g.H d=Y (.c f n))(a:ae g y<|.c k)(e:f k=Y v):ae g (.l x y) v:=λE Q q=>h E _<|a E _<|xU o<|bQ k v V e q
def A8(e:H d=Y o):xi H k (.f d)=o.u k:=congrArg (λx=>x.bind λo=>o.u k) e
def Ow(h:ae g x<|.c k)(a:ae g y<|.f d)(o:g.H d=Y (.c f n)):ae g (.h .g x y)<|.e (f k).isSome:=fW h a<|A8 o
def pn(h:ae g x<|.c k)(a:ae g y<|.f d)(o:g.H d=Y (.c f n)):ae g (.h .b x y)<|.e<|!(f k).isSome:=fW h a<|congrArg (sx (!·))<|A8 o
def lx(h:ae g x u)(o:cf g.H u=Y l):ae g (.r .b [x])<|.c l.length:=λE Q q=>h E _ ⟨trivial,.inr<|bQ u l V o q⟩
def Ei(h:ae g x<|.d s):ae g (.r .b [x])<|.c s.length:=λE Q q=>h E _ ⟨trivial,.inl ⟨s,V,q⟩⟩
def tj(h:ae g x<|.c a):ae g (.r .n [x])<|.c a.natAbs:=λE Q q=>h E _ ⟨trivial,⟨a,V,q⟩⟩
def Eg(h:ae g x<|.c a)(k:ae g y<|.c b):ae g (.r .t [x,y])<|.c<|max a b:=λE Q q=>h E _ ⟨trivial,k E _ ⟨a,b,V,q⟩⟩
def zj(h:ae g x<|.c a)(k:ae g y<|.c b):ae g (.r .r [x,y])<|.c<|min a b:=λE Q q=>h E _ ⟨trivial,k E _ ⟨a,b,V,q⟩⟩
def zq(h:ae g x<|.e p):ae g (.r .m [x])<|.c (if p then 1 else 0):=λE Q q=>h E _ ⟨trivial,.inr ⟨p,V,q⟩⟩
end
section
variable {F:cF}{m m':ba}{K:FK}{H:Hp}{r:List S}{x y z:X}{v w u:AV}{i j k l:Nat}
def cv(h:ae ⟨F,m,[],H⟩ x v)(q:aK F r (m.set i<|Y v) K H):aK F (.d (.b i) x::r) m K H:=h _ _ q
def jD(h:ae ⟨F,m,[],H⟩ x<|.l [v,w])(q:aK F r ((m.set i<|Y v).set j<|Y w) K H):aK F (.d (.d [i,j]) x::r) m K H:=h _ _ q
def wB(h:ae ⟨F,m,[],H⟩ x<|.l [v,w,u])(q:aK F r (((m.set i<|Y v).set j<|Y w).set k<|Y u) K H):aK F (.d (.d [i,j,k]) x::r) m K H:=h _ _ q
def tA(h:ae ⟨F,m,[],H⟩ x<|.l [v,w,u,t])(q:aK F r ((((m.set i<|Y v).set j<|Y w).set k<|Y u).set l<|Y t) K H):aK F (.d (.d [i,j,k,l]) x::r) m K H:=h _ _ q
def cQ(h:ae ⟨F,m,[],H⟩ x v)(q:K (.c v) m H):aK F (.f x::r) m K H:=h _ _ q
def bO(q:K .a m H):aK F [] m K H:=q
def bT(q:aK F r m K H):aK F [] m (e9 (λm' a=>aK F r m' a) K) H:=q
def iN{a b:Int}(e:m[i]? =Y (Y<|.c a))(h:ae ⟨F,m,[],H⟩ x<|.c b)(q:aK F r (m.set i<|Y<|.c<|a+b) K H):aK F (.m (.b i) .a x::r) m K H:=by refine(?_:(match m[i]? with|some (some a)=>den F _ m [] x (λb H=>(match a,b with|.c _,.c _=>iw .a false a b (λv=>e9 (λm' c=>aK F r m' c) K .a<|m.set i<|Y v) H|_,_=>False)) H|_=>False));refine U e ?_;exact h _ _<|rZ q
def Rt(e:m[i]? =Y (Y<|.c (a+1:Nat)))(q:aK F r (m.set i<|Y<|.c a) K H):aK F (.m (.b i) .b (.e<|.c 1)::r) m K H:=by refine(?_:(match m[i]? with|some (some a)=>den F _ m [] (.e _) (λb H=>(match a,b with|.c _,.c _=>iw .b false a b (λv=>e9 (λm' c=>aK F r m' c) K .a _) H|_,_=>False)) H|_=>False));refine U e ?_;refine Ck (mu:=false) (Q:=λv=>aK F r (m.set i _) K) (b:=1) ?_;exact U (show((a+1:Nat):Int)-1=a from qQ a 1)<|q
def cg(h:ae ⟨F,m,[],H⟩ x<|.e p)(q:p=true->aK F a m (e9 (λm' c=>aK F r m' c) K) H)(s:p=false->aK F b m (e9 (λm' c=>aK F r m' c) K) H):aK F (.g x a b::r) m K H:=h _ _ (by
 induction p using Bool.casesOn;·exact s V
 ·exact q V)
noncomputable def gd{a:Type}(F:cF)(c:X)(b:List S)(L:a->ba)(H:a->Hp)(I:Nat->a->Prop)(R:a->Prop)(n:Nat)(s:a):Prop:=
 ∃p,ae ⟨F,L s,[],H s⟩ c (.e p)/\(p=true->∀K,(∀d e,d<n->I d e->K .a (L e) (H e))->aK F b (L s) K (H s))/\(p=false->R s)
def fP L H I(R:σ->Prop)(t:∀n s,I n s->gd F c b L H I R n s)
  n (s:σ) (l:I n s) (q:∀s,R s->aK F r (L s) K (H s)):aK F (.i c b::r) (L s) K (H s):=by
 have k:∀N n s,n<N->I n s->qT (λm' a=>xH F (λ_ _=>False) m' c a) (λm' a=>aK F b m' a) (e9 (λm' a=>aK F r m' a) K) N (L s) (H s):=by
  intro N;induction N with
  |zero=>exact λ_ _ h=>(lh _ h).elim
  |succ N m=>
   intro n s hn i;refine cw (t n s i) λp j f e=>?_;refine j _ _ ?_;induction p using Bool.casesOn with
   |false=>exact q s<|e V
   |true=>exact f V _ λo u g d=>m o u (bX g<|f6 hn) d
 exact⟨n+1,k _ n s (ec _) l⟩
def zU{n:Type}{u}{k}(x:eM ⟨F,m,[],H⟩ args vs)(y:dX k H vs=Y E)
  (L:n->ba) (d:Nat->n->Hp) (I:Nat->n->Prop) s (C:m=L s) (A:H=d 0 s) (B:I 0 s) (c:∀i s,I i s->eg k H (d i s) vs)
  (g:∀i v s,E[i]? =Y v->I i s->∀P,(∀M,I (i+1) M->P (L M) (d (i+1) M))->(match gn (L s) t u v with|some m'=>aK F b m' (WK P<|e9 (λm' a=>aK F r m' a) K) (d i s)|none=>False))
  (q:∀s,I E.length s->aK F r (L s) K (d E.length s)):aK F (.j t u k args b::r) m K H:=by
 refine x _ _ ?_;refine(?_:(match dX k H vs with
   |some E=>og (λN=>eg k H N vs) t u (λm' a=>aK F b m' a) _ E m H
   |aY=>False))
 refine U y ?_;have o:∀G j s,(∀i v,G[i]? =Y v->E[i+j]? =Y v)->G.length+j=E.length->I j s->og (λN=>eg k H N vs) t u (λm' a=>aK F b m' a) (e9 (λm' a=>aK F r m' a) K) G (L s) (d j s):=by
  intro G;induction G with
  |nil=>
   intro j s _ l e;rw[yF,cy]at l;subst l;exact⟨c _ s e,q s e⟩
  |cons v G D=>
   intro j s f l e;exact⟨c j s e,g j v s (by have:=f 0 v V;rwa[cy]at this) e _ λM p=>
    D _ M (λi w z=>by have:=f (i+1) w z;rwa[cG,bY]at this) (aP l (U j8 (U (cG _ _ _) (U (bY _ _ _) V)))) p⟩
 have:=o E 0 s (λi v h=>h) V B;rw[<-C,<-A]at this;exact this
def Fw{e:Type}{u}{k}(h:eM ⟨F,m,[],H⟩ args vs)(g:dX k H vs=Y items)
  (L:e->ba) (a:Nat->e->Hp) (I:Nat->e->Prop) s (p:m=L s) (n:H=a 0 s) (o:I 0 s) (c:∀i s,I i s->eg k H (a i s) vs)
  (d:∀i v s,items[i]? =Y v->I i s->∀f,(∀x,I (i+1) x->f .a (L x) (a (i+1) x))->(match gn (L s) t u v with|some m'=>aK F b m' f (a i s)|none=>False))
  (q:∀s,I items.length s->aK F r (L s) K (a items.length s)):aK F (.j t u k args b::r) m K H:=
 zU h g L a I s p n o c (λi v s w l y j=>d i v s w l _ j) q
def mO{u α:Type}{y}{x}{l}f(A:ae ⟨F,m,[],H⟩ x w)(B:cf H w=Y (l.map f))
  (L:u->ba) (d:List α->u->Hp) (I:List α->List α->u->Prop) s (N:m=L s) (C:H=d [] s) (D:I [] l s) (j:∀p q s,I p q s->cf (d p s) w=cf H w)
  (k:∀p c q s,l=p++c::q->I p (c::q) s->∀o,(∀M,I (p++[c]) q M->o .a (L M) (d (p++[c]) M))->(match gn (L s) t y (f c)with|some m'=>aK F b m' o (d p s)|none=>False))
  (q:∀s,I l [] s->aK F r (L s) K (d l s)):aK F (.j t y .a [x] b::r) m K H:=by
 refine Fw (λE Q q=>A E _ q) B L (λi=>d<|l.take i) (λi s=>I (l.take i) (l.drop i) s) s N C D (λi s=>j _ _ s) (λi v s a g o G=>?_) λs g=>?_
 ·have a:=gh▸a;cases n:l[i]? with
  |none=>rw[n]at a;exact aS a
  |some c=>
   rw[n]at a;(have a:=bz a;subst a);have e:l.drop i=c::l.drop (i+1):=U (oY<|(et.mp n).1)<|U (et.mp n).2 V;have z:l.take (i+1)=l.take i++[c]:=by refine U vv<|U n ?_;rfl
   exact k _ c _ s (aP e<|U (oV _ _) V) (e▸g) o λM h=>z▸G M (by exact U z<|h)
 ·refine U (bx _) (U il ?_);have g:=g;rw[bx,il,vM]at g;exact q s g
def ct(b:prog f=Y a)(c:a.d args=Y m)(h:aK (aR prog n) a.e m (e7 Q E) H):aR prog (n+1) f args Q E H:=by refine(?_:(match prog f with|some a=>(match a.d args with|some m=>aK _ a.e m _ H|aY=>False)|aY=>False));refine U b ?_;refine(?_:(match a.d args with|some m=>aK _ a.e m _ H|aY=>False));refine U c ?_;exact h
end
def Hp.aq.h(H:Hp):H.aq H:=λ_ _ e=>e
end bc
end
section
set_option backward.match.sparseCases false
namespace bc
noncomputable def gN(l:List Int)(i:Nat):Int:=l.getD i 0
noncomputable def gB(l:List Bool)(i:Nat):Bool:=l.getD i false
noncomputable def eS(A B:Nat->Int)(x y n:Nat):Prop:=∀i,i<n->A (x+i)=B (y+i)
noncomputable def ks(A:Nat->Int)(G:Nat->Bool):Nat->Nat->List Int
 |_,0=>[]
 |x,n+1=>if G x then ks A G (x+1) n else A x::ks A G (x+1) n
noncomputable def lU(G:Nat->Bool)(x n:Nat):Prop:=∀i,i<n->G (x+i)=false
def z4(h:0<x):x-1+(j+1)=x+j:=U (fh j 1)<|aP (bY _ _ _)<|U (cb h) V
section
variable {A B:Nat->Int}{G C G' C':Nat->Bool}{x y n m k j:Nat}
def eS.b:eS A B x y 0:=λi h=>(lh _ h).elim
def eS.c(h:eS A B x y n)(e:A (x+n)=B (y+n)):eS A B x y<|n+1:=λi a=>
 (mf.mp a).elim (h i) λk=>by exact U k<|e
def eS.d(h:eS A B (x+1) (y+1) n)(e:A x=B y):eS A B x y (n+1)
 |0,_=>e
 |i+1,a=>by refine U (cG x i 1)<|U (cG y i 1) ?_;exact h i<|oR a
def lU.c(h:lU G x<|n+m):lU G x n:=λi a=>h i<|bX a<|bj _ _
def lU.b(h:lU G x<|n+m):lU G (x+n) m:=λi a=>by exact U (bY _ _ _)<|h _<|dR a n
def kv:ks A G x (n+m)=ks A G x n++ks A G (x+n) m:=by
 induction n generalizing x with
 |zero=>refine U (cy _) ?_;rfl
 |succ n i=>
  refine U (cG _ _ _)<|U (cG x n 1) ?_;refine(?_:(if G x then ks A G _ _ else A x::ks A G _ _)=(if G x then ks A G _ n else A x::ks A G _ n)++_);refine U i ?_;cases G x<;>rfl
def xe(h:∀i,i<n->G (x+i)=true):ks A G x n=[]:=by
 induction n generalizing x with
 |zero=>rfl
 |succ n a=>
  refine(?_:(if G x then ks A G _ n else A x::ks A G _ n)=[]);refine U (h 0<|fU _) ?_;exact a λi b=>by exact U (cG _ _ _)<|h (i+1)<|ij b
def mS(h:∀i,i<n->G (x+i)=G' (x+i)):ks A G x n=ks A G' x n:=by
 induction n generalizing x with
 |zero=>rfl
 |succ n a=>
  refine(?_:(if G x then ks A G _ n else A x::ks A G _ n)=(if G' x then ks A G' _ n else A x::ks A G' _ n));exact U (show G x=G' x from h 0<|fU _)<|U (a λi b=>by exact U (cG _ _ _)<|h (i+1)<|ij b) V
def xd(h:eS A B x y n)(c:lU G x n)(b:lU C y n):ks A G x n=ks B C y n:=by
 induction n generalizing x y with
 |zero=>rfl
 |succ n d=>
  refine(?_:(if G x then ks A G _ n else A x::ks A G _ n)=(if C y then ks B C _ n else B y::ks B C _ n));refine U (c 0<|fU _)<|U (b 0<|fU _)<|U (h 0<|fU _) ?_;exact congrArg (B y::·)<|d (λi a=>by refine U (cG x _ _)<|U (cG y _ _) ?_;exact h _<|ij a) (λi a=>by exact U (cG _ _ _)<|c _<|ij a) λi a=>by exact U (cG _ _ _)<|b _<|ij a
end
abbrev Pt:=Nat×Nat×Nat×Nat
noncomputable def AI(A B:Nat->Int)(G C:Nat->Bool):Nat->Nat->List Pt->Prop
 |x,y,[]=>ks A G 0 x=ks B C 0 y
 |x,y,(l,n,o,m)::W=>∃p q,(l+n+p=x/\o+m+q=y)/\(lU G l n/\lU C o m)/\ks A G (l+n) p=ks B C (o+m) q/\AI A B G C l o W
section
variable {A B:Nat->Int}{G C G' C':Nat->Bool}{x y p q l n o m k j f m':Nat}{W:List Pt}
def AI.L(h:AI A B G C x y W)(e:ks A G x p=ks B C y q):AI A B G C (x+p) (y+q) W:=by
 match W,h with
 |[],h=>refine(?_:ks A G 0 _=ks B C 0 _);exact U kv<|U kv<|U (cy _)<|U (cy _)<|U (h)<|U e V
 |(l,n,o,m)::W,⟨b,g,f,c,a,d⟩=>
  refine eX _ _ ⟨by exact aP (bY _ _ _)<|U f.1 V,by exact aP (bY _ _ _)<|U f.2 V⟩ c ?_ d;exact U kv<|U kv<|U f.1<|U f.2<|U a<|U e V
def AI.M(e:∀i,i<x->G i=G' i)(d:∀i,i<y->C i=C' i)(h:AI A B G C x y W):AI A B G' C' x y W:=by
 induction W generalizing x y with
 |nil=>
  refine(?_:ks A G' 0 x=ks B C' 0 y);refine aP (mS λi c=>e (0+i)<|by refine U (cy _)<|c) (aP (mS λi c=>d (0+i)<|by refine U (cy _)<|c) ?_);exact h
 |cons P W l=>
  refine eh h λp q n g k m=>?_;have a:=n.1▸aE (bj _ _) (bj _ _);have b:=n.2▸aE (bj _ _) (bj _ _);have f:∀i,i<P.2.1+p->P.1+i<x:=λi c=>n.1▸bY _ _ _▸dR c _;have j:∀i,i<P.2.2.2+q->P.2.2.1+i<y:=λi c=>n.2▸bY _ _ _▸dR c _;refine eX p q n ⟨λi c=>(e _<|f i<|bX c<|bj _ _).symm.trans<|g.1 i c,λi c=>(d _<|j i<|bX c<|bj _ _).symm.trans<|g.2 i c⟩ ?_<|l (λi c=>e i<|bX c a) (λi c=>d i<|bX c b) m;refine aP (mS λi c=>e _<|by refine U (bY _ _ _)<|f _<|dR c _) (aP (mS λi c=>d _<|by refine U (bY _ _ _)<|j _<|dR c _) ?_);exact k
def AI.T(h:AI A B G C x y<|(l,n,o,m)::W)(g:∀i,G' i=(decide (l<=i/\i<l+n)||G i))(c:∀i,C' i=(decide (o<=i/\i<o+m)||C i)):AI A B G' C' x y W:=by
 refine eh h λp q k f d e=>?_;have j:∀{G G':Nat->Bool}{a n},(∀i,G' i=(decide (a<=i/\i<a+n)||G i))->(∀i,i<a->G i=G' i)/\(∀i,i<n->G' _=true)/\∀p i,i<p->G _=G' (a+n+i):=λg=>
  (bW (λi b=>by refine U (g _)<|U (decide_eq_false λh=>dj.mpr h.1 b) ?_;rfl) (λi b=>by refine U (g _)<|U (decide_eq_true ⟨bj _ _,dR b _⟩) ?_;rfl) λp i b=>by refine U (g _)<|U (decide_eq_false λh=>dj.mpr (bj _ _) h.2) ?_;rfl)
 have:=((e.M (j g).1 (j c).1).L<|(xe (j g).2.1).trans (xe (j c).2.1).symm).L<|by refine aP (mS<|(j g).2.2 p)<|aP (mS<|(j c).2.2 q) ?_;exact d
 rw[k.1,k.2]at this;exact this
def AI.R(h:AI A B G C x y<|(l,k+f+j,o,k+m'+j)::W)(d:eS A B l o k)(e:eS A B (l+k+f) (o+k+m') j):AI A B G C x y<|(l+k,f,o+k,m')::W:=by refine eh h λp q g a b c=>?_;rw[<-bY,<-bY,<-bY,<-bY]at g b;have u:=a.1.c;have v:=a.2.c;refine eX _ _ ⟨by refine aP (bY _ _ _)<|g.1,by refine aP (bY _ _ _)<|g.2⟩ ⟨u.b,v.b⟩ ?_<|c.L<|xd d u.c v.c;exact U kv<|U kv<|U b<|U (xd e (U (bY _ _ _)<|a.1.b)<|U (bY _ _ _)<|a.2.b) V
def AI.D(h:AI A B G C x y<|(l,n1+s+n2,o,m1+s+m2)::W)(d:eS A B (l+n1) (o+m1) s):AI A B G C x y<|(l+n1+s,n2,o+m1+s,m2)::(l,n1,o,m1)::W:=by refine eh h λp q e a b c=>?_;rw[<-bY,<-bY,<-bY,<-bY]at e b;have u:=a.1.c;have v:=a.2.c;exact⟨p,q,e,⟨by exact U (bY l _ _)<|a.1.b,by exact U (bY o _ _)<|a.2.b⟩,b,s,s,⟨V,V⟩,⟨u.c,v.c⟩,xd d u.b v.b,c⟩
end
def wV(h:0<n)(l:n<=m):n-1<m:=bX (l9 h kZ) l
def jT[Decidable a][Decidable b][Decidable c](h:(decide a&&(decide b&&decide c))=true):a/\b/\c:=by simp only[lu,decide_eq_true_eq]at h;exact h
def KU[Decidable a][Decidable b][Decidable c](h:(decide a&&(decide b&&decide c))=false)(x:a)(y:b):¬c:=λk=>by rw[decide_eq_true x,decide_eq_true y,decide_eq_true k]at h;exact aV h
def jM{α:Type}{A:List α}{d}(h:n<A.length):A[n]? =Y (A.getD n d):=by refine U j9<|U (hU h) ?_;rfl
end bc
end
section
set_option backward.match.sparseCases false
namespace bc
open P
section
variable {g:Gm}{x y:X}{a b n:Nat}{mu:Bool}{u:AV}
def fi(h:ae g x<|.g<|A.map .c)(k:ae g y<|.c n)(l:n<A.length):ae g (.l x y)<|.c<|gN A n:=v9 h V k<|by rw[gh,jM l];rfl
def Eb(h:ae g x u)(o:cf g.H u=Y (G.map .e))(k:ae g y<|.c n)(l:n<G.length):ae g (.l x y)<|.e<|gB G n:=v9 h o k<|by rw[gh,jM l];rfl
def q7{A:List Int}(h:ae g x<|.g<|A.map .c):ae g (.r .b [x])<|.c A.length:=by have:=lx h V;rwa[bx]at this
def e6(h:ae g x<|.c a)(k:ae g y<|.c b):ae g (.h .d x y)<|.e<|decide (a<b):=by have:=wc h k;simpa only[yN]using this
def hV(h:ae g x<|.c a)(k:ae g y<|.c b):ae g (.h .f x y)<|.e<|decide (b<a):=by have:=En h k;simpa only[yN]using this
def Ek(h:ae g x<|.c a)(k:ae g y<|.c b):ae g (.h .j x y)<|.e<|decide (a<=b):=by have:=zk h k;simpa only[pb]using this
def gu(h:ae g x<|.c a)(k:ae g y<|.c b):ae g (.h .a x y)<|.e<|decide (a=b):=by have:=i6 h k;simpa only[i4]using this
def ip(h:ae g x<|.c n)(l:0<n):ae g (.j .b mu x<|.e<|.c 1)<|.c (n-1:Nat):=by
 induction n using Nat.casesAuxOn with
 |zero=>exact(dk _ l).elim
 |succ n=>exact Ed h
end
section
variable {F:cF}{m:ba}{K:FK}{H:Hp}{r:List S}{x y z:X}{i n:Nat}{a:Nat}{v:AV}{l:List AV}
def FF(e:m[i]? =Y (Y<|.c n))(l:0<n)(q:aK F r (m.set i<|Y<|.c (n-1:Nat)) K H):aK F (.m (.b i) .b (.e<|.c 1)::r) m K H:=by
 induction n using Nat.casesAuxOn with
 |zero=>exact(dk _ l).elim
 |succ n=>exact Rt e q
def iP(h:cP.aq H)(q:Q .k cP):e7 Q E .a m H:=aO cP h q
def cD(h:cP.aq H)(q:Q v cP):e7 Q E (.c v) m H:=aO cP h q
def zS(e:ae ⟨F,m,[],H⟩ x v)(h:ae ⟨F,m,[],H⟩ y<|.f a)(d:ae ⟨F,m,[],H⟩ z<|.c n)(b:H a=Y (.b l))(c:n<l.length)(q:aK F r m K<|H.ag a<|.b<|l.set n v):aK F (.d (.e y z) x::r) m K H:=
 e _ _ (h _ _<|d _ _<|qg b<|bQ _ _ V (tK c) q)
def nV(c:ae ⟨F,m,[],H⟩ y<|.f a)(d:ae ⟨F,m,[],H⟩ x v)(h:H a=Y (.b l))(b:l.length<sz)(q:aK F r m K<|H.ag a<|.b<|l++[v]):aK F (.e (.r .a [y,x])::r) m K H:=
 c _ _ ⟨gc a _ V h,d _ _<|dG a v _ V h b q⟩
def wQ(l:Nat):∀n k,(fm n l 1)[k]? =if k<n then Y ((l+k:Nat):Int)else O:=by
 intro n;induction n generalizing l with
 |zero=>intro k;rfl
 |succ n i=>
  intro k;induction k using Nat.casesAuxOn with
  |zero=>rfl
  |succ k=>
   refine U (i _ k)<|U (cG _ _ _) ?_;by_cases h:k<n;·refine U (if_pos h)<|U (if_pos<|ij h) ?_;rfl
   ·exact U (if_neg h)<|U (if_neg λa=>h<|oR a) V
def zX l:∀n,(fm n l 1).length=n:=by
 intro n;induction n generalizing l with
 |zero=>rfl
 |succ n i=>exact congrArg _<|i _
def wO(l n:Nat):hZ l (l+n:Nat) 1=fm n l 1:=by unfold hZ;exact U (if_pos<|by decide)<|U (show((((l+n:Nat):Int)-l+1-1)/1).toNat=n by refine U (qQ _ _)<|U (DT _)<|U (vQ _ _)<|U (Int.add_comm _ _)<|U (qQ _ _) ?_;rfl) V
def pF{f:Type}{w:Nat}(p:eM ⟨F,m,[],H⟩ args [.c w,.c (w+n:Nat)])(j:w+n<=sz)
  (L:f->ba) (d:Nat->f->Hp) (I:Nat->f->Prop) s (l:m=L s) (u:H=d 0 s) (o:I 0 s)
  (c:∀k s,k<n->I k s->∀g,(∀x,I (k+1) x->g .a (L x) (d (k+1) x))->aK F b ((L s).set t<|Y<|.c (w+k:Nat)) g (d k s))
  (q:∀s,I n s->aK F r (L s) K (d n s)):aK F (.j [t] false .b args b::r) m K H:=by
 refine Fw p (items:=(fm n w 1).map .c) ?_ L d I s l u o (λ_ _ _=>trivial) (λi v s a e=>?_) λs e=>?_
 ·refine(?_:(if((w:Int).natAbs<=sz/\((w+n:Nat):Int).natAbs<=sz)then Y _ else O)=_);exact U (if_pos ⟨aE (bj _ _) j,j⟩)<|U (wO _ _) V
 ·rw[gh,wQ]at a;by_cases h:i<n;·rw[if_pos h]at a;(have a:=bz a;subst a);exact c i s h e
  ·rw[if_neg h]at a;exact aS a
 ·rw[bx,zX]at e |- ;exact q s e
end
def Hp.t(H:Hp)a o:(H.ag a o) a=Y o:=if_pos V
def Hp.I(H:Hp)o(h:x≠a):(H.ag a o) x=H x:=if_neg h
def Hp.ao(H:Hp)(h:H a=Y o):H.ag a o=H:=funext λx=>by
 unfold Hp.ag;by_cases e:x=a;·exact U (if_pos e)<|U e<|U h V
 ·exact U (if_neg e) V
def Hp.ak(H:Hp)a o b:(H.ag a o).ag a b=H.ag a b:=funext λx=>by
 unfold Hp.ag;by_cases e:x=a;·exact U (if_pos e)<|U (if_pos e) V
 ·exact U (if_neg e)<|U (if_neg e)<|U (if_neg e) V
noncomputable def pv(r n u m:Nat):AV:=.l [.c r,.c (r+n:Nat),.c u,.c (u+m:Nat)]
structure TR(A B:List Int)(r n u m k n' m' j:Nat):Prop where
 e:n=k+n'+j/\m=k+m'+j
 d:eS (gN A) (gN B) r u k
 q:eS (gN A) (gN B) (r+k+n') (u+k+m') j
 f:0<n'->0<m'->gN A (r+k)≠gN B (u+k)
 l:0<n'->0<m'->gN A (r+k+n'-1)≠gN B (u+k+m'-1)
def ft(h:a<b):0<b:=cH (cB _) h
def F4{x k p n:Nat}(h:k+p=n)(l:x+k<x+n):0<p:=qG<|h.symm▸oS l
def tI(h:z=x+p)(l:x<z):0<p:=qG<|h▸l
def EJ{x k p n:Nat}(h:k+p=n)(l:x+k<x+n):k+1+(p-1)=n:=by refine U (bY _ _ _)<|U (eT<|F4 h l) ?_;exact h
def z0(h:z=x+p)(l:x<z):z-1=x+(p-1):=U h<|U (sE (tI h l) _) V
def F2(h:k+p+j=n)(l:0<p):k+(p-1)+(j+1)=n:=by refine U (bY _ _ _)<|U (z4 l)<|aP (bY _ _ _) ?_;exact h
def F3(h:k+p=n)(a:k+p'+j=n)(l:0<p'):0<p:=by rw[<-h,bY]at a;exact ll a▸bX l (bj _ _)
noncomputable def fj(A B:List Int)(w:Nat)(g c:AV):Option AO:=Y<|.bF 2 w [.g<|A.map .c,.g<|B.map .c,g,c]
section
variable {A B:List Int}{r n u m k:Nat}{x y:AV}{v w:Nat}{H:Hp}{F:cF}
noncomputable def Cv(v r n u m x b y a:Nat):ba:=[Y<|.f v,Y<|pv r n u m,Y<|.c x,Y<|.c b,Y<|.c y,Y<|.c a]
noncomputable def Cw(A B:List Int)(r n u m p:Nat)(s:Nat×Nat):Prop:=(s.1+p=n/\s.1+s.2=m)/\eS (gN A) (gN B) r u s.1
def O0(g:H v=fj A B w x y)(j:r+n<=A.length)(l:u+m<=B.length)p s(h:Cw A B r n u m p s):
  gd F Hb HD (λs=>Cv v r n u m (r+s.1) (r+n) (u+s.1)<|u+m) (λ_=>H) (Cw A B r n u m)
   (λs=>∃p,Cw A B r n u m p s/\(0<p->0<s.2->gN A (r+s.1)≠gN B (u+s.1))) p s:=by
 refine(cq _ (kc (e6 J J) λe=>d4 (e6 J J) λf=>
  i6 (fi (cL J g V) J (bX (of_decide_eq_true e) j)) (fi (cL J g V) J (bX (of_decide_eq_true f) l))) (λd K i=>iN V aL (iN V aL (bO ?_))) λd=>(aO p h λe f=>KU d (dR (h.1.1▸i0 e) _) (dR (h.1.2▸i0 f) _)))
 exact(jT d).elim λa b=>b.elim λb c=>i _ (s.1+1,s.2-1) (l9 (F4 h.1.1 a) kZ) ⟨⟨EJ h.1.1 a,EJ h.1.2 b⟩,h.2.c c⟩
noncomputable def Cy(A B:List Int)(r n u m k:Nat)(p:Nat)(s:Nat×Nat×Nat):Prop:=(k+p+s.2.2=n/\s.1=r+k+p)/\(∃a,k+a+s.2.2=m/\s.2.1=u+k+a)/\eS (gN A) (gN B) s.1 s.2.1 s.2.2
def OZ(i:H v=fj A B w x y)(o:r+n<=A.length)(l:u+m<=B.length)p s(h:Cy A B r n u m k p s):
  gd F Ha HB (λs=>Cv v r n u m (r+k) s.1 (u+k) s.2.1) (λ_=>H) (Cy A B r n u m k)
   (λs=>∃p,Cy A B r n u m k p s/\(r+k<s.1->u+k<s.2.1->gN A (s.1-1)≠gN B (s.2.1-1))) p s:=by
 refine(cq _ (kc (e6 J J) λe=>d4 (e6 J J) λf=>
  i6 (fi (cL J i V) (ip J (ft (of_decide_eq_true e))) (wV (ft (of_decide_eq_true e)) (h.1.2▸aE (bY r _ _▸ff (h.1.1▸bj _ _) _) o))) (fi (cL J i V) (ip J (ft (of_decide_eq_true f))) (wV (ft (of_decide_eq_true f)) (h.2.1.elim λq h=>h.2▸aE (bY u _ _▸ff (h.1▸bj _ _) _) l)))) (λd K j=>FF V (ft (jT d).1) (FF V (ft (jT d).2.1) (bO ?_))) λd=>(aO p h λe f=>KU d e f))
 exact(jT d).elim λa b=>b.elim λb c=>j _ (s.1-1,s.2.1-1,s.2.2+1) (l9 (tI h.1.2 a) kZ)<|bW ⟨F2 h.1.1<|tI h.1.2 a,z0 h.1.2 a⟩ (h.2.1.elim λq g=>aO _ (F2 g.1<|tI g.2 b)<|z0 g.2 b)<|eS.d (by refine U (cb<|ft a)<|U (cb<|ft b) ?_;exact h.2.2) c
def OY{z c:Nat}{Q:VK}(d:eS (gN A) (gN B) r u k)(f:0<p'->0<o->gN A (r+k)≠gN B (u+k))(h:k+p'+j=n/\z=r+k+p')(g:k+o+j=m/\c=u+k+o)
  (i:eS (gN A) (gN B) z c j) (l:r+k<z->u+k<c->gN A (z-1)≠gN B (c-1)) (q:∀k e o j,TR A B r n u m k e o j->Q (pv (r+k) e (u+k) o) H):Q (.l [.c (r+k:Nat),.c z,.c (u+k:Nat),.c c]) H:=by
 cases h.2;cases g.2;exact q k p' o j ⟨⟨h.1.symm,g.1.symm⟩,d,i,f,λa b=>l (i0 a)<|i0 b⟩
def zA(e:H v=fj A B w x y)(c:r+n<=A.length)(l:u+m<=B.length)
  (q:∀k d o j,TR A B r n u m k d o j->Q (pv (r+k) d (u+k) o) H):aR prog (N+1) 5 [.f v,pv r n u m] Q E H:=by
 refine ct V V<|tA J<|fP _ (λ_=>H) _ _ (O0 e c l) n (0,m) ⟨⟨cy _,cy _⟩,.b⟩ λs h=>h.elim λp h=>?_;refine fP (λt=>Cv v r n u m _ t.1 _ t.2.1) (λ_=>H) _ _ (OZ e c l) p (r+n,u+m,0)
  (bW ⟨h.1.1.1,h.1.1.1▸(bY _ _ _).symm⟩ (aO s.2 h.1.1.2<|h.1.1.2▸(bY _ _ _).symm) .b) λt i=>cQ (cO<|bt J<|bt J<|bt J<|cJ J)<|cD (.h _) ?_
 exact i.elim λf i=>i.1.2.1.elim λo g=>OY h.1.2 (λa b=>h.2 (F3 h.1.1.1 i.1.1.1 a)<|F3 h.1.1.2 g.1 b) i.1.1 g i.1.2.2 i.2 q
end
def Hp.ah{H:Hp}(h:H a=O)o:H.aq<|H.ag a o:=λx p e=>by rw[Hp.I];exact e;intro k;rw[k,h]at e;exact aS e
def Hp.aC{H:Hp}(h:H a=O)o:(H.ag a o).aB a=H:=funext λx=>by
 unfold Hp.aB Hp.ag;by_cases e:x=a;·exact U (if_pos e)<|U e<|U h V
 ·exact U (if_neg e)<|U (if_neg e) V
def dT(h:H a=Y (.b l)):cf H (.f a)=Y l:=congrArg (λx=>x.bind AO.s) h
def R2(o:cf H (.f d)=Y l):H d=Y (.b l):=by exact aH (ob o) λt e a=>e.trans<|congrArg Y<|AO.p a
def G6{H b}{v}{l}(s:H.aq b)(h:cf H v=Y l):cf b v=Y l:=by
 induction v using bc.AV.casesOn with
 |g c=>exact h
 |f a=>exact dT<|s _ _<|R2 h
 |_=>exact aS h
section
variable {g:Gm}{F:cF}{m:ba}{K:FK}{H:Hp}{r:List S}{x y z:X}{i:Nat}{a C f j:Nat}{v w:AV}{c l:List AV}
def qY(h:eM g xs vs)(k:∀a f E Q,g.H a=O->Q .k (g.H.ag a<|.bF C f c)->g.F (gS C) (.f a::vs) Q E (g.H.ag a<|.bF C f [])):ae g (.E C false xs)<|.n C c:=λE Q q=>h E _ λa f b=>k a f E _ b (by exact KJ (Hp.t _ _ _)<|U (Hp.aC b _)<|q)
def dF(d:ae ⟨F,m,[],H.ag a<|.bF C f c⟩ x v)(h:m[i]? =Y (Y<|.f a))(b:j=c.length)(q:aK F r m K<|H.ag a<|.bF C f<|c++[v]):aK F (.d (.c C j<|.d i) x::r) m K<|H.ag a<|.bF C f c:=
 d _ _ (J (g:=⟨F,m,[],H.ag a _⟩) h (λ_ _=>True) _ (by exact rY (Hp.t _ _ _) b<|U (Hp.ak _ _ _ _)<|q))
def lD(h:eM ⟨F,m,[],H⟩ xs l)(b:l.length<=sz)(q:∀a,H a=O->aK F r (m.set i<|Y<|.f a) K (H.ag a<|.b l)):aK F (.d (.b i) (.m true xs)::r) m K H:=h _ _ ⟨b,q⟩
def pG{α:Type}(f:α->AV){l:List α}(c:α)(h:ae ⟨F,m,[],H.ag a<|.b<|l.map f⟩ y<|.f a)(d:ae ⟨F,m,[],H.ag a<|.b<|l.map f⟩ x<|f c)(b:l.length<sz)
  (q:aK F r m K<|H.ag a<|.b<|(l++[c]).map f):aK F (.e (.r .a [y,x])::r) m K (H.ag a<|.b<|l.map f):=
 nV h d (Hp.t _ _ _) (U (bx _)<|b) (by refine U (Hp.ak _ _ _ _) ?_;rw[cz]at q;exact q)
def Fp{α:Type}f{l:List α}c{n:Nat}(e:ae ⟨F,m,[],H.ag a<|.b<|l.map f⟩ x<|f c)(h:ae ⟨F,m,[],H.ag a<|.b<|l.map f⟩ y<|.f a)(d:ae ⟨F,m,[],H.ag a<|.b<|l.map f⟩ z<|.c n)(b:n<l.length)
  (q:aK F r m K<|H.ag a<|.b<|(l.set n c).map f):aK F (.d (.e y z) x::r) m K (H.ag a<|.b<|l.map f):=
 zS e h d (Hp.t _ _ _) (U (bx _)<|b) (by refine U (Hp.ak _ _ _ _)<|aP yD ?_;exact q)
def tC(b:m[i]? =Y (Y<|.f a))(h:H a=Y (.b l))(c:cP.aq H)(d:cP a=O)(q:Q (.g l) cP):aK F (.f (.z<|.d i)::r) m (e7 Q E) H:=
 J (g:=⟨F,m,[],H⟩) b (λ_ _=>True) _ (by refine I3 h ?_;exact(aO cP (λx o e=>by unfold Hp.aB;refine U (if_neg λk=>by rw[k,d]at e;exact aS e)<|c x o e) q))
end
noncomputable def mk(G:List Bool)(l:Nat):Nat->List Bool
 |0=>G
 |n+1=>(mk G l n).set (l+n) true
def jd:(mk G lo n).length=G.length:=by
 induction n with
 |zero=>rfl
 |succ n i=>refine(?_:((mk G lo n).set _ true).length=_);exact U mn<|U i V
def w3(h:lo+n<=G.length)i:gB (mk G lo n) i=(decide (lo<=i/\i<lo+n)||gB G i):=by
 induction n with
 |zero=>refine U (decide_eq_false λk=>dk _<|cH k.1 k.2) ?_;rfl
 |succ n a=>
  have b:lo+n<G.length:=h;refine(?_:((mk G lo n).set _ true).getD i false=_);refine U j9<|U qN<|U jd ?_;by_cases e:lo+n=i;·refine U (if_pos e)<|U (if_pos<|e▸b)<|U (decide_eq_true ⟨e▸bj _ _,e▸ec _⟩) ?_;rfl
  ·refine U (if_neg e) (aP j9 ?_);exact(a<|cI b).trans<|congrArg (·||_)<|decide_eq_decide.mpr ⟨λk=>⟨k.1,lj k.2⟩,λk=>⟨k.1,nF (f6 k.2)<|gr e⟩⟩
noncomputable def bl(G:List Bool):AO:=.b<|G.map .e
noncomputable def Hp.au(H:Hp)(g c:Nat)(G C:List Bool):Hp:=(H.ag g<|bl G).ag c<|bl C
def Hp.av(H:Hp)o p(h:a≠b):(H.ag a o).ag b p=(H.ag b p).ag a o:=funext λx=>by
 unfold Hp.ag;by_cases e:x=a;·exact U (if_pos e)<|U (if_pos e)<|U (if_neg λk=>h<|e.symm.trans k) V
 ·exact U (if_neg e)<|U (if_neg e) V
def Hp.ay(H:Hp)(h:g≠c):(H.au g c G C).au g c G' C'=H.au g c G' C':=by unfold Hp.au;exact U (Hp.av _ _ _<|gr h)<|U (Hp.ak _ _ _ _)<|U (Hp.ak _ _ _ _) V
structure Sh(H:Hp)(me f:Nat)(A B:List Int)(g c:Nat)(G C:List Bool):Prop where
 s:H me=fj A B f (.f g) (.f c)
 t:H g=Y (bl G)
 D:H c=Y (bl C)
 n:g≠c
 l:G.length=A.length/\C.length=B.length
 z:A.length<=sz/\B.length<=sz
section
variable {A B:List Int}{G C G' C':List Bool}{j n i m k:Nat}{s f g c:Nat}{H:Hp}{N:Nat}{E Q:VK}
def Sh.I(h:Sh H s f A B g c G C):s≠g:=λe=>by have:=h.s;rw[e,h.t]at this;cases this
def Sh.L(h:Sh H s f A B g c G C):s≠c:=λe=>by have:=h.s;rw[e,h.D]at this;cases this
def Sh.q(h:Sh H s f A B g c G C)(a:G'.length=G.length)(b:C'.length=C.length):Sh (H.au g c G' C') s f A B g c G' C':=
 ⟨by unfold Hp.au;refine U (Hp.I _ _ h.L)<|U (Hp.I _ _ h.I) ?_;exact h.s,by unfold Hp.au;exact U (Hp.I _ _ h.n)<|U (Hp.t _ _ _) V,Hp.t _ _ _,h.n,⟨a.trans h.l.1,b.trans h.l.2⟩,h.z⟩
noncomputable def U3(s j n b m:Nat)(o:Option AV):ba:=[Y<|.f s,Y<|pv j n b m,Y<|.c j,Y<|.c (j+n:Nat),Y<|.c b,Y<|.c (b+m:Nat),o]
def w9(h:Sh H s f A B g c G C)(e:j+n<=G.length)(d:i+m<=C.length)(q:Q .k<|H.au g c (mk G j n)<|mk C i m):aR prog (N+1) 6 [.f s,pv j n i m] Q E H:=by
 refine ct V V<|tA J<|pF (bB J J) (aE e<|h.l.1▸h.z.1) (U3 s j n i m) (λk _=>H.ag g<|bl<|mk G j k) (λ_ _=>True) O V (Hp.ao _ h.t).symm trivial (λk o b _ K a=>?_) λo _=>?_;·exact Fp AV.e true aL (cL J ((Hp.I _ _ h.I).trans h.s) V) J (U jd<|bX (dR b _) e)<|bO<|a _ trivial
 ·refine pF (bB J J) (aE d<|h.l.2▸h.z.2) _ (λk _=>H.au g c _<|mk C i k) (λ_ _=>True) o V (Hp.ao _<|(Hp.I _ _<|gr h.n).trans h.D).symm trivial (λk o b _ K a=>?_) λo _=>bO (iP (.h _) q);exact Fp AV.e true aL (cL J (h.q jd jd).s V) J (U jd<|bX (dR b _) d)<|bO<|a _ trivial
def y8(h:H s=fj A B f vg vc)(q:Q (pv 0 A.length 0 B.length) H):aR prog (N+1) 4 [.f s] Q E H:=by refine ct V V<|cQ (cO<|bt aL<|bt (q7<|cL J h V)<|bt aL<|bt (q7<|cL J h V) fN)<|aO H (.h H) ?_;unfold pv at q;rw[cy,cy]at q;exact q
end
noncomputable def d'(c:Pt):AV:=.n 0 [.c c.1,.c (c.1+c.2.1:Nat),.c c.2.2.1,.c (c.2.2.1+c.2.2.2:Nat)]
noncomputable def CP(R:Nat->Nat->Prop):Nat->Nat->List Pt->Nat->Nat->Prop
 |x,y,[],b,a=>x=b/\y=a
 |x,y,c::cs,b,a=>(∃k,(c.1=x+k/\c.2.2.1=y+k)/\(0<k\/x=0/\y=0)/\∀i,i<k->R (x+i) (y+i))/\(0<c.2.1\/0<c.2.2.2)/\CP R (c.1+c.2.1) (c.2.2.1+c.2.2.2) cs b a
noncomputable def CO(R:Nat->Nat->Prop)(n m:Nat)(cs:List Pt):Prop:=∃x y k,CP R 0 0 cs x y/\(x+k=n/\y+k=m)/\∀i,i<k->R (x+i) (y+i)
def CP.L(h:CP R x y cs x' y')(e:0<k\/x'=0/\y'=0)(d:∀i,i<k->R (x'+i) (y'+i))(b:0<p\/0<q):CP R x y (cs++[(x'+k,p,y'+k,q)]) (x'+k+p)<|y'+k+q:=by
 induction cs generalizing x y with
 |nil=>cases h.1;cases h.2;exact e8 (cq k ⟨V,V⟩ e d) b V V
 |cons c cs a=>exact bW h.1 h.2.1<|a h.2.2
noncomputable def nd(A:Nat->Int)(G:Nat->Bool)(a b:Nat)(κ:List Int)(p t:Nat):Prop:=∃d,(t=a+d/\d+p=b)/\ks A G t p=κ/\(0<d->G a=true)
section
variable {A B:Nat->Int}{G C:Nat->Bool}{n m a t:Nat}{κ:List Int}
def nd.b(h:nd A G a ki κ (p+1) t)(e:G t=true):nd A G a ki κ p<|t+1:=h.elim λd h=>
 (cq _ ⟨congrArg _ h.1.1,(cG d 1 p).trans h.1.2⟩ (by refine aP h.2.1<|(?_:_=if G t then _ else _);refine U e ?_;rfl) λ_=>by
  induction d using Nat.casesAuxOn with
  |zero=>cases h.1.1;exact e
  |succ d=>exact h.2.2 (fU _))
def VQ{p:Nat}(h:ks A G t p=ks B C t' q)(b:p=0\/G t=false)(a:q=0\/C t'=false)(c:0<p\/0<q):∃X q',p=X+1/\q=q'+1/\A t=B t'/\ks A G (t+1) X=ks B C (t'+1) q':=by
 induction p using Nat.casesAuxOn with
 |zero=>induction q using Nat.casesAuxOn with
  |zero=>exact(c.elim (dk _)<|dk _).elim
  |succ q=>
   have h:[]=if C t' then _ else _:=h
   rw[a.resolve_left<|qF _]at h;cases h
 |succ p=>induction q using Nat.casesAuxOn with
  |zero=>
   have h:(if G t then _ else _)=[]:=h;rw[b.resolve_left<|qF _]at h;cases h
  |succ q=>
   have h:(if G t then _ else A t::ks A G _ p)=if C t' then _ else B t'::ks B C _ q:=h
   rw[b.resolve_left<|qF _,a.resolve_left<|qF _]at h;have h:=i3 h;exact eX p q V V h.1 h.2
end
section
variable {A B:List Int}{G C:List Bool}{W dx a f:Nat}{vg vc:AV}{H:Hp}{N:Nat}{E Q:VK}{F:cF}
def V'(q:Q .k<|H.ag a<|.bF 0 dx [v,w,x,y]):aR prog (N+1) 1000 [.f a,v,w,x,y] Q E<|H.ag a<|.bF 0 dx []:=
 ct V V (dF J V V<|dF J V V<|dF J V V<|dF J V V<|bO<|iP (.h _) q)
def Sv(q:Q (pv c.1 c.2.1 c.2.2.1 c.2.2.2) H):aR prog (N+1) 1 [d' c] Q E H:=
 ct V V (cQ (cO<|bt (ew J V)<|bt (ew J V)<|bt (ew J V)<|bt (ew J V) fN)<|cD (.h _) q)
noncomputable def oq(W f t t':Nat)(u v:Option AV):ba:=[Y<|.f W,Y<|.f f,Y<|.c t,Y<|.c t',u,v]
def rl(h:t=a+d/\d+p=ki)(e:a+ki=n):t+p=n:=U h.1<|U (bY _ _ _)<|U h.2<|U e V
def aaC(c:H W=fj A B dx vg vc)(j:cf H vg=Y (G.map .e))(i:G.length=A.length)(e:a+ki=A.length)p t(h:nd (gN A) (gB G) a ki κ p t):
  gd F Hy Ie (λt=>oq W f t t' u v) (λ_=>H) (nd (gN A) (gB G) a ki κ) (λt=>∃p,nd (gN A) (gB G) a ki κ p t/\(0<p->gB G t=false)) p t:=by
 refine h.elim λd g=>(cq _ (d4 (e6 J<|q7<|cL J c V) λk=>Eb (cL J c V) j J<|i▸of_decide_eq_true k) (λb K m=>iN V aL<|bO ?_) λb=>(aO p h λl=>by rw[<-rl g.1 e,decide_eq_true<|i0 l]at b;exact b));induction p using Nat.casesAuxOn with
 |zero=>exact(dk _<|rl g.1 e▸of_decide_eq_true (ef.mp b).1).elim
 |succ p=>exact m p _ (ec _)<|h.b (ef.mp b).2
def aaB(c:H W=fj A B dx vg vc)(j:cf H vc=Y (C.map .e))(i:C.length=B.length)(e:a+ki=B.length)p t(h:nd (gN B) (gB C) a ki κ p t):
  gd F Hx Ic (λt=>oq W f t' t u v) (λ_=>H) (nd (gN B) (gB C) a ki κ) (λt=>∃p,nd (gN B) (gB C) a ki κ p t/\(0<p->gB C t=false)) p t:=by
 refine h.elim λd g=>(cq _ (d4 (e6 J<|q7<|cL J c V) λk=>Eb (cL J c V) j J<|i▸of_decide_eq_true k) (λb K m=>iN V aL<|bO ?_) λb=>(aO p h λl=>by rw[<-rl g.1 e,decide_eq_true<|i0 l]at b;exact b));induction p using Nat.casesAuxOn with
 |zero=>exact(dk _<|rl g.1 e▸of_decide_eq_true (ef.mp b).1).elim
 |succ p=>exact m p _ (ec _)<|h.b (ef.mp b).2
structure sa(A B:List Int)(G C:List Bool)(n t t':Nat)(cs:List Pt)(x y k p q:Nat):Prop where
 w:t=x+k/\t'=y+k
 s:t+p=A.length/\t'+q=B.length
 M:p+q=n
 K:CP (λi j=>gN A i=gN B j) 0 0 cs x y
 I:eS (gN A) (gN B) x y k
 P:ks (gN A) (gB G) t p=ks (gN B) (gB C) t' q
 R:0<k\/(x=0/\y=0)\/(0<p->gB G t=false)/\(0<q->gB C t'=false)
 D:cs.length+n<=A.length+B.length
noncomputable def sb(A B:List Int)(G C:List Bool)(n:Nat)(s:Nat×Nat×List Pt×Option AV×Option AV):Prop:=∃x y k p q,sa A B G C n s.1 s.2.1 s.2.2.1 x y k p q
section
variable {n t t' x y k p q d Z X q':Nat}{cs:List Pt}{u v:Option AV}
def JM(h:0<d\/0<Z):X+q'<d+X+(Z+q'):=b8 λb=>h.elim (λz=>aJ [_,_,_,_] [] [.l 1 (.c<|.a (.a (.a bA bo)<|.a bK aZ) aX)<|.c<|.a (.a bo aZ) aX,.l 1 (.c<|.a (.n 0) aX) bf] V b<|nl z) λz=>aJ [_,_,_,_] [] [.l 1 (.c<|.a (.a (.a bA bo)<|.a bK aZ) aX)<|.c<|.a (.a bo aZ) aX,.l 1 (.c<|.a (.n 0) aX) cM] V b<|nl z
theorem sa.L(h:sa A B G C n t t' cs x y k p q)(c:d+X=p)(e:Z+q'=q)(m:ks (gN A) (gB G) (t+d) X=ks (gN B) (gB C) (t'+Z) q')
  (r:0<d->gB G t=true) (o:0<Z->gB C t'=true) (j:0<X->gB G (t+d)=false) (l:0<q'->gB C (t'+Z)=false) (a:0<d\/0<Z):
  X+q'<n/\sb A B G C (X+q') (t+d,t'+Z,cs++[(t,d,t',Z)],u,v):=by
 have b:=h.M;rw[<-c,<-e]at b;have f:0<k\/x=0/\y=0:=h.R.elim .inl λg=>g.elim .inr λg=>(a.elim
  (λi=>aV<|(g.1<|c▸bX i (bj _ _)).symm.trans<|r i)
  λi=>aV ((g.2 (e▸bX i (bj _ _))).symm.trans (o i)))
 refine⟨b▸JM a,t+d,t'+Z,0,X,q',⟨V,V⟩,⟨by refine aP h.s.1<|aP c ?_;exact bY _ _ _,by refine aP h.s.2<|aP e ?_;exact bY _ _ _⟩,V,?_,.b,m,.inr<|.inr ⟨j,l⟩,?_⟩;·refine(?_:CP _ 0 0 (cs++[(t,d,t',Z)]) _ _);refine U h.w.1<|U h.w.2 ?_;exact h.K.L f h.I a
 ·refine U bZ<|U (cG _ _ _) ?_;exact aE (dR (b▸JM a) _) h.D
def sa.z(h:sa A B G C n t t' cs x y k p q)(j:0<p->gB G t=false)(l:0<q->gB C t'=false)(m:0<p\/0<q):
  ∃b,b<n/\sb A B G C b (t+1,t'+1,cs,u,v):=by
 refine eh (VQ h.P ((nH p).imp_right j) ((nH q).imp_right l) m) λo a f e g i=>?_;have d:=h.M;rw[f,e]at d;have c:o+a<n:=d▸Nat.add_lt_add (ec _) (ec _);refine⟨o+a,c,x,y,k+1,o,a,⟨congrArg _ h.w.1,congrArg _ h.w.2⟩,⟨by refine aP h.s.1<|U f ?_;exact cG t 1 o,by refine aP h.s.2<|U e ?_;exact cG t' 1 a⟩,V,h.K,
  h.I.c (by refine aP h.w.1 (aP h.w.2 ?_);exact g),i,.inl (fU _),aE (ff (cI c) _) h.D⟩
def aaA(T:H f=O)(I:H W=fj A B dx vg vc)(M:cf H vg=Y (G.map .e))(S:cf H vc=Y (C.map .e))(a0:G.length=A.length)(R:C.length=B.length)(a1:A.length+B.length<sz)
  (h:sa A B G C n t t' cs x y k p q) (L:t<A.length\/t'<B.length)
  (r:∀m s,m<n->sb A B G C m s->K .a (oq W f s.1 s.2.1 s.2.2.2.1 s.2.2.2.2) (H.ag f<|.b<|s.2.2.1.map d')):
  aK (aR prog<|N+1) AP (oq W f t t' u v) K (H.ag f<|.b<|cs.map d'):=by
 have o:=Hp.ah T<|.b<|cs.map d';refine jD (cO<|bB J J)<|fP (λc=>oq W f c t' _ _) (λ_=>_) _ _ (aaC (o _ _ I) (G6 o M) a0 h.s.1) p t (cq 0 ⟨V,cy _⟩ V λh=>(dk _ h).elim) λP i=>?_;refine i.elim λX i=>i.1.elim λd g=>fP (λc=>oq W f P c (Y _) _) (λ_=>_) _ _ (aaB (o _ _ I) (G6 o S) R h.s.2) q t' (cq 0 ⟨V,cy _⟩ h.P.symm λh=>(dk _ h).elim) λa2 j=>?_;refine j.elim λq' j=>j.1.elim λZ b=>cg (gL (hV J J) λ_=>hV J J) (λe=>?_) λe=>?_
 ·have:=h.L (u:=Y<|.c t) (v:=Y<|.c t') g.1.2 b.1.2 (by refine aP g.1.1<|aP b.1.1 ?_;exact g.2.1.trans b.2.1.symm) g.2.2 b.2.2 (g.1.1▸i.2) (b.1.1▸j.2)
   (((vU).mp e).imp (λh=>qG<|g.1.1▸of_decide_eq_true h) λh=>qG<|b.1.1▸of_decide_eq_true h)
  refine U g.1.1<|U b.1.1 ?_;exact pG d' _ J (qY (bt (J V)<|bt (J V)<|bt (J V)<|cJ<|J V) λa dx E Q _ q=>V' q) (cH (aE (bj _ _) h.D) a1)<|bT<|bO<|r _ _ this.1 this.2
 ·have e:=qS.mp e;have w:=dB (dj.mp<|of_decide_eq_false e.1)<|g.1.1▸bj _ _;have F:=dB (dj.mp<|of_decide_eq_false e.2)<|b.1.1▸bj _ _;have D:=i.2;have z:=j.2;have g:=g.1;have b:=b.1;rw[w]at D g;rw[F]at z b;refine U w<|U F ?_;exact(h.z ((ll<|(rl g h.s.1).trans h.s.1.symm)▸D) ((ll<|(rl b h.s.2).trans h.s.2.symm)▸z)<|L.imp (λl=>qG<|h.s.1▸l) λl=>qG<|h.s.2▸l).elim λm h=>iN V aL<|iN V aL<|bT<|bO<|r m _ h.1 h.2
end
def aaD(d:H f=O)(c:H W=fj A B dx vg vc)(e:cf H vg=Y (G.map .e))(m:cf H vc=Y (C.map .e))(l:G.length=A.length)(j:C.length=B.length)(i:A.length+B.length<sz)
  n s (h:sb A B G C n s):
  gd (aR prog<|N+1) Hz AP (λs=>oq W f s.1 s.2.1 s.2.2.2.1 s.2.2.2.2) (λs=>H.ag f<|.b<|s.2.2.1.map d') (sb A B G C)
   (λs=>∃n,sb A B G C n s/\¬s.1<A.length/\¬s.2.1<B.length) n s:=by
 have a:=(Hp.ah d<|.b<|s.2.2.1.map d') _ _ c;exact(cq _ (gL (e6 J<|q7<|cL J a V) λ_=>e6 J<|q7<|cL J a V) (λb K g=>h.elim λx h=>h.elim λy h=>h.elim λk h=>h.elim λp h=>h.elim λq h=>aaA d c e m l j i h ((vU.mp b).imp of_decide_eq_true of_decide_eq_true) g) λb=>cq n h (of_decide_eq_false (qS.mp b).1)<|of_decide_eq_false (qS.mp b).2)
def Ki(c:H W=fj A B dx vg vc)(b:cf H vg=Y (G.map .e))(o:cf H vc=Y (C.map .e))(l:G.length=A.length)(m:C.length=B.length)(d:A.length+B.length<sz)
  (e:ks (gN A) (gB G) 0 A.length=ks (gN B) (gB C) 0 B.length) (q:∀cs,CO (λi j=>gN A i=gN B j) A.length B.length cs->Q (.g<|cs.map d') H):aR prog (N+2) 7 [.f W] Q E H:=by
 refine ct V V (lD fN (cB _) λf a=>jD (cO<|bB aL aL) (fP (λs=>oq W f s.1 s.2.1 s.2.2.2.1 s.2.2.2.2) (λs=>H.ag f<|.b _) _ _ (aaD a c b o l m d) _ (0,0,[],O,O)
  ⟨0,0,0,A.length,B.length,⟨V,V⟩,⟨cy _,cy _⟩,V,⟨V,V⟩,.b,e,.inr (.inl ⟨V,V⟩),bb (cy _)⟩ λs h=>tC V (Hp.t _ _ _) (Hp.ah a _) a (q _ ?_)))
 exact h.elim λn h=>h.1.elim λx g=>g.elim λy g=>g.elim λk g=>g.elim λp g=>g.elim λX g=>lK x y k g.K ⟨aP g.w.1<|dB (g.s.1▸bj _ _)<|dj.mp h.2.1,aP g.w.2<|dB (g.s.2▸bj _ _)<|dj.mp h.2.2⟩ g.I
end
def Hp.aj{H:Hp}(s:H.aq H')(h:H a=O)o:H.aq<|H'.ag a o:=λx p e=>by rw[Hp.I];exact s x p e;intro k;rw[k,h]at e;exact aS e
def Hp.ne{H:Hp}{a b:Nat}{o:AO}(h:H a=Y o)(k:H b=O):a≠b:=λe=>by rw[e,k]at h;exact aS h
def Hp.al{H:Hp}(s:H.aq H')(h:H' a=O):H a=O:=by
 cases e:H a with
 |none=>rfl
 |some o=>rw[s _ _ e]at h;exact aS<|cc h
def Hp.aq.t{H H' c:Hp}(a:H.aq H')(b:H'.aq c):H.aq c:=λx o e=>b x o<|a x o e
abbrev KF:=Bool×List UInt8->Option AV
noncomputable def oy(f:KF)(F:Nat):Prop:=(∀k v,f k=Y v->∃j:Nat,v=.c j/\j<F)/\∀k a v,f k=Y v->f a=Y v->k=a
noncomputable def r8(f P:KF):Prop:=∀k v,f k=Y v->P k=Y v
noncomputable def tU(f:KF)(k:Bool×List UInt8)(v:AV):KF:=λx=>if x=k then Y v else f x
def xc{f:KF}{k x:Bool×List UInt8}{v w:AV}(h:tU f k v x=Y w):(x=k/\v=w)\/f x=Y w:=by
 unfold tU at h;by_cases q:x=k;·rw[if_pos q]at h;exact .inl ⟨q,bz h⟩
 ·rw[if_neg q]at h;exact .inr h
def oy.o{f:KF}{F:Nat}{k:Bool×List UInt8}(h:oy f F)(c:f k=O):oy (tU f k<|.c F) (F+1)/\r8 f (tU f k<|.c F):=by
 have n:∀z v,.c (F:Nat)=v->f z=Y v->False:=λz v b e=>(h.1 _ _ e).elim λj p=>by have:=b.trans p.1;injection this with this;exact dk _<|i4.mp this▸p.2
 exact⟨⟨λx v e=>(xc e).elim (λq=>aO F q.2.symm<|ec _) λe=>(h.1 _ _ e).imp λj p=>⟨p.1,lj p.2⟩,
  λx y v e a=>(xc e).elim (λq=>(xc a).elim (λd=>q.1.trans d.1.symm) λa=>(n _ _ q.2 a).elim) λe=>(xc a).elim (λd=>(n _ _ d.2 e).elim) λa=>h.2 _ _ _ e a⟩,
  λx v e=>(if_neg λq=>by rw[q,c]at e;exact aS e).trans e⟩
noncomputable def jG(H:Hp)(n R d s F:Nat)(f:KF)(N:Nat):Hp:=(H.ag n<|.bF 1 R [.f d,.f s,.c F]).ag d<|.g f N
def Th{H}{n R d s F u N S}{f P}(h:n≠d):jG (jG H n R d s F f N) n R d s u P S=jG H n R d s u P S:=by unfold jG;exact U (Hp.av _ _ _ h.symm)<|U (Hp.ak _ _ _ _)<|U (Hp.ak _ _ _ _) V
structure NS(H:Hp)(n R d s F:Nat)(f:KF)(N:Nat):Prop where
 c:H n=Y (.bF 1 R [.f d,.f s,.c F])
 p:H d=Y (.g f N)
 o:oy f F
section
variable {H:Hp}{n R d s F N u S:Nat}{f P:KF}
def NS.q(h:NS H n R d s F f N):n≠d:=λe=>by have:=h.c;rw[e,h.p]at this;cases this
def NS.t(h:NS H n R d s F f N):jG H n R d s F f N=H:=by unfold jG;exact U (Hp.ao _ h.c)<|U (Hp.ao _ h.p) V
def NS.to(h:NS H n R d s F f N)(i:oy P u):NS (jG H n R d s u P S) n R d s u P S:=⟨(Hp.I _ _ h.q).trans<|Hp.t _ _ _,Hp.t _ _ _,i⟩
end
section
variable {g:Gm}{F:cF}{m:ba}{K:FK}{H:Hp}{r:List S}{x y z:X}{i:Nat}{a b C R j n:Nat}{v w:AV}{e l:List AV}{f:KF}{k:Bool×List UInt8}{s:List UInt8}
def Ot(h:ae g x<|.d s):ae g (.r .p [x])<|.e true:=λE Q q=>h E _ ⟨trivial,⟨s,V,q⟩⟩
def Oq(h:ae g x<|.d s):ae g (.r .v [x])<|.e false:=λE Q q=>h E _ ⟨trivial,⟨s,V,q⟩⟩
def Oh(h:ae g x<|.l [.e t,.d s])(b:ae g y<|.f a)(o:g.H a=Y (.g f n)):ae g (.h .b x y)<|.e<|!(f (t,s)).isSome:=fW h b<|congrArg (sx (!·))<|A8 o
def Ea(h:ae g x<|.f a)(o:g.H a=Y (.g f n))(b:ae g y<|.l [.e t,.d s])(e:f (t,s)=Y v):ae g (.l x y) v:=λE Q q=>h E _<|b E _<|xU o<|bQ (t,s) _ V e q
def Rc(g:ae ⟨F,m,[],H⟩ x v)(d:ae ⟨F,m,[],H⟩ y<|.f a)(c:ae ⟨F,m,[],H⟩ z<|.l [.e t,.d s])(b:H a=Y (.g f n))(h:n<sz)(e:f (t,s)=O)
  (q:aK F r m K<|H.ag a<|.g (tU f (t,s) v)<|n+1):aK F (.d (.e y z) x::r) m K H:=
 g _ _ (d _ _<|c _ _<|qg b<|cq (t,s) V h<|by refine(?_:e9 _ K .a m<|H.ag a<|.g _<|n+if(f (t,s)).isSome then 0 else 1);refine U e<|q)
def Rp(d:ae ⟨F,m,[],H⟩ x v)(c:ae ⟨F,m,[],H⟩ y<|.f a)(b:H a=Y (.bF C R e))(h:j=e.length)(q:aK F r m K<|H.ag a<|.bF C R<|e++[v]):aK F (.d (.c C j y) x::r) m K H:=
 d _ _ (c _ _<|rY b h q)
def Ru(d:ae ⟨F,m,[],H⟩ y<|.f a)(b:H a=Y (.bF C R e))(h:e[j]? =Y (.c p))(f:ae ⟨F,m,[],H⟩ x<|.c q)(k:aK F r m K<|H.ag a<|.bF C R<|e.set j<|.c<|p+q):aK F (.m (.c C j y) .a x::r) m K H:=
 d _ _ (by refine KL b h ?_;exact f _ _ (rZ (mu:=false) (Q:=λv=>ke C j (.f a) v (e9 (λg c=>aK F r g c) K .a m)) (KH b (et.mp h).1 k)))
def gP(q:K (.c v) m H):e9 P K (.c v) m H:=q
def g8(h:∀E,den F E m [] x (λv a=>K (.c v) m a) H):aK F (.f x::r) m K H:=h _
def fQ(h:∀E,den F E m [] x (λv a=>aK F r (m.set i<|Y v) K a) H):aK F (.d (.b i) x::r) m K H:=h _
def eZ(h:ae ⟨F,m,mc,H⟩ x v)(c:lR H v=Y C)(a:eM ⟨F,m,mc,H⟩ xs vs)(k:F fn (v::vs) Q E H):den F E m mc (.o C fn x xs) Q H:=h E _ ⟨c,a E _ k⟩
def dP(h:eM ⟨F,m,mc,H⟩ xs vs)(k:F fn vs Q E H):den F E m mc (.p fn xs) Q H:=h E _ k
def dY(h:H a=Y (.bF C R e)):lR H (.f a)=Y C:=congrArg (λx=>x.bind AO.t) h
def ur{E Q}{L}{G i}{u}{α:Type}{ls}j(h:ae ⟨F,m,L,H⟩ i u)(n:cf H u=Y (ls.map j)){x}{k}{z}
  (I:List α->List AV->Hp->Prop) (B:I [] [] H) (s:∀p a C,I p a C->cf C u=cf H u)
  (t:∀p c q a C,ls=p++c::q->I p a C->∀M:Option AV->Hp->Prop,(∀o d,I (p++[c]) (match o with|some u=>a++[u]|none=>a) d->M o d)->
   (match gn (dC 8 aY) x k (j c)with
    |some f=>mW F (λ_ _=>False) m f true z (λb d=>(match b with
        |.e true=>den F (λ_ _=>False) m f G (λu=>M<|Y u) d
        |.e false=>M aY d
        |_=>False)) C
    |aY=>False))
  (q:∀a C,I ls a C->a.length<=sz/\Q (.g a) C):den F E m L (.u G x k .a [i] z) Q H:=by
 refine h E _ ?_;refine(?_:(match cf H u with|some D=>f3 (λC=>cf C u=cf H u) _ D [] (λl H=>l.length<=sz/\Q _ H) H|aY=>False));refine U n ?_;have y:∀p r a C,ls=p++r->I p a C->f3 (λC=>cf C u=Y (ls.map j))
   (λv K C=>(match gn (dC 8 aY) x k v with
      |some f=>mW F (λ_ _=>False) m f true z (λb d=>(match b with
        |.e true=>den F (λ_ _=>False) m f G (λu=>K<|Y u) d
        |.e false=>K aY d
        |_=>False)) C
      |aY=>False)) (r.map j) a (λl H=>l.length<=sz/\Q (.g l) H) C:=by
  intro p r;induction r generalizing p with
  |nil=>exact λa C e g=>⟨(s _ _ _ g).trans n,q a C<|by refine U e<|U (gJ _) ?_;exact g⟩
  |cons c r A=>exact λa C e g=>⟨(s _ _ _ g).trans n,t p c r a C e g _ λo d w=>A _ _ d (by refine U e<|U (f7 _ _ _) ?_;rfl) w⟩
 exact y [] ls [] H V B
end
section
variable {A B:List Int}{H:Hp}{N k:Nat}{E Q:VK}{n R d s F:Nat}{f:KF}{l:List UInt8}
def Tg(h:NS H n R d s F f N)(b:N<sz)(q:∀P u S(j:Nat),r8 f P->oy P u->P (false,l)=Y (.c j)->S<=N+1->Q (.c j) (jG H n R d s u P S)):
  aR prog (k+1) 2 [.f n,.d l] Q E H:=by
 refine ct V V<|cg (Ot<|J V) (λ_=>cv (cO<|bB (Oq<|J V)<|J V)<|cg (Oh (J V) (cL (J V) h.c V) h.p) (λe=>?_) λe=>?_) λe=>aV e
 ·have e:f (false,l)=O:=Option.isSome_eq_false_iff.mp (by simpa using e)|>C9.mp;refine Rc (cL (J V) h.c V) (cL (J V) h.c V) (J V) h.p b e ?_;refine Ru (J V) ((Hp.I _ _ h.q).trans h.c) V aL<|bT<|cQ (Ea (cL (J V) (Hp.t _ _ _) V) ((Hp.I _ _ h.q.symm).trans<|Hp.t _ _ _) (J V)<|if_pos V)<|gP<|cD (.h _) ?_;have:=q _ (F+1) (N+1) F (h.o.o e).2 (h.o.o e).1 (if_pos V)<|bN _;unfold jG at this;rw[<-Hp.av _ _ _ h.q.symm]at this;exact this
 ·have e:(f (false,l)).isSome=true:=by simpa using e
  refine aF (LQ.mp e) λv e=>?_
  (refine aH (h.o.1 _ _ e) λj a c=>?_;subst a)
  exact bT<|cQ (Ea (cL (J V) h.c V) h.p (J V) e)<|gP<|cD (.h _)<|h.t.symm▸q f F N j (λ_ _ h=>h) h.o e (mg _)
noncomputable def nv(f:KF)(l:List UInt8):Int:=match f (false,l)with|some (.c j)=>j|_=>0
def Gk{f P:KF}(h:r8 f P){j:Nat}(e:f (false,l)=Y (.c j)):nv P l=nv f l:=by unfold nv;exact U e<|U (h _ _ e) V
def Tf{T:List<|List UInt8}(h:NS H n R d s F f N)(C:N+T.length<sz)
  (q:∀P u S,r8 f P->oy P u->(∀l∈T,∃j:Nat,P (false,l)=Y (.c j))->S<=N+T.length->Q (.g<|(T.map<|nv P).map .c) (jG H n R d s u P S)):
  aR prog (k+2) 3 [.f n,.g<|T.map .d] Q E H:=by
 refine ct V V (g8 λM=>ur AV.d J V (λp g W=>∃P u S,W=jG H n R d s u P S/\r8 f P/\oy P u/\(∀l∈p,∃j:Nat,P (false,l)=Y (.c j))/\S<=N+p.length/\g=(p.map<|nv P).map .c)
  (lJ f F N h.t.symm (λ_ _ h=>h) h.o (λ_ h=>(dM h).elim) (bN _) V) (λ_ _ _ _=>V) (λp c r g W e m X K=>?_) λg W m=>?_)
 ·(refine lO m λP u S b A y t w i=>?_;clear m;subst b;subst i)
  have a:p.length<T.length:=by refine U e<|U bZ ?_;exact i0<|fU _
  refine eZ J (dY (h.to y).c) (cJ<|gv V)<|Tg (h.to y) (cH w<|gg (dR a _) C) λB o I j z L D G=>K _ _ ?_;refine lJ B o I (Th h.q) (λx v e=>z _ _<|A _ _ e) L (λl a=>?_) ?_ ?_
  ·refine bq (fM.mp a) (λa=>?_) λa=>?_;·exact(t l a).imp λj e=>z _ _ e
   ·cases dm.mp a;exact⟨j,D⟩
  ·refine U bZ<|aE G<|hS w 1
  ·refine U cz (U cz ?_);refine congr (congrArg _<|congrArg _<|sN λl a=>(t l a).elim λj e=>(Gk z e).symm) ?_;refine(?_:[AV.c j]=[.c _]);unfold nv;exact U D V
 ·(refine lO m λP u S b A y t w i=>?_;clear m;subst b;subst i)
  exact⟨by refine U (bx _)<|U (bx _) ?_;exact aE (cW _ _)<|cI C,cD (.h _)<|q P u S A y t w⟩
end
section
variable {g:Gm}{F:cF}{m mc:ba}{K:FK}{H:Hp}{r:List S}{x y z:X}{i:Nat}{a b C dx j n:Nat}{v w:AV}{o l:List AV}{E Q:VK}
def gj{α:Type}f{l:List α}(h:ae g x<|.g<|l.map f):ae g (.r .b [x])<|.c l.length:=by have:=lx h V;rwa[bx]at this
def pH(h:eM ⟨F,m,[],H⟩ xs vs)(k:∀a dx E Q,H a=O->(∀c,aK F r (m.set i<|Y<|.f a) K c->Q .k c)->F (gS C) (.f a::vs) Q E (H.ag a<|.bF C dx [])):aK F (.d (.b i) (.E C true xs)::r) m K H:=
 h _ _ λa dx b=>k a dx _ _ b λc h=>h
def Fy(b:m[i]? =Y (Y<|.f a))(h:∀E Q,(∀v e dx o,e a=Y (.bF C dx o)->j=o.length->aK F r m K (e.ag a<|.bF C dx<|o++[v])->Q v e)->den F E m [] x Q H):aK F (.d (.c C j<|.d i) x::r) m K H:=
 h _ _ λv e dx o c d q=>J (g:=⟨F,m,[],e⟩) b (λ_ _=>True) _<|rY c d q
def Fq(p:ae ⟨F,m,[],H⟩ x<|.e c)(k:ae ⟨F,m,[],H⟩ z<|.c n)(f:n<=sz)(e:m[i]? =Y (Y<|.f a))(h:H a=Y (.bF C dx o))(l:j=o.length)
  (q:∀b,H b=O->aK F r m K ((H.ag b<|bl<|dC n c).ag a<|.bF C dx<|o++[.f b])):aK F (.d (.c C j<|.d i) (.H true x z)::r) m K H:=
 p _ _ (k _ _ (by refine(bW (f9 n) (U iH<|f) λb d=>?_);refine J (g:=⟨F,m,[],_⟩) e (λ_ _=>True) _ ?_;refine(?_:ke C j _ _ _ _);refine rY ((Hp.I _ _<|Hp.ne h d).trans h) l ?_;have:=q b d;unfold bl at this;rw[Mg]at this;exact this))
def Rr(d:m[i]? =Y (Y<|.f a))(h:H a=Y (.bF C dx o))(l:j=o.length)(n:mR k [] []=Y (kD k))(q:∀b,H b=O->aK F r m K ((H.ag b<|kD k).ag a<|.bF C dx<|o++[.f b])):aK F (.d (.c C j<|.d i) (.B k [] [])::r) m K H:=λb c=>by refine⟨Hp.t _ _ _,?_⟩;refine U n ?_;refine(?_:den F (λe=>e9 (λp f=>aK F r p f) K _ m) m [] _ _ _);refine U (Hp.ak _ _ _ _) ?_;refine J (g:=⟨F,m,[],H.ag b _⟩) d (λ_ _=>True) _ ?_;have e:(H.ag b<|kD k) a=Y _:=(Hp.I _ _<|Hp.ne h c).trans h;refine(?_:ke C j _ _ _<|H.ag b _);exact rY e l<|q b c
def Ft(k:eM ⟨F,m,[],H⟩ xs vs)(e:vs.length<=sz)(d:m[i]? =Y (Y<|.f a))(h:H a=Y (.bF C dx o))(f:j=o.length)(q:∀b,H b=O->aK F r m K ((H.ag b<|.b vs).ag a<|.bF C dx<|o++[.f b])):aK F (.d (.c C j<|.d i) (.m true xs)::r) m K H:=
 k _ _ ⟨e,λb c=>by refine J (g:=⟨F,m,[],_⟩) d (λ_ _=>True) _ ?_;exact rY ((Hp.I _ _ (Hp.ne h c)).trans h) f (q b c)⟩
end
section
variable {H:Hp}{N:Nat}{E Q:VK}{n dx me:Nat}{a b:List<|List UInt8}
def V8(a:H n=O)(q:∀j d s,H.aq j->H d=O->NS j n dx d s 0 (λ_=>O) 0->Q .k j):aR prog (N+1) 1001 [.f n] Q E<|H.ag n<|.bF 1 dx []:=by
 refine ct V V<|Rr V (Hp.t _ _ _) V V λd b=>Ft fN (cB _) V (Hp.t _ _ _) V λs c=>Rp aL J (Hp.t _ _ _) V<|bO<|iP (.h _)<|q _ d s ?_ ?_ ⟨Hp.t _ _ _,?_,⟨λ_ _ h=>aS h,λ_ _ _ h=>aS h⟩⟩
 ·have f:=Hp.ah a (.bF 1 dx []);have i:=Hp.al f b;exact Hp.aj (Hp.aj ((Hp.aj (f.t<|Hp.ah b _) a _).t<|Hp.ah c _) a _) a _
 ·exact Hp.al (Hp.ah a _) b
 ·have e:d≠n:=λk=>by rw[k,Hp.t]at b;exact aS (cc b)
  have g:d≠s:=λk=>by rw[<-k,Hp.I _ _ e,Hp.t]at c;exact aS<|cc c
  refine U (Hp.I _ _ e)<|U (Hp.I _ _ e)<|U (Hp.I _ _ g)<|U (Hp.I _ _ e)<|U (Hp.t _ _ _) ?_;rfl
def Gl{u:List<|List UInt8}{d s g M:Nat}(h:NS H n dx d s g f M)(t:M+u.length<sz)
  (q:∀v a c b,(∀x,x≠n->x≠d->v x=H x)->NS v n dx d s c a b->r8 f a->(∀l∈u,∃j:Nat,a (false,l)=Y (.c j))->b<=M+u.length->Q (.g<|(u.map<|nv a).map .c) v):
  aR prog (N+2) 3 [.f n,.g<|u.map .d] Q E H:=Tf h t λa k b m i p r=>q _ a k b (λx e o=>by unfold jG;exact U (Hp.I _ _ o)<|U (Hp.I _ _ e) V) (h.to i) m p r
noncomputable def K4(Q:VK)(H:Hp)(me dx:Nat)(a b:List<|List UInt8):Prop:=∀e g c d,H.aq e->H g=O->H c=O->(∀x∈a,∀y∈b,d x=d y->x=y)->
   Sh e me dx (a.map d) (b.map d) g c (dC a.length false) (dC b.length false)->Q .k e
def U6{F}(p:H me=O)(t:a.length+b.length<sz)(q:K4 Q H me dx a b)(k:H.aq m)(s:m me=Y (.bF 2 dx [.g<|(a.map f).map .c,.g<|(b.map f).map .c]))(v:∀x∈a,∀y∈b,f x=f y->x=y):
  aK F (KI.drop 3) [Y<|.f me,Y<|.g<|a.map .d,Y<|.g<|b.map .d,o] (e7 Q E) m:=by
 have z:=aE (bj _ _)<|cI t;have u:=aE (cW _ _)<|cI t;refine Fq aL (gj AV.d<|J V) z V s V λg l=>Fq aL (gj AV.d<|J V) u V (Hp.t _ _ _) V λc h=>?_;have n:me≠g:=λe=>by rw[<-e,s]at l;exact aS<|cc l
 have r:me≠c:=λe=>by rw[<-e,Hp.t]at h;exact aS<|cc h
 have d:g≠c:=λe=>by rw[<-e,Hp.I _ _ n.symm,Hp.t]at h;exact aS<|cc h
 have j:=Hp.al k<|by rw[Hp.I _ _ r.symm,Hp.I _ _ d.symm]at h;exact h
 exact bO (iP (.h _) (q _ g c f (Hp.aj (Hp.aj (Hp.aj (Hp.aj k (Hp.al k l) _) p _) j _) p _) (Hp.al k l) j v ⟨Hp.t _ _ _,by exact U (Hp.I _ _ n.symm)<|U (Hp.I _ _ d)<|U (Hp.I _ _ n.symm)<|U (Hp.t _ _ _) V,by exact U (Hp.I _ _ r.symm)<|U (Hp.t _ _ _) V,d,
  ⟨by exact U iH (U (bx _) V),by exact U iH (U (bx _) V)⟩,⟨by exact U (bx _)<|z,by exact U (bx _)<|u⟩⟩))
def xj(h:H me=O)(v:a.length+b.length<sz)(q:K4 Q H me dx a b):
  aR prog (N+3) 1002 [.f me,.g<|a.map .d,.g<|b.map .d] Q E (H.ag me<|.bF 2 dx []):=by
 have g:=Hp.ah h<|.bF 2 dx [];refine ct (m:=[Y _,Y _,Y _,O]) V V<|pH fN λn L G A c f=>V8 c λa0 d s s1 r B=>f a0 ?_;have en:me≠n:=λe=>by rw[<-e,Hp.t]at c;exact aS<|cc c
 have u:me≠d:=λe=>by rw[<-e,Hp.t]at r;exact aS<|cc r
 refine Fy V λG A f=>eZ J (dY B.c) (cJ J)<|Gl B (U (cy _)<|cH (bj _ _) v) λP S R X w p Z z F=>f _ _ dx [] ((w _ en u).trans<|s1 _ _<|Hp.t _ _ _) V ?_;refine Fy V λG A f=>eZ J (dY<|(Hp.I _ _ en.symm).trans p.c) (cJ J) (Gl ⟨(Hp.I _ _ en.symm).trans p.c,(Hp.I _ _ u.symm).trans p.p,p.o⟩ (by rw[cy]at F;exact cH (hS F _) v)
  λa3 T a4 W C M t a1 a2=>f _ _ dx [_] ((C _ en u).trans (Hp.t _ _ _)) V ?_)
 refine U (sN λl K=>(z l K).elim λj e=>(Gk t e).symm) ?_;refine U6 h v q (λx o e=>?_) (Hp.t _ _ _) λx hx y I e=>?_
 ·have m:=λk=>Hp.ne e h k;refine U (Hp.I _ _<|Hp.ne e h)<|U (C _ (Hp.ne e<|Hp.al g c)<|Hp.ne e<|Hp.al g r)<|U (Hp.I _ _<|Hp.ne e h)<|U (w _ (Hp.ne e<|Hp.al g c)<|Hp.ne e<|Hp.al g r) ?_;exact s1 _ _<|g _ _ e
 ·refine aF (z x hx) λj D=>aF (a1 y I) λj' i=>?_;unfold nv at e;rw[t _ _ D,i]at e;have e:(j:Int)=j':=e;have:=M.o.2 _ _ _ (t _ _ D)<|U i<|aP e V;exact(Prod.mk.inj this).2
end
end bc
end
section
set_option backward.match.sparseCases false
namespace bc
abbrev T2:=Nat->Nat->Nat
noncomputable def sw(x:T2):T2:=λi j=>x j i
structure gT(n m:Nat)(x y:T2)(i j:Nat):Prop where
 q:∃b c,((∀B,j=B+1->x i B+1<=b/\y i B<=c)/\∀A,i=A+1->x A j<=b/\y A j+1<=c)/\
  ((∃B,j=B+1/\b=x i B+1/\c=y i B)\/∃A,i=A+1/\b=x A j/\c=y A j+1)/\(b<=x i j/\c<=y i j)/\
  ((x i j=b/\y i j=c)\/(x i j<=n/\y i j<=m)/\¬(x i j=n/\y i j=m))
 l:x i j+i=y i j+j
structure Gp(n m:Nat)(x y:T2)(i j:Nat):Prop where
 l:x i j+i=y i j+j
 a:j<=x i j/\i<=y i j
 c:x i j<=n+j/\y i j<=m+i
 e:∀B,j=B+1->n<x i j->x i j<=x (i+1) B+1
 f:∀A,i=A+1->m<y i j->y i j<=y A (j+1)+1
section
variable {n m i j A B:Nat}{x y:T2}
def gT.C(s:gT n m x y i j):gT m n (sw y) (sw x) j i:=by obtain⟨⟨b,c,f,o,p,g⟩,l⟩:=s;exact⟨eX c b ⟨λa e=>(f.2 a e).symm,λa e=>(f.1 a e).symm⟩ (o.symm.imp (λd=>aF d λa e=>aO a e.1 e.2.symm) λd=>aF d λa e=>aO a e.1 e.2.symm) p.symm<|g.imp And.symm λh=>⟨h.1.symm,λk=>h.2 k.symm⟩,l.symm⟩
def Gp.o(g:Gp n m x y i j):Gp m n (sw y) (sw x) j i:=⟨g.l.symm,g.a.symm,g.c.symm,g.f,g.e⟩
def gT.w(s:gT n m x y (i+1) j):x i j<=x (i+1) j:=by obtain⟨⟨b,c,h,d,a,e⟩,l⟩:=s;exact aE (h.2 i V).1 a.1
def gT.v(s:gT n m x y i j)(h:n<x i j\/m<y i j\/x i j=n/\y i j=m):(∃B,j=B+1/\x i j=x i B+1/\y i j=y i B)\/∃A,i=A+1/\x i j=x A j/\y i j=y A j+1:=by
 obtain⟨⟨b,c,e,d,f,a⟩,l⟩:=s;refine bq a (λa=>?_) λa=>?_;·refine U a.1<|U a.2 ?_;exact d
 ·exact(h.elim (λh=>dj.mpr a.1.1 h) λh=>h.elim (λh=>dj.mpr a.1.2 h) a.2).elim
theorem gT.a(s:gT n m x y i j)(r:∀B,j=B+1->Gp n m x y i B)(d:∀A,i=A+1->Gp n m x y A j):j<=x i j/\x i j<=n+j:=by
 refine⟨?_,dj.mp λh=>?_⟩
 ·obtain⟨⟨b,c,t,q,p,u⟩,l⟩:=s;exact bq q (λz=>cw z λk e f o=>aE (e▸c7 (r k e).a.1)<|f▸p.1) λg=>cw g λk e f o=>aE (d k e).a.1<|f▸p.1
 ·refine bq (s.v<|.inl<|cH (bj _ _) h) (λz=>cw z λk e f o=>?_) λg=>cw g λk e f o=>?_;·rw[f,e]at h;exact dj.mpr (r k e).c.1<|oR h
  ·rw[f]at h;exact dj.mpr (d k e).c.1 h
theorem gT.e(s:gT n m x y i j)(e:j=B+1)(t:gT n m x y (i+1) B)(d:∀A,i=A+1->Gp n m x y A j)(h:n<x i j):x i j<=x (i+1) B+1:=by
 refine bq (s.v<|.inl h) (λz=>cw z λk a b f=>?_) λc=>cw c λk a b f=>?_;·cases fL (e.symm.trans a);exact U b<|c7 t.w
 ·rw[b]at h |-;have:=(d k a).e B e h;rw[<-a]at this;exact aE this<|c7 t.w
def Gp.p(g:∀i j,i+j=D->Gp n m x y i j)(s:∀i j,i+j=D+1->gT n m x y i j)(h:i+j=D+1):Gp n m x y i j:=by
 have r:∀B,j=B+1->Gp n m x y i B:=λB e=>g i B<|by rw[e]at h;exact fL h
 have d:∀A,i=A+1->Gp n m x y A j:=λA e=>g A j<|by rw[e,cG]at h;exact fL h
 have b:=(s i j h).C.a (λB e=>(d B e).o) λA e=>(r A e).o;exact⟨(s i j h).l,⟨((s i j h).a r d).1,b.1⟩,⟨((s i j h).a r d).2,b.2⟩,λB e k=>(s i j h).e e (s _ B<|by refine U (cG _ _ _)<|U (bY _ _ _)<|aP e ?_;exact h) d k,
  λA e k=>(s i j h).C.e e (s A _ (aP h (U e (U (bY _ _ _) (U (fh j 1) V))))).C (λB c=>(r B c).o) k⟩
noncomputable def gq(n m i j A B:Nat):Prop:=j+B+m=i+A+n
noncomputable def qj(n m D a:Nat)(x y:T2):Prop:=∀i j A B,i+j+1=D->A+B+1=a->gq n m i j A B->x i j<n/\y i j<m
def qj.e{D a:Nat}(h:qj n m D a x y):qj m n D a (sw y)<|sw x:=λi j A B c b d=>(h j i B A (by refine U (fh j _) ?_;exact c) (by refine U (fh B _) ?_;exact b) d.symm).symm
def Bv(h:gq n m i (j+1) (A+1) B):gq n m i j A B:=by exact dB (aW [_,_,_,_,_,_] (.a (.a (.v 0)<|.v 1)<|.v 2) (.a (.a (.v 3)<|.v 4)<|.v 5) [(.a (.a (.a (.v 0)<|.n 1)<|.v 1)<|.v 2,.a (.a (.v 3)<|.a (.v 4)<|.n 1)<|.v 5)] V<|bb h)<|aW [_,_,_,_,_,_] (.a (.a (.v 3)<|.v 4)<|.v 5) (.a (.a (.v 0)<|.v 1)<|.v 2) [(.a (.a (.v 3)<|.a (.v 4)<|.n 1)<|.v 5,.a (.a (.a (.v 0)<|.n 1)<|.v 1)<|.v 2)] V<|bb<|cc h
def Jb(h:gq n m (i+1) j A<|B+1):gq n m i j A B:=by exact dB (aW [_,_,_,_,_,_] (.a (.a (.v 0)<|.v 1)<|.v 2) (.a (.a (.v 3)<|.v 4)<|.v 5) [(.a (.a (.v 0)<|.a (.v 1)<|.n 1)<|.v 2,.a (.a (.a (.v 3)<|.n 1)<|.v 4)<|.v 5)] V<|bb h)<|aW [_,_,_,_,_,_] (.a (.a (.v 3)<|.v 4)<|.v 5) (.a (.a (.v 0)<|.v 1)<|.v 2) [(.a (.a (.a (.v 3)<|.n 1)<|.v 4)<|.v 5,.a (.a (.v 0)<|.a (.v 1)<|.n 1)<|.v 2)] V<|bb<|cc h
def XB(h:gq n m i j 0 B)(l:v+i=w+j)(k:n<v):m+B<w:=by exact aW [_,_,_,_,_,_,_] (.a (.a (.v 0)<|.v 1)<|.n 1) (.v 2) [(.a (.v 5)<|.n 1,.v 6),(.a (.v 6)<|.v 4,.a (.v 2)<|.v 3),(.a (.a (.v 3)<|.v 1)<|.v 0,.a (.a (.v 4)<|.n 0)<|.v 5)] V k (bb l)<|bb h
def GO(s:gT n m x y i j)(r:∀B,j=B+1->Gp n m x y i B)(d:∀A,i=A+1->Gp n m x y A j)(p:qj n m D D2 x y)(h:i+j=D)(a:A+B=D2)(o:D<=D2+1)(f:gq n m i j A B):x i j<=n:=by
 refine dj.mp λl=>?_;refine bq (s.v<|.inl l) (λz=>cw z λk e b t=>?_) λq=>cw q λk e b t=>?_
 ·rw[b]at l;induction A using Nat.casesAuxOn with
  |succ A=>exact dj.mpr (f6 l) (p i k A B (by refine aP h<|U e ?_;rfl) (aP a<|U (cG _ _ _) V)<|Bv<|e▸f).1
  |zero=>
   have:=XB f s.l<|b▸l;have c:=(r k e).c.2;rw[<-t]at c;rw[<-h,<-a,e,cy]at o;exact qH.mpr (bX (oS<|bX this c)<|bj i k)<|nG o
 ·rw[b]at l;induction B using Nat.casesAuxOn with
  |succ B=>exact sA l (p k j A B (aP h<|U e<|U (cG _ _ _) V) (by refine aP a ?_;rfl)<|Jb<|e▸f).1
  |zero=>
   induction j using Nat.casesAuxOn with
   |zero=>exact dj.mpr (d k e).c.1 l
   |succ j=>
    have g:=(d k e).e j V l;rw[<-e]at g;induction A using Nat.casesAuxOn with
    |succ A=>exact dj.mpr (f6<|bX l g) (p i j A 0 (by refine aP h ?_;rfl) (aP a V)<|Bv f).1
    |zero=>rw[<-h,<-a,e]at o;exact u9 _<|nG<|aE (ff (cW 1 j) _) o
def UY(s:gT n m x y i j)(r:∀B,j=B+1->Gp n m x y i B)(d:∀A,i=A+1->Gp n m x y A j)(a:qj n m D D2 x y)(h:i+j=D)(b:A+B=D2)(c:D<=D2+1)(f:gq n m i j A B):y i j<=m:=
 GO (x:=sw y) (y:=sw x) (i:=j) (j:=i) s.C (λB e=>(d B e).o) (λA e=>(r A e).o) a.e (by refine U (fh _ _)<|h) (by refine U (fh _ _)<|b) c f.symm
def aae(h:gq n m i j A B)(l:n+i=m+j):A=B:=by exact dB (aW [_,_,_,_,_,_] (.v 0) (.v 1) [(.a (.v 3)<|.v 2,.a (.v 5)<|.v 4),(.a (.a (.v 4)<|.v 0)<|.v 5,.a (.a (.v 2)<|.v 1)<|.v 3)] V (bb<|cc l)<|bb<|cc h)<|aW [_,_,_,_,_,_] (.v 1) (.v 0) [(.a (.v 5)<|.v 4,.a (.v 3)<|.v 2),(.a (.a (.v 2)<|.v 1)<|.v 3,.a (.a (.v 4)<|.v 0)<|.v 5)] V (bb l)<|bb h
def UZ(s:gT n m x y i j)(r:x 0 0=0/\y 0 0=0)(u:qj n m D D2 x y)(h:i+j=D)(g:A+B=D2)(o:D<=D2+1)(f:gq n m i j A B)(v:0<n)(t:0<m):¬(x i j=n/\y i j=m):=λc=>by
 have l:=s.l;rw[c.1,c.2]at l;have w:=aae f l;subst w;refine bq (s.v<|.inr<|.inr c) (λz=>cw z λk e a d=>?_) λq=>cw q λk e a d=>?_
 ·induction A using Nat.casesAuxOn with
  |succ A=>exact dk _<|c.2▸d▸(u i k A _ (by refine aP h<|U e ?_;rfl) (aP g<|U (cG _ _ _) V)<|Bv<|e▸f).2
  |zero=>
   rw[<-h,<-g,e]at o;have:=sC.mp<|nG o;have b:=qJ this;have p:=qK this;rw[b,p,r.2]at d;rw[<-c.2,b,d]at t;exact dk _ t
 ·induction A using Nat.casesAuxOn with
  |succ A=>exact dk _<|c.1▸a▸(u k j _ A (aP h<|U e<|U (cG _ _ _) V) (by refine aP g ?_;rfl)<|Jb<|e▸f).1
  |zero=>
   rw[<-h,<-g,e,cG]at o;have:=sC.mp<|nG o;have b:=qJ this;have p:=qK this;rw[b,p,r.1]at a;rw[<-c.1,p,a]at v;exact dk _ v
end
section
variable (A B:Nat->Int)(n m:Nat)
noncomputable def sl:Nat->Nat->Nat->Nat×Nat
 |0,x,y=>(x,y)
 |r+1,x,y=>if x<n/\y<m/\A x=B y then sl r (x+1)<|y+1 else(x,y)
noncomputable def bs(f:Nat->Nat×Nat):Nat->Nat->Nat×Nat
 |_,0=>((f 0).1,(f 0).2+1)
 |0,j+1=>((f j).1+1,(f j).2)
 |_+1,j+1=>(max ((f j).1+1) (f<|j+1).1,max (f j).2<|(f<|j+1).2+1)
noncomputable def row:Nat->Nat->Nat×Nat
 |0,_=>(0,0)
 |D+1,j=>sl A B n m n (bs (row D) (D+1-j) j).1 (bs (row D) (D+1-j) j).2
noncomputable def xt(i j:Nat):Nat:=(row A B n m (i+j) j).1
noncomputable def yt(i j:Nat):Nat:=(row A B n m (i+j) j).2
noncomputable def iy:Prop:=A (n-1)≠B (m-1)
end
section
variable {A B:Nat->Int}{n m:Nat}
def PT(h:iy A B n m)r x y:(x<=(sl A B n m r x y).1/\y<=(sl A B n m r x y).2)/\(sl A B n m r x y).1+y=(sl A B n m r x y).2+x/\
  (((sl A B n m r x y).1=x/\(sl A B n m r x y).2=y)\/((sl A B n m r x y).1<=n/\(sl A B n m r x y).2<=m)/\¬((sl A B n m r x y).1=n/\(sl A B n m r x y).2=m)):=by
 induction r generalizing x y with
 |zero=>exact bW ⟨bN _,bN _⟩ (fh _ _)<|.inl ⟨V,V⟩
 |succ r i=>
  unfold sl;by_cases c:x<n/\y<m/\A x=B y
  ·refine U (if_pos c)<|dN (i (x+1)<|y+1) λb d a=>(bW ⟨sD b.1,sD b.2⟩ (fL d)<|.inr ?_);refine bq a (λa=>?_) λa=>?_;·refine U a.1<|U a.2 ?_;exact⟨⟨c.1,c.2.1⟩,λk=>h<|by refine aP k.1<|aP k.2 ?_;exact c.2.2⟩
   ·exact a
  ·exact U (if_neg c)<|bW ⟨bN _,bN _⟩ (fh _ _)<|.inl ⟨V,V⟩
def wK i j D(h:i+j=D+1):row A B n m (i+j) j=sl A B n m n (bs (row A B n m D) i j).1 (bs (row A B n m D) i j).2:=by refine U h ?_;unfold row;exact aP h<|U (Nat.add_sub_cancel _ _) V
def wJ(h:i+j=D):row A B n m D j=(xt A B n m i j,yt A B n m i j):=by refine aP h ?_;rfl
def mx(h:x+(i+1)=y+j)(a:x'+i=y'+(j+1)):(max (x+1) x'=x+1/\max y (y'+1)=y)\/(max (x+1) x'=x'/\max y (y'+1)=y'+1):=by
 refine bq (jv (x+1) x') (λk=>?_) λk=>?_
 ·refine .inr ⟨vd k,vd ?_⟩;exact yy<|by refine aP h<|aP (bY _ _ _)<|U (cG _ _ _)<|U (cG y' 1 j) ?_;exact a▸hS k i
 ·refine .inl ⟨sy k,sy ?_⟩;exact yy<|by refine aP h<|aP (bY x _ _)<|U (cG x _ _)<|U (cG y' 1 j) ?_;exact a▸hS k i
noncomputable def BsP(x y:T2)(i j:Nat)(p:Nat×Nat):Prop:=
  ((∀b,j=b+1->x i b+1<=p.1/\y i b<=p.2)/\∀a,i=a+1->x a j<=p.1/\y a j+1<=p.2)/\
  ((∃b,j=b+1/\p.1=x i b+1/\p.2=y i b)\/∃a,i=a+1/\p.1=x a j/\p.2=y a j+1)/\p.1+i=p.2+j
def Ks:bs (row A B n m D) (D+1) 0=(xt A B n m D 0,yt A B n m D 0+1):=by refine(?_:((row A B n m D 0).1,(row A B n m D 0).2+1)=_);exact U (wJ<|mh D) V
def Kq:bs (row A B n m D) 0 (D+1)=(xt A B n m 0 D+1,yt A B n m 0 D):=by refine(?_:((row A B n m D D).1+1,(row A B n m D D).2)=_);exact U (wJ<|cy D) V
def Kr:bs (row A B n m<|i+1+j) (i+1) (j+1)=(max (xt A B n m (i+1) j+1)<|xt A B n m i<|j+1,max (yt A B n m (i+1) j)<|yt A B n m i (j+1)+1):=by refine(?_:(max _ (row A B n m _ _).1,max (row A B n m _ j).2 _)=_);exact U (wJ V)<|U (wJ (show i+(j+1)=i+1+j from(cG i 1 j).symm)) V
def Cb i j D(h:i+j=D+1)(a:∀i j,i+j=D->xt A B n m i j+i=yt A B n m i j+j):BsP (xt A B n m) (yt A B n m) i j<|bs (row A B n m D) i j:=by
 induction j using Nat.casesAuxOn with
 |zero=>
  cases(h);refine U Ks ?_;exact bW ⟨λc k=>oP k,λb k=>by cases fL k;exact⟨bN _,bN _⟩⟩ (.inr<|cq D V V V)<|congrArg _<|a D 0 V
 |succ j=>
  induction i using Nat.casesAuxOn with
  |zero=>
   have e:j=D:=by rw[cy]at h;exact fL h
   refine U e<|U Kq ?_;exact bW ⟨λc k=>by cases fL k;exact⟨bN _,bN _⟩,λb k=>oP k⟩ (.inl<|cq D V V V)<|congrArg _<|a 0 D<|cy D
  |succ i=>
   cases(fL h);have l:=a _ j V;have d:=a i (j+1) (cG i 1 j).symm;refine U Kr ?_;refine⟨⟨λc k=>by cases fL k;exact⟨Dh _ _,Dh _ _⟩,λb k=>by cases fL k;exact⟨yz _ _,yz _ _⟩⟩,?_⟩;refine bq (mx l d) (λk=>?_) λk=>?_;·exact⟨.inl<|aO j V k,by refine U k.1<|U k.2<|U (cG _ _ _) ?_;exact congrArg _ l⟩
   ·exact⟨.inr<|aO i V k,by refine U k.1<|U k.2<|U (cG _ 1 _) ?_;exact congrArg _ d⟩
def mL(h:iy A B n m)D:(∀i j,i+j=D->Gp n m (xt A B n m) (yt A B n m) i j)/\∀i j,i+j=D+1->gT n m (xt A B n m) (yt A B n m) i j:=by
 have d:∀D,(∀i j,i+j=D->Gp n m (xt A B n m) (yt A B n m) i j)->∀i j,i+j=D+1->gT n m (xt A B n m) (yt A B n m) i j:=λD g i j b=>by refine dN (Cb (A:=A) (B:=B) (n:=n) (m:=m) i j D b λi j h=>(g i j h).l) λp l o=>?_;have s:=PT h n (bs (row A B n m D) i j).1 (bs (row A B n m D) i j).2;rw[<-(congrArg yp<|wK i j D b),<-(congrArg Prod.snd<|wK i j D b)]at s;exact⟨eX _ _ p l s.1 s.2.2,yB (m:=(bs _ i j).2)<|U (cG _ _ _)<|U s.2.1<|U (bY _ _ _)<|U o<|aP (bY _ _ _)<|U (cG _ _ _) V⟩
 induction D with
 |zero=>exact⟨λi j e=>by
   have a:=qJ e;have c:=qK e;refine U a<|U c ?_;exact⟨V,⟨bN _,bN _⟩,⟨cB _,cB _⟩,λ_ k=>oP k,λ_ k=>oP k⟩,d 0 λi j e=>by
   have a:=qJ e;have c:=qK e;refine U a<|U c ?_;exact⟨V,⟨bN _,bN _⟩,⟨cB _,cB _⟩,λ_ k=>oP k,λ_ k=>oP k⟩⟩
 |succ D f=>
  have g:=λi j e=>Gp.p (i:=i) (j:=j) f.1 f.2 e;exact⟨g,d _ g⟩
end
end bc
end
section
set_option backward.match.sparseCases false
namespace bc
open P
abbrev IF:=Int->Option AV
section
variable {g:Gm}{F:cF}{m e:ba}{K:FK}{H:Hp}{r:List S}{x y z:X}{i:Nat}{a b:Nat}{v:AV}{f:IF}{n:Nat}{k c d:Int}{mu:Bool}
def ez(h:ae g x<|.c c)(e:c=d):ae g x<|.c d:=e▸h
def eI(h:ae g x<|.c a)(k:ae g y<|.c b):ae g (.j .a mu x y)<|.c (a+b:Nat):=eA h k
noncomputable def hD(f:IF)(k:Int)(v:AV):IF:=λx=>if x=k then Y v else f x
def xh{x}(h:x≠k):hD f k v x=f x:=if_neg h
def A4:hD f k v k=Y v:=if_pos V
def wC(g:ae ⟨F,m,[],H⟩ x v)(h:ae ⟨F,m,[],H⟩ y<|.f a)(d:ae ⟨F,m,[],H⟩ z<|.c k)(e:H a=Y (.c f n))(c:n<sz)
  (q:∀b,b<=n+1->aK F r m K (H.ag a<|.c (hD f k v) b)):aK F (.d (.e y z) x::r) m K H:=
 g _ _ (h _ _<|d _ _<|qg e<|cq k V c<|q _<|ff (by split;exact cB 1;exact bN 1) n)
end
section
variable {r N n:Nat}{k v:Int}{f:IF}{E Q:VK}{H:Hp}
def Xq(h:H r=Y (.c f N))(b:f (k-1)=O)(a:f (k+1)=Y (.c v))(q:Q (.c v) H):aR prog (n+1) 15 [.f r,.c k] Q E H:=
 ct (m:=[Y _,Y _]) V V (cg (pn (c3 J aL) J h) (λ_=>cQ (mG J h (eA J aL) a)<|gP<|cD (.h _) q) λe=>by rw[b]at e;exact aV e)
def Xp(h:H r=Y (.c f N))(b:f (k-1)=Y (.c a))(c:f (k+1)=O)(q:Q (.c<|a+1) H):aR prog (n+1) 15 [.f r,.c k] Q E H:=
 ct (m:=[Y _,Y _]) V V (cg (pn (c3 J aL) J h) λe=>by rw[b]at e;exact aV e
  λ_=>bT (cg (pn (eA J aL) J h) (λ_=>cQ (eA (mG J h (c3 J aL) b) aL) (gP (cD (.h _) q))) λe=>by rw[c]at e;exact aV e))
def Xo(h:H r=Y (.c f N))(d:f (k-1)=Y (.c a))(c:f (k+1)=Y (.c b))(q:Q (.c<|max (a+1) b) H):aR prog (n+1) 15 [.f r,.c k] Q E H:=
 ct (m:=[Y _,Y _]) V V (cg (pn (c3 J aL) J h) λe=>by rw[d]at e;exact aV e
  λ_=>bT (cg (pn (eA J aL) J h) λe=>by rw[c]at e;exact aV e
   λ_=>bT (cQ (Eg (eA (mG J h (c3 J aL) d) aL) (mG J h (eA J aL) c)) (cD (.h _) q))))
end
noncomputable def Dk(f:IF)(D:Nat)(x:T2):Prop:=∀i j,i+j=D->f (j-i)=Y (.c<|x i j)
noncomputable def Dn(f:IF)(D:Nat):Prop:=∀k,D<k.natAbs->f k=O
def Ih{j:Nat}:(j-(i+1:Nat))+1=(j:Int)-i:=cA [_,_] [] (.a (.s af<|.c<|.a aZ<|.n 1) aM) (.s af aG) [] V
def Ig{i:Nat}:((j+1:Nat)-i)-1=(j:Int)-i:=cA [_,_] [] (.s (.s (.c<|.a bo<|.n 1) aG) aM) (.s af aG) [] V
def VP:D+1<(((0:Nat):Int)-(D+1:Nat)-1).natAbs:=b8 λz=>aJ [_,_] [] [.e 1 aG<|.s (.s (.c<|.n 0)<|.c<|.a bo<|.n 1) aM] V<|iI<|b9 (b:=↑0-↑(D+1)-1) λd=>aJ [_,_] [] [.l 1 (.c<|.a aZ aX)<|.c<|.a (.a bo<|.n 1) aX,.l 1 (.g<|.s (.s (.c<|.n 0)<|.c<|.a bo<|.n 1) aM) aG] V z<|fK<|↑0-↑(D+1)-1
def VO:D+1<(((D+1:Nat):Int)-(0:Nat)+1).natAbs:=b8 λz=>aJ [_,_] [] [.l 1 (.c<|.a aZ aX)<|.c<|.a (.a bo<|.n 1) aX,.l 1 (.a (.s (.c<|.a bo<|.n 1)<|.c<|.n 0) aM) aG] V z<|fJ _
section
variable {A B:Nat->Int}{n m D i j:Nat}{f:IF}{E Q:VK}{H:Hp}{r N k:Nat}
def I2(s:H r=Y (.c f N))(o:Dk f D<|xt A B n m)(t:Dn f<|D+1)(h:i+j=D+1)(q:Q (.c (bs (row A B n m D) i j).1) H):aR prog (k+1) 15 [.f r,.c<|j-i] Q E H:=by
 induction j using Nat.casesAuxOn with
 |zero=>
  cases(h);rw[Ks]at q;exact Xq s (t _ VP) (U Ih<|o D 0 V) q
 |succ j=>
  induction i using Nat.casesAuxOn with
  |zero=>
   rw[(by rw[cy]at h;exact fL h:j=D)]at q |- ;rw[Kq]at q;exact Xp s (U Ig<|o 0 D<|cy D) (t _ VO) q
  |succ i=>
   cases(show i+1+j=D from fL h);rw[Kr]at q;refine Xo s (U Ig<|o _ j V) (U Ih<|o i _ (cG i 1 j).symm) ?_;have:max ((xt A B n m (i+1) j:Int)+1) (xt A B n m i<|j+1)=(max (xt A B n m (i+1) j+1)<|xt A B n m i<|j+1):=Ax (↑(xt A B n m (i+1) j)+1) (↑(xt A B n m i<|j+1)) (λp b=>GQ (xt A B n m (i+1) j+1) (xt A B n m i<|j+1) (λg z=>cA [_,_] [_] aI af [.e 1 aI aG,.e (-1) af aG] V b z) λg z=>fZ (λd=>aJ [_,_] [_] [.l 1 (.a aG aM) aI,.e 1 af<|.c<|.a aZ<|.n 1,.l 1 (.a aI aM) af] V (MK (↑(xt A B n m (i+1) j)+1)<|↑(xt A B n m i<|j+1)) z d) λd=>aJ [_,_] [_] [.l 1 aG af,.e 1 aI aG,.l 1 (.a af aM) aI] V (nl<|yz (xt A B n m (i+1) j+1)<|xt A B n m i<|j+1) b d) λp b=>GQ _ (xt A B n m i<|j+1) (λg z=>fZ (λd=>aJ [_,_] [_] [.l 1 aG aI,.e 1 af aG,.l 1 (.a aI aM) af] V (Int.le_max_right _<|↑(xt A B n m i<|j+1)) z d) λd=>aJ [_,_] [_] [.l 1 (.c<|.a aZ<|.n 1) af,.e 1 aI<|.a aG aM,.l 1 (.a af aM) aI] V (nl<|Dh (xt A B n m (i+1) j+1)<|xt A B n m i<|j+1) b d) λg z=>cA [_,_] [_] aI af [.e 1 aI<|.a aG aM,.e (-1) af<|.c<|.a aZ<|.n 1] V b z;exact U this<|q
end
noncomputable def h6(v x n y m p q:Nat)(z o a:Option AV):ba:=[Y<|.f v,Y<|pv x n y m,Y<|.c x,Y<|.c (x+n:Nat),Y<|.c y,Y<|.c (y+m:Nat),Y<|.c n,Y<|.c m,Y<|.c<|(n:Int)-m,Y<|.f p,Y<|.f q,z,o,a]
def G5{v w i j:Nat}(h:v+i=w+j):(v:Int)-((j:Int)-i)=w:=by exact cA [_,_,_,_] [] (.s af<|.s cM aG) bf [.e 1 (.c<|.a bo aZ)<|.c<|.a bA bK] V<|nE h
def G4{v b:Nat}(h:v+i=w+j):b+v-((j:Int)-i)=(b+w:Nat):=cA [_,_,_,_,_] [] (.s (.a dA af)<|.s cM aG) (.c<|.a cX bA) [.e 1 (.c<|.a bo aZ)<|.c<|.a bA bK] V<|nE h
def RJ(h:v<n):((a+n:Nat):Int)-1-v=(a+(n-1-v):Nat):=i7 _ (v) (λd z=>cA [_,_,_,_,_] [] (.s (.s (.c<|.a bA aZ) aM) af) (.c<|.a bA bK) [.e (-1) (.c<|.a cX<|.n 1) aG,.e (-1) (.c<|.a bK bo) dA] V (nE<|cb<|b8 λg=>aJ [_,_] [] [.l 1 (.c<|.a bo aX) aG,.l 1 (.c<|.a aZ aX)<|.c<|.n 1] V (nl h) g) z) λd z=>fZ (λf=>aJ [_,_,_,_] [] [.l 1 (.c<|.a bo aX) aG,.e 1 cM bJ,.l 1 (.a (.s (.s (.c<|.a bA aZ) aM) af) aM)<|.c<|.a bA bK] V (nl h) z f) λf=>aJ [_,_,_,_,_] [] [.e (-1) (.c<|.a cX<|.n 1) aG,.l 1 dA af,.l 1 (.a (.c<|.a bA bK) aM)<|.s (.s (.c<|.a bA aZ) aM) af] V (nE<|cb<|b8 (a:=1) (b:=n) λg=>aJ [_,_] [] [.l 1 (.c<|.a bo aX) aG,.l 1 (.c<|.a aZ aX)<|.c<|.n 1] V (nl h) g) d f
def RH{n v w i j:Nat}(l:v+i=w+j)(h:w<n):((a+n:Nat):Int)-1-v+(j-i)=(a+(n-1-w):Nat):=i7 _ (w) (λd z=>cA [_,_,_,_,_,_,_,_] [] (.a (.s (.s (.c<|.a dy cX) aM) af)<|.s cM aG) (.c<|.a dy<|.v 6) [.e (-1) (.c<|.a bo aZ)<|.c<|.a bA bK,.e (-1) (.c<|.a (.v 7)<|.n 1) dA,.e (-1) (.c<|.a (.v 6) bA)<|.c<|.v 7] V (nE l) (nE<|cb<|b8 λg=>aJ [_,_] [] [.l 1 (.c<|.a bo aX) aG,.l 1 (.c<|.a aZ aX)<|.c<|.n 1] V (nl h) g) z) λd z=>fZ (λf=>aJ [_,_,_,_,_,_,_] [] [.e 1 (.c<|.a bo aZ)<|.c<|.a bA bK,.l 1 (.c<|.a bA aX) dA,.e 1 (.c<|.v 6) bJ,.l 1 (.a (.a (.s (.s (.c<|.a dy cX) aM) af)<|.s cM aG) aM)<|.c<|.a dy<|.v 6] V (nE l) (nl h) z f) λf=>aJ [_,_,_,_,_,_,_,_] [] [.e (-1) (.c<|.a bo aZ)<|.c<|.a bA bK,.e (-1) (.c<|.a (.v 7)<|.n 1) dA,.l 1 (.c<|.v 7) bf,.l 1 (.a (.c<|.a dy<|.v 6) aM)<|.a (.s (.s (.c<|.a dy cX) aM) af)<|.s cM aG] V (nE l) (nE<|cb<|b8 (a:=1) (b:=n) λg=>aJ [_,_] [] [.l 1 (.c<|.a bo aX) aG,.l 1 (.c<|.a aZ aX)<|.c<|.n 1] V (nl h) g) d f
noncomputable def dJ(A:List Int)(x:Nat):Nat->Int:=λi=>gN A<|x+i
noncomputable def dQ(A:List Int)(x n:Nat):Nat->Int:=λi=>gN A<|x+(n-1-i)
noncomputable def nc(A B:Nat->Int)(n m i j:Nat)(t:Nat×Nat)(r:Nat)(s:Nat×Nat):Prop:=(sl A B n m r s.1 s.2=t/\n<=s.1+r)/\s.1+i=s.2+j
def nc.a(h:nc A B n m i j t r s)(c:s.1<n/\s.2<m/\A s.1=B s.2):r-1<r/\nc A B n m i j t (r-1) (s.1+1,s.2+1):=by
 induction r using Nat.casesAuxOn with
 |zero=>exact(qH.mpr c.1 h.1.2).elim
 |succ r=>exact bW (ec _) ⟨(if_pos c).symm.trans h.1.1,(cG s.1 1 r).symm▸h.1.2⟩<|U (cG _ _ _)<|U h.2<|U (cG _ _ _) V
def nc.b(h:nc A B n m i j t r s)(c:¬(s.1<n/\s.2<m/\A s.1=B s.2)):s=t:=by
 induction r using Nat.casesAuxOn with
 |zero=>exact h.1.1
 |succ r=>exact(if_neg c).symm.trans h.1.1
def Ct[Decidable a][Decidable b][Decidable c](h:(decide a&&(decide b&&decide c))=false):¬(a/\b/\c):=λk=>by rw[decide_eq_true k.1,decide_eq_true k.2.1,decide_eq_true k.2.2]at h;exact aV h
section
variable {A B:List Int}{x n y m p q i j r:Nat}{C E:AV}{v D:Nat}{H:Hp}{F:cF}{z:Option AV}{t s:Nat×Nat}
def WV(b:H v=fj A B D C E)(e:x+n<=A.length)(l:y+m<=B.length)(h:nc (dJ A x) (dJ B y) n m i j t r s):
  gd F Hu H0 (λs=>h6 v x n y m p q z (Y<|.c<|j-i)<|Y<|.c s.1) (λ_=>H) (nc (dJ A x) (dJ B y) n m i j t) (λs=>s=t) r s:=by
 refine(cq _ (kc (e6 J J) λf=>d4 (e6 (ez (c3 J J)<|G5 h.2) J) λc=>
  i6 (fi (cL (J V) b V) (eI J<|J V)<|bX (dR (of_decide_eq_true f) _) e)
   (fi (cL (J V) b V) (ez (c3 (eA J (J V)) J) (G4 h.2)) (bX (dR (of_decide_eq_true c) _) l))) (λa K d=>iN V aL (bO ?_)) λa=>h.b (Ct a))
 have:=h.a<|jT a;exact d _ _ this.1 this.2
def WU(d:H v=fj A B D C E)(g:x+n<=A.length)(o:y+m<=B.length)(h:nc (dQ A x n) (dQ B y m) n m i j t r s):
  gd F Ht HY (λs=>h6 v x n y m p q z (Y<|.c<|j-i)<|Y<|.c s.1) (λ_=>H) (nc (dQ A x n) (dQ B y m) n m i j t) (λs=>s=t) r s:=by
 have e:∀{a n w k},w<n->a+n<=k->a+(n-1-w)<k:=λh l=>bX (dR (cH (eE _ _)<|l9 (ft h) kZ) _) l;refine(cq _ (kc (e6 J J) λf=>d4 (e6 (ez (c3 J J)<|G5 h.2) J) λc=>
  i6 (fi (cL (J V) d V) (ez (c3 (c3 J aL)<|J V)<|RJ<|of_decide_eq_true f)<|e (of_decide_eq_true f) g)
   (fi (cL (J V) d V) (ez (eA (c3 (c3 J aL) (J V)) J) (RH h.2 (of_decide_eq_true c))) (e (of_decide_eq_true c) o))) (λb K u=>iN V aL (bO ?_)) λb=>h.b (Ct b))
 have:=h.a<|jT b;exact u _ _ this.1 this.2
end
noncomputable def NM(n m:Nat)(x x':T2)(D o:Nat):Prop:=∀i j b a,i+j=D->b+a+o=D->gq n m i j b a->x i j+x' b a<n
structure FI(n m:Nat)(x x':T2)(o:Nat)(p:Prop)(D k:Nat)(s:IF×Nat):Prop where
 a:Dk s.1 D x
 b:∀i j,i+j=D+1->j<k->s.1 ((j:Int)-i)=Y (.c<|x i j)
 c:Dn s.1 (D+1)
 l:s.2<=64*D+k+1
 d:p->∀i j i' j',i+j=D+1->j<k->i'+j'+o=D+1->gq n m i j i' j'->x i j+x' i' j'<n
def VM{i j b a D:Nat}(h:i+j=D)(c:b+a=D+1):(j:Int)-i≠(a:Int)-b:=λe=>by exact Nat.zero_ne_one<|(Nat.mul_mod_right 2 a).symm.trans<|(congrArg (·%2) (by exact cN (cA [_,_,_,_,_] [] (.c<|.m 2 cX) (.c<|.a (.m 2 aZ)<|.n 1) [.e (-1) (.c<|.a bo aZ) bf,.e 1 (.c<|.a bK cX)<|.c<|.a bA<|.n 1,.e (-1) (.s aG af)<|.s dA cM] V (nE h) (nE c) e):2*a=2*j+1)).trans<|Nat.mul_add_mod 2 j 1
def VJ{i j c a D:Nat}(h:i+j=D)(d:c+a=D)(l:a≠j):(a:Int)-c≠(j:Int)-i:=by exact λb=>Zp l (λz=>aJ [_,_,_,_,_] [] [.e 1 (.c<|.a bo aZ) bf,.e (-1) (.c<|.a bK cX) bf,.e (-1) (.s dA cM)<|.s aG af,.l 2 (.c<|.a cX aX) aG] V (nE h) (nE d) b z) λz=>aJ [_,_,_,_,_] [] [.e (-1) (.c<|.a bo aZ) bf,.e 1 (.c<|.a bK cX) bf,.e 1 (.s dA cM)<|.s aG af,.l 2 (.c<|.a aZ aX) dA] V (nE h) (nE d) b z
def VN{i j D:Nat}(h:i+j=D):¬D<((j:Int)-i).natAbs:=λd=>ow _ (λb z=>aJ [_,_,_,_] [] [.e 1 (.c<|.a bo aZ) bf,.l 1 (.c<|.a bA aX) cM,.e 1 cM<|.s aG af] V (nE h) (nl d) z) λb z=>aJ [_,_,_,_] [] [.e 1 (.c<|.a bo aZ) bf,.l 1 (.c<|.a bA aX) cM,.e 1 cM<|.g<|.s aG af] V (nE h) (nl d) z
section
variable {n m:Nat}{x x':T2}{o D k:Nat}{p:Prop}{s:IF×Nat}
def FI.u(b:Dk s.1 D x)(a:Dn s.1 D)(l:s.2<=64*D+1):FI n m x x' o p D 0 s:=⟨b,λ_ _ _ h=>(lh _ h).elim,λk h=>a k<|j7 h,l,λ_ _ _ _ _ _ h=>(lh _ h).elim⟩
def FI.G(h:FI n m x x' o p D k s)(e:i+k=D+1)(l:N'<=s.2+1)(g:p->∀t r,t+r+o=D+1->gq n m i k t r->x i k+x' t r<n):FI n m x x' o p D (k+1) (hD s.1 (k-i)<|.c<|x i k,N')where
 a t r e':=(xh<|VM e' e).trans<|h.a t r e'
 b t r e' j:=by
  refine bq (mf.mp j) (λj=>?_) λj=>?_;·exact(xh<|VJ e e'<|f5 j).trans<|h.b t r e' j
  ·subst j;cases yB (e'.trans e.symm);exact A4
 c k' j:=(xh λq=>VN e<|by rw[q]at j;exact j).trans<|h.c k' j
 l:=aE l<|c7 h.l
 d od t r i2 j2 e' j e2 f:=by
  refine bq (mf.mp j) (λj=>?_) λj=>?_;·exact h.d od t r i2 j2 e' j e2 f
  ·subst j;cases yB (e'.trans e.symm);exact g od i2 j2 e2 f
def FI.w(h:FI n m x x' o p D (D+2) s)(g:D<=60):Dk s.1 (D+1) x/\s.2<=64*(D+1)+1/\(p->NM n m x x' (D+1) o):=
 (bW (λi j e=>h.b i j e<|nC<|e▸cW _ _) (aE h.l<|aW [_] (.a (.a (.m 64<|.v 0)<|.a (.v 0)<|.n 2)<|.n 1) (.a (.m 64<|.a (.v 0)<|.n 1)<|.n 1) [(.v 0,.n 60)] V g) λd i j b a e c f=>h.d d i j b a e (nC<|e▸cW _ _) c f)
end
def To(h:NM n m (xt A B n m) (xt A' B' n m) D o)(l:∀i j,i+j=D->xt A B n m i j+i=yt A B n m i j+j)(a:∀i j,xt A' B' n m i j+i=yt A' B' n m i j+j)(b:D2+o=D+1):qj n m (D+1) D2 (xt A B n m)<|yt A B n m:=λi j g d e c f=>by have e:=fL e;have:=h i j g d e (by rw[<-c,cG]at b;exact fL b) f;have l:=l i j e;have a:=a g d;exact⟨cH (bj _ _) this,by exact aW [_,_,_,_,_,_,_,_,_,_] (.a (.v 0)<|.n 1) (.v 1) [(.a (.a (.v 7)<|.v 8)<|.n 1,.v 6),(.a (.v 9)<|.v 3,.a (.v 8)<|.v 5),(.a (.a (.v 4)<|.v 5)<|.v 6,.a (.a (.v 2)<|.v 3)<|.v 1),(.a (.v 0)<|.v 2,.a (.v 7)<|.v 4)] V this (bb<|cc a) (bb<|cc f)<|bb<|cc l⟩
section
variable {n m D o i j i' j':Nat}{A B x y:Nat->Int}
def rK(h:iy A B n m):xt A B n m i j+i=yt A B n m i j+j:=((mL h _).1 i j V).l
def GP(h:iy A B n m)(w:iy x y n m)(v:0<n)(t:0<m)(z:NM n m (xt A B n m) (xt x y n m) D o)(e:i+j=D+1)(s:i'+j'+o=D+1)(u:o<=1)(f:gq n m i j i' j'):
  (xt A B n m i j<=n/\yt A B n m i j<=m)/\¬(xt A B n m i j=0/\yt A B n m i j=0)/\¬(xt A B n m i j=n/\yt A B n m i j=m):=by
 have r:∀k,j=k+1->Gp n m _ _ i k:=λk q=>(mL h D).1 i k<|by rw[q]at e;exact fL e
 have d:∀k,i=k+1->Gp n m _ _ k j:=λk q=>(mL h D).1 k j<|by rw[q,cG]at e;exact fL e
 have p:=To z (λi j _=>rK h) (λi j=>rK w) s;have l:=s▸ff u _;have g:=((mL h _).1 i j e).a;exact(bW ⟨GO ((mL h D).2 i j e) r d p e V l f,UY ((mL h D).2 i j e) r d p e V l f⟩ (λc=>by have a:=sC.mp<|c.1▸g.1;have b:=sC.mp<|c.2▸g.2;rw[a,b]at e;exact oP e) (UZ ((mL h D).2 i j e) ⟨V,V⟩ p e V l f v t))
def GN(h:iy A B n m)(a:iy x y n m)(d:D+D+0=n+m+o)(b:o<=D)(c:NM n m (xt A B n m) (xt x y n m) D o):False:=by
 have w:∀i j i' j',i+j=D->i'+j'+o=D->i+i'=m->j+j'=n->False:=λi j i' j' e k g f=>by
  have:=c i j i' j' e k<|by unfold gq;exact U g<|U f<|U (fh _ _) V
  exact qH.mpr this<|aE (bb f.symm)<|ed ((mL h D).1 i j e).a.1 ((mL a _).1 i' j' V).a.1
 exact bq (jv n D) (λl=>w _ n _ 0 (cb l) (cN<|cA [_,_,_] [] (.c<|.a (.a bA<|.n 0) aZ) af [.e 1 (.c<|.a bA aZ) af] V<|nE<|cb b) (cN<|cA [_,_,_,_,_,_] [] (.c<|.a cX dy) bf [.e 1 (.c<|.a (.a bo bo)<|.n 0)<|.c<|.a (.a aZ bA) bK,.e 1 (.c<|.a cX aZ) af,.e 1 (.c<|.a dy bK) af] V (nE d) (nE<|cb l)<|nE<|cb b) V) λl=>w 0 D m _ (cy _) (cN<|cA [_,_,_,_,_] [] (.c<|.a (.a bA cX) bK) af [.e (-1) (.c<|.a (.a bo bo)<|.n 0)<|.c<|.a (.a aZ bA) bK,.e 1 (.c<|.a cX bo) aG] V (nE d)<|nE<|cb l) (cy _)<|eT l
def XC(a:((n:Int)-m)%2=o)(e:i+j=D+1)(b:H+o=D+1):(H+((n:Int)-m-(j-i)))%2=0:=Int.emod_eq_zero_of_dvd ⟨i+(n-m)/2,by have h:=Int.mul_ediv_add_emod (n-m) 2;exact cA [_,_,_,_,_,_,_] [_,_] (.a dA<|.s (.s jS<|.c<|.v 6)<|.s bf aG) (.m 2<|.a aG bS) [.e 1 aI af,.e (-1) (.c<|.a aZ bA)<|.c<|.a bK<|.n 1,.e 1 (.c<|.a cX bo)<|.c<|.a bK<|.n 1,.e (-1) (.a (.m 2 bS) aI)<|.s jS<|.c<|.v 6] V a (nE e) (nE b) h⟩
def XD{H:Nat}{κ:Int}(p:(H+κ)%2=0)(l:¬H<κ.natAbs):∃i' j',i'+j'=H/\j'-i'=κ:=by refine aF (Int.dvd_of_emod_eq_zero p) λt h=>?_;exact gc (H-t.toNat) t.toNat (i7 (H) _ (λf d=>cN<|cA [_,_,_] [] (.c<|.a aZ bA) af [.e 1 (.c<|.a aZ bA) af] V d) λf d=>cN<|fZ (λi=>aJ [_,_,_] [] [.l 1 af bf,.l 1 (.a (.c<|.a aZ bA) aM) af] V f i) λi=>aJ [_,_,_,_] [_,_] [.l 1 aG af,.e (-1) (.a af aI)<|.m 2 bS,.l 1 aI aG,.e 2 cM bS,.e 2 bf bJ,.l 2 (.a af aM)<|.c<|.a bA bK] V (tN l) h (fJ<|κ) (g7<|b9 (a:=0) (b:=t) λz=>aJ [_,_] [_,_] [.l 1 aG af,.e 1 (.a af aI)<|.m 2 bS,.l 1 (.g aI) aG,.l 2 (.a bS aM) bJ] V (tN l) h (fK<|κ) z) d i)<|cA [_,_,_] [_,_] (.s aG bf) aI [.e (-1) (.a af aI)<|.m 2 bS,.e 2 aG bS,.e (-1) (.c<|.a bA aZ) af] V h (g7<|b9 λz=>aJ [_,_] [_,_] [.l 1 aG af,.e 1 (.a af aI)<|.m 2 bS,.l 1 (.g aI) aG,.l 2 (.a bS aM) bJ] V (tN l) h (fK<|κ) z)<|nE<|cb<|b8 λz=>aJ [_,_,_] [_,_] [.l 1 aG af,.e (-1) (.a af aI)<|.m 2 bS,.l 1 aI aG,.e 2 bf bS,.l 2 (.c<|.a bo aX) bf] V (tN l) h (fJ<|κ) (g7<|b9 λz=>aJ [_,_] [_,_] [.l 1 aG af,.e 1 (.a af aI)<|.m 2 bS,.l 1 (.g aI) aG,.l 2 (.a bS aM) bJ] V (tN l) h (fK<|κ) z) z
def XE(b:((n:Int)-m)%2=o)(e:i+j=D+1)(a:H+o=D+1)(l:¬H<(n-m-((j:Int)-i)).natAbs):∃i' j',i'+j'=H/\(j':Int)-i'=(n:Int)-m-(j-i):=
 XD (XC b e a) l
def Ja(e:(j':Int)-i'=(n:Int)-m-((j:Int)-i)):gq n m i j i' j':=by exact cN<|cA [_,_,_,_,_,_] [] (.c<|.a (.a cX bo) bK) (.c<|.a (.a dy aZ) bA) [.e 1 (.s af aG)<|.s (.s bf cM)<|.s dA jS] V e
def XF(e:gq n m i j i' j'):(j':Int)-i'=(n:Int)-m-((j:Int)-i):=by exact cA [_,_,_,_,_,_] [] (.s aG dA) (.s (.s jS bf)<|.s af cM) [.e 1 (.c<|.a (.a bo aZ) bA)<|.c<|.a (.a bK cX) dy] V<|nE e
end
section
variable {g:Gm}{n m D o i j H q N:Nat}{f:IF}{x x':T2}
def EC(z:g.m[dq]? =Y (Y<|.f q))(r:g.m[8]? =Y (Y<|.c<|n-m))(p:g.m[12]? =Y (Y<|.c<|j-i))(s:g.m[13]? =Y (Y<|.c<|x i j))(E:g.m[6]? =Y (Y<|.c n))
  (B:g.H q=Y (.c f N)) (C:Dk f H x') (A:Dn f H) (e:i+j=D+1) (v:H+o=D+1):
  ∃c,ae g (.t [.h .a (.j .d false (.d 8)<|.e<|.c 2)<|.e<|.c o,.h .g (.j .b false (.d 8)<|.d 12)<|.d dq,.h .i (.j .a false (.d 13)<|.l (.d dq)<|.j .b false (.d 8)<|.d 12)<|.d 6]) (.e c)/\
   (c=true->((n:Int)-m)%2=o/\∃i' j',i'+j'+o=D+1/\gq n m i j i' j')/\(c=false->((n:Int)-m)%2=o->∀i' j',i'+j'+o=D+1->gq n m i j i' j'->x i j+x' i' j'<n):=by
 have t:ae g (.h .a (.j .d false _ _) _)<|.e<|decide (((n:Int)-m)%2=o):=i6 (wb (J r) aL ⟨by decide,by decide⟩) aL;have y:ae g (.h .g (.j .b false _ _) _) _:=Ow (c3 (J r)<|J p) (J z) B;have a:∀i' j',i'+j'+o=D+1->gq n m i j i' j'->f (n-m-(j-i))=Y _:=λi' j' h f=>by exact aP (XF f)<|C i' j'<|yB<|h.trans v.symm
 by_cases L:((n:Int)-m)%2=o
 ·by_cases l:H<((n:Int)-m-((j:Int)-i)).natAbs;·exact(cq (decide _&&((f _).isSome&&false)) (kc t λ_=>d4 y λk=>(by rw[A _ l]at k;exact aV k)) (λh=>(by rw[sY,sY]at h;exact aV h)) λ_ _ i' j' h f=>nomatch (a i' j' h f).symm.trans<|A _ l)
  ·refine fY (XE L e v l) λi' j' F w=>?_;have d:=F▸v;have u:=a i' j' d<|Ja w;refine(cq _ (kc t λ_=>d4 y λk=>q9 (eA (J s)<|mG (J z) B (c3 (J r)<|J p) u)<|J E) (λ_=>⟨L,i',j',d,Ja w⟩) λh _ K M I G=>?_);rw[decide_eq_true L,u]at h;have b:=a K M I G;rw[u]at b;injection b with b;injection b with b;exact aP (i4.mp b)<|yN.mp<|sT.mp<|of_decide_eq_false h
 ·exact cq (decide (((n:Int)-m)%2=o)&&false) (kc t λk=>(L<|of_decide_eq_true k).elim) (λh=>(by rw[sY]at h;exact aV h)) λ_ k=>(L k).elim
end
noncomputable def Hp.ds(H:Hp)(p q:Nat)(f g:IF×Nat):Hp:=(H.ag p<|.c f.1 f.2).ag q<|.c g.1 g.2
section
variable {A B:List Int}{l n bl m p q i k D N:Nat}{vg vc:AV}{a dx:Nat}{H:Hp}{o1 o o3:Option AV}{f g:IF×Nat}{K:FK}
def Hp.ax(h:H p=O)(a:H q=O):H.aq<|H.ds p q f g:=Hp.aj (Hp.ah h _) a _
def SM(l:v+i=w+k):bl+v-((k:Int)-i)=(bl+w:Nat):=G4 l
def SO(h:v<=n):((l+n:Nat):Int)-v=(l+(n-v):Nat):=cA [_,_,_,_] [] (.s (.c<|.a bA aZ) af) (.c<|.a bA bK) [.e (-1) (.c<|.a bK bo) aG] V<|nE<|cb h
def SN(l:v+i=w+k)(h:w<=m):(bl+m:Nat)-v+((k:Int)-i)=(bl+(m-w):Nat):=cA [_,_,_,_,_,_,_] [] (.a (.s (.c<|.a dy cX) af)<|.s cM aG) (.c<|.a dy<|.v 6) [.e (-1) (.c<|.a bo aZ)<|.c<|.a bA bK,.e (-1) (.c<|.a (.v 6) bA) dA] V (nE l)<|nE<|cb h
noncomputable def CF(l n bl m:Nat)(H:Hp)(K:FK):Prop:=∀a b d c,(a<=n/\b<=m)->¬(a=0/\b=0)->¬(a=n/\b=m)->H.aq c->K (.c<|.l [.c (l+a:Nat),.c (bl+b:Nat)]) d c
def OT(a0:H a=fj A B dx vg vc)(L:l+n<=A.length)(S:bl+m<=B.length)(z:H p=O)(C:H q=O)(G:p≠q)(P:0<n)(W:0<m)(a4:D<=60)(v:iy (dJ A l) (dJ B bl) n m)(a2:iy (dQ A l n) (dQ B bl m) n m)
  (b:FI n m (xt (dJ A l) (dJ B bl) n m) (xt (dQ A l n) (dQ B bl m) n m) 1 (((n:Int)-m)%2=1) D k f) (Q:Dk g.1 D<|xt (dQ A l n) (dQ B bl m) n m) (x:Dn g.1 D) (nm:((n:Int)-m)%2=1->NM n m (xt (dJ A l) (dJ B bl) n m) (xt (dQ A l n) (dQ B bl m) n m) D 1) (e:i+k=D+1)
  (hR:CF l n bl m H K) (R:∀s' o,FI n m (xt (dJ A l) (dJ B bl) n m) (xt (dQ A l n) (dQ B bl m) n m) 1 (((n:Int)-m)%2=1) D (k+1) s'->K .a (h6 a l n bl m p q o1 (Y<|.c<|k-i) o) (H.ds p q s' g)):
  aK (aR prog<|N+1) H7 (h6 a l n bl m p q o1 (Y<|.c<|k-i) o3) K (H.ds p q f g):=by
 have F:(H.ds p q f g) p=Y _:=(Hp.I _ _ G).trans<|Hp.t _ _ _;refine fQ λE=>dP (bB J J)<|I2 F b.a b.c e ?_;refine fP (λs:Nat×Nat=>h6 a l n bl m p q o1 _ _) (λ_=>_) _ _ (λr s h=>WV ((Hp.ax z C) _ _ a0) L S h) n _ ⟨⟨(wK i k D e).symm.trans V,cW _ _⟩,(Cb i k D e λi j _=>rK v).2.2⟩ λs t=>?_;refine U t ?_;refine wC J J J F (cH b.l<|by have:=e▸cW k i;exact b8 λM=>aJ [_,_] [] [.l 65 af<|.c<|.n 60,.l 1 aG<|.c<|.a bo<|.n 1,.l 1 (.c<|.a (.n 1048576) aX)<|.c<|.a (.a (.a (.m 64 bo) aZ)<|.n 1) aX] V (nl a4) (nl this) M) λd u=>?_;have I:(H.ds p q f g).ag p (.c (hD f.1 (k-i)<|.c<|xt (dJ A l) (dJ B bl) n m i k) d)=H.ds p q (hD f.1 (k-i)<|.c<|xt (dJ A l) (dJ B bl) n m i k,d) g:=by exact aP (Hp.av _ _ _ G)<|U (Hp.ak _ _ _ _) V
 refine cw (EC (g:=⟨aR prog<|N+1,h6 a l n bl m p q o1 (Y _)<|Y<|.c<|xt (dJ A l) (dJ B bl) n m i k,[],H.ds p q (hD f.1 (k-i)<|.c<|xt (dJ A l) (dJ B bl) n m i k,d) g⟩) (dq:=10) (n:=n) (m:=m) (o:=1) V V V V V (Hp.t _ _ _) Q x e V) λc a1 a3 Z=>?_;refine aP I.symm ?_;refine cg a1 (λw=>?_) λw=>bT<|bO<|R _ _<|b.G e u λod i' j'=>Z w od i' j';refine rP (a3 w) λod i' j' T X=>?_;have y:=GP v a2 P W (nm od) e T (bN _) X;exact cQ (cO<|bB (eI J J)<|ez (c3 (eA J J) J)<|SM<|rK (i:=i) (j:=k) v)<|gP<|hR _ _ _ _ y.1 y.2.1 y.2.2<|Hp.ax z C
def EM(l:b<=a)(h:a-b=a):b=0:=ll<|(congrArg (·+b) h).symm.trans<|cb l
def OU(R:H a=fj A B dx vg vc)(G:l+n<=A.length)(P:bl+m<=B.length)(z:H p=O)(C:H q=O)(a3:p≠q)(L:0<n)(T:0<m)(S:D<=60)(F:iy (dJ A l) (dJ B bl) n m)(w:iy (dQ A l n) (dQ B bl m) n m)
  (d:FI n m (xt (dQ A l n) (dQ B bl m) n m) (xt (dJ A l) (dJ B bl) n m) 0 (((n:Int)-m)%2=0) D k g) (M:Dk f.1 (D+1)<|xt (dJ A l) (dJ B bl) n m) (y:Dn f.1<|D+1) (nm:((n:Int)-m)%2=0->NM n m (xt (dQ A l n) (dQ B bl m) n m) (xt (dJ A l) (dJ B bl) n m) D 0) (e:i+k=D+1)
  (X:CF l n bl m H K) (a1:∀s' o,FI n m (xt (dQ A l n) (dQ B bl m) n m) (xt (dJ A l) (dJ B bl) n m) 0 (((n:Int)-m)%2=0) D (k+1) s'->K .a (h6 a l n bl m p q o1 (Y<|.c<|k-i) o) (H.ds p q f s')):
  aK (aR prog<|N+1) HZ (h6 a l n bl m p q o1 (Y<|.c<|k-i) o3) K (H.ds p q f g):=by
 refine fQ λE=>dP (bB J J)<|I2 (Hp.t _ _ _) d.a d.c e ?_;refine fP (λs:Nat×Nat=>h6 a l n bl m p q o1 (Y _) _) (λ_=>_) _ _ (λr s h=>WU ((Hp.ax z C) _ _ R) G P h) n _ ⟨⟨(wK i k D e).symm.trans V,cW _ _⟩,(Cb i k D e λi j _=>rK w).2.2⟩ λs u=>?_;refine U u ?_;refine wC J J J (Hp.t _ _ _) (cH d.l<|by have:=e▸cW k i;exact b8 λI=>aJ [_,_] [] [.l 65 af<|.c<|.n 60,.l 1 aG<|.c<|.a bo<|.n 1,.l 1 (.c<|.a (.n 1048576) aX)<|.c<|.a (.a (.a (.m 64 bo) aZ)<|.n 1) aX] V (nl S) (nl this) I) λt v=>?_;refine U (show(H.ds p q f g).ag q _=H.ds p q f (hD g.1 _ _,t)from Hp.ak _ _ _ _) ?_;refine cw (EC (g:=⟨aR prog<|N+1,h6 a l n bl m p q o1 (Y _)<|Y<|.c<|xt (dQ A l n) (dQ B bl m) n m i k,[],H.ds p q f (hD g.1 (k-i)<|.c<|xt (dQ A l n) (dQ B bl m) n m i k,t)⟩) (dq:=9) (n:=n) (m:=m) (o:=0) V V V V V ((Hp.I _ _ a3).trans<|Hp.t _ _ _) M y e V) λc a2 a4 W=>?_;refine cg a2 (λx=>?_) λx=>bT<|bO<|a1 _ _<|d.G e v λZ i' j'=>W x Z i' j';refine rP (a4 x) λZ i' j' Q a0=>?_;have b:=GP w F L T (nm Z) e Q (cB _) a0;exact cQ (cO<|bB (ez (c3 J J)<|SO b.1.1)<|ez (eA (c3 J J) J)<|SN (rK (i:=i) (j:=k) w) b.1.2)<|gP<|X _ _ _ _ ⟨eE _ _,eE _ _⟩ (λc=>b.2.2 ⟨dB b.1.1<|qI c.1,dB b.1.2<|qI c.2⟩) (λc=>b.2.1 ⟨EM b.1.1 c.1,EM b.1.2 c.2⟩)<|Hp.ax z C
end
section
variable {F:cF}{m:ba}{K:FK}{H:Hp}{r:List S}{i j:Nat}
def FC{f}(c:∀H,eM ⟨F,m,[],H⟩ xs vs)(h:mR k f vs=Y o)(q:∀a b,H a=O->(H.ag a o) b=O->aK F r ((m.set i<|Y<|.f a).set j<|Y<|.f b) K ((H.ag a o).ag b o)):
  aK F (.d (.d [i,j]) (.q [.B k f xs,.B k f xs])::r) m K H:=λa e=>c (H.ag a _) _ _ (by
 refine⟨Hp.t _ _ _,?_⟩;refine U h ?_;refine(?_:∀b,((H.ag a _).ag a o) b=O->_);refine U (Hp.ak _ _ _ _) ?_;refine λb d=>c ((H.ag a o).ag b _) _ _ (by refine⟨Hp.t _ _ _,?_⟩;refine U h ?_;refine(?_:aK F r ((m.set i<|Y<|.f a).set j<|Y<|.f b) K<|((H.ag a o).ag b _).ag b o);exact U (Hp.ak _ _ _ _)<|q a b e d))
def wD{e:Type}(n:eM ⟨F,m,[],H⟩ args vs)(w:dX k H vs=Y items)
  (L:e->ba) (a:Nat->e->Hp) (I:Nat->e->Prop) s (l:m=L s) (g:H=a 0 s) (x:I 0 s) (d:∀i s,I i s->eg k H (a i s) vs)
  (c:∀i v s,items[i]? =Y v->I i s->∀f,(∀y,I (i+1) y->f .a (L y) (a (i+1) y))->(∀v m H,K (.c v) m H->f (.c v) m H)->(match gn (L s) t u v with|some z=>aK F b z f (a i s)|none=>False))
  (q:∀s,I items.length s->aK F r (L s) K (a items.length s)):aK F (.j t u k args b::r) m K H:=
 zU n w L a I s l g x d (λi v s o p A j=>c i v s o p _ j λ_ _ _ h=>h) q
def Rg{f:Type}{lo:Nat}(p:eM ⟨F,m,[],H⟩ args [.c lo,.c (lo+n:Nat)])(j:lo+n<=sz)
  (L:f->ba) (d:Nat->f->Hp) (I:Nat->f->Prop) s (o:m=L s) (l:H=d 0 s) (u:I 0 s)
  (c:∀k s,k<n->I k s->∀g,(∀w,I (k+1) w->g .a (L w) (d (k+1) w))->(∀v m H,K (.c v) m H->g (.c v) m H)->aK F b ((L s).set t<|Y<|.c (lo+k:Nat)) g (d k s))
  (q:∀s,I n s->aK F r (L s) K (d n s)):aK F (.j [t] false .b args b::r) m K H:=by
 refine wD p (items:=(fm n lo 1).map .c) ?_ L d I s o l u (λ_ _ _=>trivial) (λi v s a e=>?_) λs e=>?_
 ·refine(?_:(if((lo:Int).natAbs<=sz/\((lo+n:Nat):Int).natAbs<=sz)then Y _ else O)=_);exact U (if_pos ⟨aE (bj _ _) j,j⟩)<|U (wO _ _) V
 ·rw[gh,wQ]at a;by_cases h:i<n;·rw[if_pos h]at a;(have a:=bz a;subst a);exact c i s h e
  ·rw[if_neg h]at a;exact aS a
 ·rw[bx,zX]at e |- ;exact q s e
def Sk a:∀n k,(fm n a 2)[k]? =if k<n then Y<|a+2*k else O:=by
 intro n;induction n generalizing a with
 |zero=>intro k;rfl
 |succ n i=>
  intro k;induction k using Nat.casesAuxOn with
  |zero=>exact congrArg Y (ka a).symm
  |succ k=>
   refine U (i _ k) ?_;by_cases h:k<n;·refine U (if_pos h)<|U (if_pos<|ij h) ?_;exact congrArg Y<|cA [_] [_] (.a (.a aI<|.n 2)<|.m 2 af) (.a aI<|.m 2<|.c<|.a bo<|.n 1) [] V
   ·exact U (if_neg h)<|U (if_neg λb=>h<|oR b) V
def Sj l:∀n,(fm n l 2).length=n:=by
 intro n;induction n generalizing l with
 |zero=>rfl
 |succ n i=>exact congrArg _<|i _
def Si D:hZ (-(D+1:Nat)) ((D+1:Nat)+1) 2=fm (D+2) (-(D+1:Nat)) 2:=by unfold hZ;exact U (if_pos<|by decide)<|U (show((((D+1:Nat):Int)+1- -(D+1:Nat)+2-1)/2).toNat=D+2 by exact pB _ (λf d=>BO ((↑(D+1))+1- -(↑(D+1))+2-1) 2 (by decide) λb z=>cN<|fZ (λh=>aJ [_,_] [_] [.l 2 aI af,.l 1 (.a (.s (.a (.s (.a (.c<|.a aZ<|.n 1) aM)<|.g<|.c<|.a aZ<|.n 1)<|.n 2) aM) aM)<|.a (.m 2 aI)<|.n 2,.l 2 (.a af aM)<|.c<|.a aZ<|.n 2] V (vP<|((↑(D+1):Int)+1- -(↑(D+1):Int)+2-1)/2) z h) λh=>aJ [_,_] [_] [.e 2 af aI,.l 1 (.m 2 aI)<|.s (.a (.s (.a (.c<|.a aZ<|.n 1) aM)<|.g<|.c<|.a aZ<|.n 1)<|.n 2) aM,.l 2 (.a (.c<|.a aZ<|.n 2) aM) af] V d b h) λf d=>BO ((↑(D+1):Int)+1- -(↑(D+1):Int)+2-1) 2 (by decide) λb z=>(aJ [_] [_] [.l 2 aI bJ,.l 1 (.a (.s (.a (.s (.a (.c<|.a bo<|.n 1) aM)<|.g<|.c<|.a bo<|.n 1)<|.n 2) aM) aM)<|.a (.m 2 aI)<|.n 2] V f z).elim) V
def VI{D k:Nat}(h:k<D+2):-(D+1:Nat)+2*k=(k:Int)-(D+1-k:Nat):=cA [_,_,_] [] (.a (.g<|.c<|.a aZ<|.n 1)<|.m 2 af) (.s af bf) [.e 1 (.c<|.a bA bo)<|.c<|.a aZ<|.n 1] V<|nE<|cb<|b8 λz=>aJ [_,_] [] [.l 1 (.c<|.a bo aX)<|.c<|.a aZ<|.n 2,.l 1 (.c<|.a (.a aZ<|.n 1) aX) af] V (nl h) z
def Fu{g:Type}(o:eM ⟨F,m,[],H⟩ args [.c<|-(D+1:Nat),.c<|(D+1:Nat)+1,.c 2])(j:D+2<=sz)
  (L:g->ba) (c:Nat->g->Hp) (I:Nat->g->Prop) s (n:m=L s) (l:H=c 0 s) (p:I 0 s)
  (d:∀k i s,i+k=D+1->I k s->∀e,(∀u,I (k+1) u->e .a (L u) (c (k+1) u))->(∀v m H,K (.c v) m H->e (.c v) m H)->aK F b ((L s).set t<|Y<|.c<|k-i) e (c k s))
  (q:∀s,I (D+2) s->aK F r (L s) K (c (D+2) s)):aK F (.j [t] false .b args b::r) m K H:=by
 refine wD o (items:=(fm (D+2) (-(D+1:Nat)) 2).map .c) ?_ L c I s n l p (λ_ _ _=>trivial) (λk v s a f=>?_) λs f=>?_
 ·refine(?_:(if((-((D+1:Nat):Int)).natAbs<=sz/\(((D+1:Nat):Int)+1).natAbs<=sz/\(2:Int).natAbs<=2/\(2:Int)≠0)then Y<|(hZ _ _ 2).map AV.c else O)=_);exact U (if_pos<|e8 (U (DN _)<|sD j) j (by decide)<|by decide)<|U (Si _) V
 ·rw[gh,Sk]at a;by_cases h:k<D+2
  ·rw[if_pos h]at a;(have a:=bz a;subst a);refine(?_:∀e,_->_->aK F b ((L s).set t<|Y<|.c<|-(D+1)+2*k) e _);exact U (VI h)<|d k _ s (cb<|f6 h) f
  ·rw[if_neg h]at a;exact aS a
 ·rw[bx,Sj]at f |- ;exact q s f
end
structure RI(n m:Nat)(x x':T2)(D:Nat)(f g:IF×Nat):Prop where
 f:Dk f.1 D x/\Dn f.1 D/\f.2<=64*D+1
 g:Dk g.1 D x'/\Dn g.1 D/\g.2<=64*D+1
 a:((n:Int)-m)%2=1->NM n m x x' D 1
 b:((n:Int)-m)%2=0->NM n m x' x D 0
section
variable {A B:List Int}{al n bl m p q i k D N:Nat}{vg vc:AV}{c dx:Nat}{H:Hp}{X Z:Option AV}{f g:IF×Nat}{K:FK}
def RQ(I:H c=fj A B dx vg vc)(L:al+n<=A.length)(C:bl+m<=B.length)(M:H p=O)(G:H q=O)(E:p≠q)(T:0<n)(Q:0<m)(l:D<=60)(P:iy (dJ A al) (dJ B bl) n m)(a0:iy (dQ A al n) (dQ B bl m) n m)
  (h:RI n m (xt (dJ A al) (dJ B bl) n m) (xt (dQ A al n) (dQ B bl m) n m) D f g) (F:CF al n bl m H K)
  (W:∀a1 S o o',RI n m (xt (dJ A al) (dJ B bl) n m) (xt (dQ A al n) (dQ B bl m) n m) (D+1) a1 S->K .a (h6 c al n bl m p q (Y<|.c (1+D:Nat)) o o') (H.ds p q a1 S)):
  aK (aR prog<|N+1) H8 (h6 c al n bl m p q (Y<|.c (1+D:Nat)) X Z) K (H.ds p q f g):=by
 have z:D+2<=sz:=aE (hS l 2)<|by decide
 have R:∀{H}{X Z},eM ⟨aR prog<|N+1,h6 c al n bl m p q (Y<|.c (1+D:Nat)) X Z,[],H⟩ [.y<|.d 11,.j .a false (.d 11)<|.e<|.c 1,.e<|.c 2] [.c<|-(D+1:Nat),.c<|(D+1:Nat)+1,.c 2]:=by intro H X Z;refine U (fh D 1) ?_;exact bt (gi J)<|bB (eA J aL) aL
 refine Fu R z (λs=>h6 c al n bl m p q (Y<|.c<|1+D) s.2.1 s.2.2) (λ_ s=>H.ds p q s.1 g) (λk s=>FI n m _ _ 1 _ D k s.1) (f,X,Z) V V (FI.u h.f.1 h.f.2.1 h.f.2.2)
  (λk i s e u a2 j r=>OT I L C M G E T Q l P a0 u h.g.1 h.g.2.1 h.a e (λa b m' H' x w y v=>r _ _ _<|F a b m' H' x w y v) λs' o d=>j (s',_,o) d) λs u=>?_
 have e:=u.w l;refine Fu R z (λt=>h6 c al n bl m p q (Y<|.c<|1+D) t.2.1 t.2.2) (λ_ t=>H.ds p q s.1 t.1) (λk t=>FI n m _ _ 0 _ D k t.1) (g,s.2.1,s.2.2) V V (FI.u h.g.1 h.g.2.1 h.g.2.2)
  (λk i t a3 d a2 j r=>OU I L C M G E T Q l P a0 d e.1 u.c h.b a3 (λa b m' H' x w y v=>r _ _ _<|F a b m' H' x w y v) λs' o d=>j (s',_,o) d) λt d=>bO ?_
 exact W _ _ _ _ ⟨bW e.1 u.c e.2.1,bW (d.w l).1 d.c (d.w l).2.1,e.2.2,(d.w l).2.2⟩
def RI.s{x'}(g:0<n)(b:x 0 0=0)(h:x' 0 0=0){f}(c:f 0=Y (.c 0))(o:∀k,k≠0->f k=O):RI n m x x' 0 (f,1) (f,1):=by
 have z:∀i j,i+j=0->i=0/\j=0:=λi j e=>⟨qJ e,qK e⟩;have d:Dn f 0:=λk l=>o k λe=>by rw[e]at l;exact dk _ l
 exact⟨bW (λi j e=>by refine U (z i j e).1<|U (z i j e).2<|U b ?_;exact c) d<|bN _,bW (λi j e=>by refine U (z i j e).1<|U (z i j e).2<|U h ?_;exact c) d<|bN _,
  λ_ i j p q _ e=>oP e,λ_ i j p q e a _=>by refine U (z i j e).1 (U (z i j e).2 (U (z p q a).1 (U (z p q a).2 (U b (U h ?_)))));exact g⟩
def WT(a3:H c=fj A B dx vg vc)(S:al+n<=A.length)(L:bl+m<=B.length)(F:0<n)(y:0<m)(a0:n+m<=60)(W:gN A al≠gN B bl)(P:gN A (al+n-1)≠gN B (bl+m-1))
  (a1:∀a b,(a<=n/\b<=m)->¬(a=0/\b=0)->¬(a=n/\b=m)->Q (.l [.c (al+a:Nat),.c (bl+b:Nat)]) H):aR prog (N+2) 8 [.f c,pv al n bl m] Q E H:=by
 have G:iy (dJ A al) (dJ B bl) n m:=λe=>P<|by refine U (sE F _)<|U (sE y _) ?_;exact e
 have C:iy (dQ A al n) (dQ B bl m) n m:=λe=>W<|by unfold dQ at e;rw[nB,nB]at e;exact e
 refine ct (m:=[Y _,Y _,O,O,O,O,O,O,O,O,O,O,O,O]) V V<|tA (J V)<|jD (cO<|bB (ez (c3 (J V)<|J V) (d:=n)<|cA [_,_] [] (.s (.c<|.a bo aZ) af) aG [] V)<|ez (c3 (J V)<|J V) (d:=m)<|cA [_,_] [] (.s (.c<|.a bo aZ) af) aG [] V)<|cv (c3 (J V)<|J V)<|FC (λ_=>cJ aL) V λp q T r=>?_;have I:p≠q:=λe=>by rw[e,Hp.t]at r;exact aS<|cc r
 refine Rg (lo:=1) (n:=(n+m+1)/2) (bB aL<|ez (eA (zt (eA (eA (J V)<|J V) aL) aL ⟨by decide,by decide⟩) aL) (jR (n+m+1) 2 (by decide) (λz f=>BO (↑n+↑m+1) 2 (by decide) λt u=>fZ (λg=>aJ [_,_,_] [_] [.l 1 (.c<|.a (.a (.a bo aZ)<|.n 1) aX)<|.c<|.a (.m 2 bA)<|.n 2,.l 1 (.m 2 aI)<|.a (.a af aG) aM,.l 2 (.a (.a aM bf) aM)<|.a aI aM] V f t g) λg=>aJ [_,_,_] [_] [.l 1 (.c<|.m 2 bA)<|.c<|.a (.a bo aZ)<|.n 1,.l 1 (.a (.a (.a af aG) aM) aM)<|.a (.m 2 aI)<|.n 2,.l 2 (.a (.a aI aM) aM)<|.a aM bf] V z u g):1+((n+m+1)/2:Nat)=((n:Int)+m+1)/2+1).symm) (aE (b8 λg=>jR (n+m+1) 2 (by decide) λz f=>aJ [_,_,_] [] [.l 1 (.c<|.a bo aZ)<|.c<|.n 60,.l 2 (.c<|.a (.n 61) aX)<|.c<|.a (.n 1) bA,.l 1 (.c<|.m 2 bA)<|.c<|.a (.a bo aZ)<|.n 1] V (nl a0) g z) (show 61<=sz by decide)) (λs=>h6 c al n bl m p q s.2.1 s.2.2.1 s.2.2.2) (λ_ s=>H.ds p q s.1.1 s.1.2) (λD s=>RI n m _ _ D s.1.1 s.1.2)
  ((((λx=>oX x [(0,AV.c 0)]),1),(λx=>oX x [(0,AV.c 0)]),1),O,O,O) V V (RI.s F (x:=xt (dJ A al) (dJ B bl) n m) (x':=xt (dQ A al n) (dQ B bl m) n m) V V V λk h=>?_) (λD s a2 i K' j v=>?_) λs i=>?_
 ·refine(?_:(match k==0 with|true=>Y (AV.c 0)|false=>O)=O);exact U (beq_eq_false_iff_ne.mpr h) V
 ·exact RQ (D:=D) a3 S L T ((Hp.I _ _ I.symm).symm.trans r) I F y (b8 λg=>jR (n+m+1) 2 (by decide) λz f=>aJ [_,_,_,_] [] [.l 1 (.c<|.a bo aZ)<|.c<|.n 60,.l 2 (.c<|.a bK aX) bf,.l 2 (.c<|.a (.n 60) aX) cM,.l 1 (.c<|.m 2 bA)<|.c<|.a (.a bo aZ)<|.n 1] V (nl a0) (nl a2) g z) G C i (λa b m' H' K R X M=>v _ _ _<|aO H M<|a1 a b K R X) λa4 Z o l w=>j ((a4,Z),_,o,l) w
 ·exact bq (Int.emod_two_eq<|(n:Int)-m) (λh=>(GN (o:=0) C G (by omega) (cB _)<|i.b h).elim) λh=>(GN (o:=1) G C (by omega) (by exact b8 λg=>jR (n+m+1) 2 (by decide) λz f=>aJ [_,_,_] [] [.l 1 (.c<|.a (.n 0) aX) aG,.l 2 (.c<|.a bA aX)<|.c<|.n 1,.l 1 (.c<|.a (.a (.a bo aZ)<|.n 1) aX)<|.c<|.a (.m 2 bA)<|.n 2] V (nl y) g f)<|i.a h).elim
end
noncomputable def kj(p:Pt):AV:=pv p.1 p.2.1 p.2.2.1 p.2.2.2
section
variable {g:Gm}{F:cF}{m d:ba}{K:FK}{H:Hp}{r:List S}{x y z:X}{i j k l:Nat}{a C dx f:Nat}{v w u:AV}{ls b:List AV}{E Q:VK}
def Jr(o:cf H u=Y ls):rR H u (.g [])=Y ls.isEmpty:=by
 have e:rR H u (.g [])=BE H u (.g []):=by induction u using bc.AV.casesOn<;>first|rfl|cases o
 refine U e<|(?_:(cf H u).bind _=_);refine U o ?_;induction ls using List.casesOn<;>rfl
def iJ(h:ae g x u)(o:cf g.H u=Y ls):ae g (.h .c x<|.m false [])<|.e<|!ls.isEmpty:=fW h qX<|by refine(?_:sx _ _=_);refine U (Jr o) ?_;rfl
def ti(h:ae g x u)(o:cf g.H u=Y ls):ae g (.h .a x<|.m false [])<|.e ls.isEmpty:=fW h qX<|Jr o
def kg(h:∀E,den F E m [] x (λ_=>aK F r m K) H):aK F (.e x::r) m K H:=h _
def zR(h:∀E Q,(∀a b c d e,aK F r ((((m.set i<|Y a).set j<|Y b).set k<|Y c).set l<|Y d) K e->Q (.l [a,b,c,d]) e)->den F E m [] x Q H):aK F (.d (.d [i,j,k,l]) x::r) m K H:=h _ _ λ_ _ _ _ _ q=>q
def tB(h:∀E Q,(∀a b c,aK F r ((m.set i<|Y a).set j<|Y b) K c->Q (.l [a,b]) c)->den F E m [] x Q H):aK F (.d (.d [i,j]) x::r) m K H:=h _ _ λ_ _ _ q=>q
def BS(e:ae ⟨F,m,d,H⟩ x u)(b:lR H u=Y C)(c:ae ⟨F,m,d,H⟩ y<|.f a)(h:H a=Y (.b<|ls++[v]))(k:F f [u,v] Q E<|H.ag a<|.b ls):den F E m d (.o C f x [.r .l [y]]) Q H:=
 e E _ ⟨b,c E _ ⟨gc a _ V h,dG a _ v V h vE<|U Mv<|k⟩⟩
end
noncomputable def wt:Nat->Nat
 |0=>1
 |s+1=>2*s+1
noncomputable def nQ(S:List Pt):Nat:=(S.map λp=>wt<|p.2.1+p.2.2.2).sum
def y6:0<wt s:=by induction s using Nat.casesAuxOn<;>exact fU _
def D5(h:s<=t):wt s<=wt t:=by
 induction s using Nat.casesAuxOn with
 |zero=>exact y6
 |succ s=>induction t using Nat.casesAuxOn with
  |zero=>exact(u9 _ h).elim
  |succ t=>exact c7<|j5 2<|nG h
def N4(b:0<s)(h:0<t):wt t+wt s<wt (s+t):=by
 induction s using Nat.casesAuxOn with
 |zero=>exact(dk _ b).elim
 |succ s=>induction t using Nat.casesAuxOn with
  |zero=>exact(dk _ h).elim
  |succ t=>refine(?_:2*t+1+(2*s+1)<2*(s+1+t)+1);exact aW [_,_] (.a (.a (.a (.m 2<|.v 0)<|.n 1)<|.a (.m 2<|.v 1)<|.n 1)<|.n 1) (.a (.m 2<|.a (.a (.v 1)<|.n 1)<|.v 0)<|.n 1) [] V
section
variable {A B:List Int}{G C:List Bool}{Z dx g c w N:Nat}{H:Hp}{E Q:VK}{W S:List Pt}{al n bl m x y l:Nat}
def Sh.p(h:Sh H Z dx A B g c G C)(a:H w=O):Sh (H.ag w o) Z dx A B g c G C:=
 ⟨(Hp.I _ _<|Hp.ne h.s a).trans h.s,(Hp.I _ _<|Hp.ne h.t a).trans h.t,(Hp.I _ _<|Hp.ne h.D a).trans h.D,h.n,h.l,h.z⟩
def Am(h:w≠g)(a:w≠c):(H.ag w o).au g c G' C'=(H.au g c G' C').ag w o:=by unfold Hp.au;exact U (Hp.av _ _ _ h)<|U (Hp.av _ _ _ a) V
def rq(h:Sh H Z dx A B g c G C)(a:H w=O):H.au g c G' C' w=O:=by unfold Hp.au;refine U (Hp.I _ _ (Hp.ne h.D a).symm)<|U (Hp.I _ _ (Hp.ne h.t a).symm) ?_;exact a
def AI.t{A B}{G C}(h:AI A B G C x y<|(al,n,bl,m)::W):al+n<=x/\bl+m<=y:=h.elim λp h=>h.elim λq h=>⟨h.1.1▸bj _ _,h.1.2▸bj _ _⟩
theorem AI.mk(h:AI (gN A) (gN B) (gB G) (gB C) x y<|(al,n,bl,m)::W)(l:al+n<=G.length)(a:bl+m<=C.length):AI (gN A) (gN B) (gB<|mk G al n) (gB<|mk C bl m) x y W:=AI.T h (w3 l)<|w3 a
abbrev K5:=List Pt×(List Bool×List Bool)×Option AV×Option AV×Option AV×Option AV×Option AV×Option AV
noncomputable def Bn(Z al n bl m w:Nat)(s:K5):ba:=[Y<|.f Z,Y<|pv al n bl m,Y<|.f w,s.2.2.1,s.2.2.2.1,s.2.2.2.2.1,s.2.2.2.2.2.1,s.2.2.2.2.2.2.1,s.2.2.2.2.2.2.2]
noncomputable def fD(H:Hp)(w:Nat)(S:List Pt):Hp:=H.ag w<|.b<|S.reverse.map kj
structure Mk(A B:List Int)(G C G' C':List Bool)(W:List Pt):Prop where
 l:G'.length=G.length/\C'.length=C.length
 a:AI (gN A) (gN B) (gB G') (gB C') A.length B.length W
def rn{F}{m}{x y}(a:ae ⟨F,m,[],fD H w S⟩ y<|.f w)(b:ae ⟨F,m,[],fD H w S⟩ x<|kj P)(h:S.length<sz)(q:aK F r m K<|fD H w<|P::S):aK F (.e (.r .a [y,x])::r) m K<|fD H w S:=
 pG kj P a b (U yE<|h) (by unfold fD at q;rw[oW]at q;exact q)
def zI:fD H w (P::S) w=Y (.b<|S.reverse.map kj++[kj P]):=by unfold fD;refine U (Hp.t _ _ _)<|U oW<|U cz ?_;rfl
def zH:(fD H w S).ag w o=H.ag w o:=Hp.ak _ _ _ _
def TR.p{k a b j:Nat}{G C:Nat->Bool}(t:TR A B al n bl m k a b j)(h:AI (gN A) (gN B) G C x y<|(al,n,bl,m)::W):AI (gN A) (gN B) G C x y<|(al+k,a,bl+k,b)::W:=
 AI.R (by refine aP t.e.1<|aP t.e.2 ?_;exact h) t.d t.q
def TR.o(t:TR A B al n bl m k n' m' j):n'<=n/\m'<=m:=⟨t.e.1▸aE (cW _ _) (bj _ _),t.e.2▸aE (cW _ _) (bj _ _)⟩
noncomputable def CJ(A B:List Int)(G C:List Bool)(W:List Pt)(k:Nat)(s:K5):Prop:=Mk A B G C s.2.1.1 s.2.1.2 (s.1++W)/\nQ s.1=k/\k<=200
def xY{α:Type}{l:List α}{a:α}:(l++[a]).isEmpty=false:=by induction l using List.casesOn<;>rfl
def Vi:S.length<=nQ S:=by
 induction S with
 |nil=>exact bN _
 |cons p S i=>refine(?_:S.length+1<=wt _+nQ S);exact U (fh S.length 1)<|ed y6 i
def aab{d i a b:Nat}(h:a<=d/\b<=i)(f:¬(a=0/\b=0))(g:¬(a=d/\b=i)):∃n m,d=a+n/\i=b+m/\0<a+b/\0<n+m:=by
 (refine aF (ik h.1) λn c=>?_;subst c)
 (refine aF (ik h.2) λm c=>?_;subst c)
 refine eX n m V V (kY λe=>f ⟨qJ e,qK e⟩)<|kY λe=>g ?_;refine U (qJ e)<|U (qK e) ?_;exact⟨V,V⟩
def N3{a b c d}(h:n'<=n/\m'<=m)(e:n'=a+c)(f:m'=b+d)(i:0<a+b)(g:0<c+d):nQ ((a1,c,b1,d)::(a2,a,b2,b)::S)<nQ ((al,n,bl,m)::S):=by refine(?_:wt (c+d)+(wt (a+b)+nQ S)<wt (n+m)+nQ S);refine aP (bY _ _ _) ?_;refine L5 (bX (N4 i g)<|D5 ?_) _;refine U (L7 _ _ _ _)<|aP e<|aP f ?_;exact ed h.1 h.2
def Sn:pv (al+a) n2 (bl+b) m2=.l [.c (al+a:Nat),.c (al+(a+n2):Nat),.c (bl+b:Nat),.c (bl+(b+m2):Nat)]:=by unfold pv;exact U (bY _ _ _)<|U (bY _ _ _) V
def XA(x:Sh H Z dx A B g c G C)(R:H w=O)(a4:A.length+B.length<=60)(h:CJ A B G C W l ((al,n,bl,m)::S,(G',C'),o1,o2,o3,o4,o5,o6))
  (z:∀a0 s',a0<l->CJ A B G C W a0 s'->K .a (Bn Z m9 n0 mY m0 w s') (fD (H.au g c s'.2.1.1 s'.2.1.2) w s'.1)):
  aK (aR prog<|N+2) AN (Bn Z m9 n0 mY m0 w ((al,n,bl,m)::S,(G',C'),o1,o2,o3,o4,o5,o6)) K (fD (H.au g c G' C') w<|(al,n,bl,m)::S):=by
 have d:Sh _ Z dx A B g c G' C':=x.q h.1.l.1 h.1.l.2;have i:=rq (G':=G') (C':=C') x R;have o:=h.1.a.t;have f:S.length+2<sz:=cH (hS (aE Vi<|aE (cW _ _)<|aE (bb h.2.1) h.2.2) 2)<|by decide
 have p:nQ S<l:=h.2.1▸yx y6;refine zR λE Q v=>BS J (dY (d.p i).s) J zI ?_;refine U zH ?_;refine zA (d.p i).s o.1 o.2 λk y m' j t=>v _ _ _ _ _ ?_;have r:=t.p h.1.a;have o:=r.t;refine cg (gL (gu J J) λ_=>gu J J) (λ_=>?_) λu=>?_
 ·refine kg λE=>eZ J (dY (d.p i).s) (cJ<|cO<|bt J<|bt J<|bt J<|cJ J) (w9 (d.p i) (d.l.1▸o.1) (d.l.2▸o.2)<|bT<|bO ?_);refine U (Am (Hp.ne d.t i).symm (Hp.ne d.D i).symm)<|U (Hp.ay _ x.n) ?_;exact z _ (S,(mk G' _ y,mk C' _ m'),_,_,_,_,_,_) p<|bW ⟨⟨jd.trans h.1.l.1,jd.trans h.1.l.2⟩,r.mk (d.l.1▸o.1)<|d.l.2▸o.2⟩ V<|cI<|bX p h.2.2
 ·have u:=qS.mp u;have p1:0<y:=kY λe=>of_decide_eq_false u.1<|by refine U e ?_;rfl
  have p2:0<m':=kY λe=>of_decide_eq_false u.2<|by refine U e ?_;rfl
  refine tB λE Q v=>eZ J (dY (d.p i).s) (cJ<|cO<|bt J<|bt J<|bt J<|cJ J)<|WT (d.p i).s o.1 o.2 p1 p2 ?_ (t.f p1 p2) (t.l p1 p2) λa b X a5 T=>v _ _ _ ?_;·exact aE (ed (aE (cW _ _) o.1)<|aE (cW _ _) o.2) a4
  refine eh (aab X a5 T) λD L I F M a3=>?_;have q:=N3 (S:=S) (al:=al) (bl:=bl) (a1:=al+k+a) (b1:=bl+k+b) (a2:=al+k) (b2:=bl+k) t.o I F M a3;rw[I,F]at r |-;refine rn (P:=(al+k,a,bl+k,b)) J (cO<|bt J<|bt J<|bt J<|cJ J) (j7<|j7 f) ?_;refine rn (P:=(al+k+a,D,bl+k+b,L)) J (by refine(?_:ae _ _<|pv _ _ _ _);refine U Sn<|cO<|bt J<|bt J<|bt J<|cJ J) (j7 f)<|bT<|bO ?_;exact z _ ((al+k+a,D,bl+k+b,L)::(al+k,a,bl+k,b)::S,(G',C'),_,_,_,_,_,_) (h.2.1▸q)<|bW ⟨h.1.l,AI.D (s:=0) r .b⟩ V<|aE (cI q)<|h.2.1▸h.2.2
def Ay(a:Sh H Z dx A B g c G C)(d:A.length+B.length<=60)(h:AI (gN A) (gN B) (gB G) (gB C) A.length B.length<|(al,n,bl,m)::W)(q:∀r v,Mk A B G C r v W->Q .k (H.au g c r v)):
  aR prog (N+3) 9 [.f Z,pv al n bl m] Q E H:=by
 refine ct (m:=[Y _,Y _,O,O,O,O,O,O,O]) V V<|lD (cJ J) (by refine(?_:1<=sz);decide) λw f=>?_;have e:H.au g c G C=H:=by unfold Hp.au;exact U (Hp.ao _ a.t)<|U (Hp.ao _ a.D) V
 have:=fP (F:=aR prog<|N+2) (c:=Ho) (b:=AN) (K:=e7 Q E) (Bn Z al n bl m w) (λs=>fD _ w s.1) (CJ A B G C W) (λs=>Mk A B G C s.2.1.1 s.2.1.2 W) (λk s h=>?_) _
  ([(al,n,bl,m)],(G,C),O,O,O,O,O,O) (bW ⟨⟨V,V⟩,h⟩ V ?_) λs h=>bO<|iP (Hp.ah (rq a f) _)<|q _ _ h
 ·exact aP e<|this
 ·refine(aO _ (iJ J<|dT<|Hp.t _ _ _) ?_);obtain⟨S,⟨r,v⟩,j,p,t,o,l,u⟩:=s;induction S using List.casesOn with
  |nil=>exact⟨λh=>aV h,λ_=>h.1⟩
  |cons P S=>exact⟨λ_ K i=>XA a f d h i,λe=>by rw[oW,cz,show[P].map kj=[kj P]from V,xY]at e;exact aV e⟩
 ·exact aE (D5<|aE (ed (aE (cW _ _) h.t.1)<|aE (cW _ _) h.t.2) d)<|by decide
end
section
variable {g:Gm}{F:cF}{m b:ba}{K:FK}{H:Hp}{r:List S}{x y z:X}{i j k l:Nat}{a:Nat}{v w u:AV}{p:Bool}{f:IF}{n:Nat}{c:Int}
def El(h:ae g x<|.e p)(k:p=true->ae g y v)(l:p=false->ae g z w):ae g (.D x y z)<|bif p then v else w:=λE Q q=>h E _ (by
 induction p using Bool.casesOn;·exact l V E _ q
 ·exact k V E _ q)
def Eo(e:ae g x<|.f a)(h:g.H a=Y (.c f n))(d:ae g y<|.c c)(b:ae g z v):ae g (.r .s [x,y,z])<|(f c).getD v:=λE Q q=>e E _ ⟨⟨a,V,.inl ⟨f,n,h⟩⟩,d E _<|b E _<|.inl ⟨a,c,v,f,n,V,h,q⟩⟩
end
noncomputable def gQ(p:Nat×Nat):AV:=.l [.c p.1,.c p.2]
noncomputable def LP(A B:List Int)(al n bl m:Nat)(p:Nat×Nat):Prop:=(al<=p.1/\p.1<al+n)/\(bl<=p.2/\p.2<bl+m)/\gN A p.1=gN B p.2
noncomputable def tS(mN al n bl m:Nat)(o c b a:Option AV):ba:=[Y<|.f mN,Y<|pv al n bl m,Y<|.c al,Y<|.c (al+n:Nat),Y<|.c bl,Y<|.c (bl+m:Nat),o,c,b,a]
noncomputable def Bp(B:List Int)(bl m:Nat)(g:IF):Prop:=∀x u,g x=Y u->u=.c (-1)\/∃j:Nat,u=.c j/\(bl<=j/\j<bl+m)/\x=gN B j
section
variable {A B:List Int}{al n bl m p q w N:Nat}{vg vc:AV}{mN dx:Nat}{H:Hp}{f g:IF×Nat}{E Q:VK}
def xg{f}(h:hD f k v x=Y u):(x=k/\v=u)\/f x=Y u:=by
 unfold hD at h;by_cases q:x=k;·rw[if_pos q]at h;exact .inl ⟨q,bz h⟩
 ·rw[if_neg q]at h;exact .inr h
def VX{f}{P:AV->Prop}(a:P v)(h:∃u,f x=Y u/\P u):∃u,hD f k v x=Y u/\P u:=by
 by_cases q:x=k;·exact aO v (if_pos q) a
 ·exact h.imp λu h=>⟨(if_neg q).trans h.1,h.2⟩
def Bp.o{g}(b:Bp B bl m g)(e:(g c).getD (.c<|-1)=u):∃i,u=.c i/\(0<=i->∃j:Nat,g c=Y (.c j)/\(bl<=j/\j<bl+m)/\c=gN B j):=by
 cases h:g c with
 |none=>rw[h]at e;exact(aO (-1) e.symm λh=>absurd h<|by decide)
 |some v=>
  rw[h]at e;exact bq (b _ _ h) (λk=>(aO (-1) (e.symm.trans k) λh=>absurd h<|by decide)) λz=>aH z λj a d=>aO j (e.symm.trans a) λ_=>aO j (U a V) d
def Vb(a0:H mN=fj A B dx vg vc)(la:al+n<=A.length)(lb:bl+m<=B.length)(hz:A.length<=60/\B.length<=60)
  (hQ:∀L:List<|Nat×Nat,(∀c∈L,LP A B al n bl m c)->L.Pairwise (λa b=>a.1<b.1)->L.length<=60->Q (.g<|L.map gQ) H):aR prog (N+1) 10 [.f mN,pv al n bl m] Q E H:=by
 have G:=aE la hz.1;have zb:=aE lb hz.2;have D:60<=sz:=by decide
 refine ct (m:=[Y _,Y _,O,O,O,O,O,O,O,O]) V V<|tA J<|FC (λ_=>fN) V λp q hp R=>?_;have W:p≠q:=λe=>by rw[e,Hp.t]at R;exact aS<|cc R
 have S:∀f g,H.aq<|H.ds p q f g:=λf g=>Hp.ax hp<|(Hp.I _ _ W.symm).symm.trans R;have P:∀f g,(H.ds p q f g) p=Y _:=λf g=>(Hp.I _ _ W).trans<|Hp.t _ _ _;have a1:∀{k},k<n->al+k<A.length:=λh=>bX (dR h _) la;have Z:∀{k},k<m->bl+k<B.length:=λh=>bX (dR h _) lb;refine pF (bB J J) (aE G D) (λs:(IF×Nat)×Option AV=>tS mN al n bl m (Y _) _ s.2 O) (λ_ s=>H.ds p q s.1 (λx=>oX x [],0)) (λk s=>(∀i,i<k->∃u,s.1.1 (gN A<|al+i)=Y u/\∃v,u=.c v)/\s.1.2<=k) ((λx=>oX x [],0),O) V V ⟨λi h=>(lh _ h).elim,bN _⟩ (λk s y K X l=>?_) λs K=>?_
 ·refine wC (El (pn (fi (cL J (S _ _ _ _ a0) V) J<|a1 y) J<|P _ _) (λ_=>J V) λ_=>gi aL) J (fi (cL J (S _ _ _ _ a0) V) J<|a1 y) (P _ _) (cH K.2<|bX (bX y<|aE (cW _ _) G) D) λa2 C=>bO ?_;have a4:∀b,∃v,(bif b then AV.c (al+k:Nat)else .c<|-1)=.c v:=λb=>by induction b using Bool.casesOn<;>exact⟨_,V⟩
  have:=l ((hD s.1.1 (gN A<|al+k)<|bif !(s.1.1<|gN A<|al+k).isSome then AV.c (al+k:Nat)else .c<|-1,a2),Y<|.c (al+k:Nat)) ⟨λi hi=>?_,aE C<|c7 K.2⟩;·refine aP (Hp.av _ _ _ W)<|U (Hp.ak _ _ _ _) ?_;exact this
  ·by_cases e:i=k;·exact U e<|aO _ A4<|a4 _
   ·exact VX (a4 _)<|K.1 i<|nF (f6 hi) e
 refine pF (bB J J) (aE zb D) (λt:(IF×Nat)×Option AV=>tS mN al n bl m (Y<|.f p) (Y<|.f q) t.2 O) (λ_ t=>H.ds p q s.1 t.1) (λk t=>Bp B bl m t.1.1/\t.1.2<=k) ((λx=>oX x [],0),s.2) V V ⟨λx u h=>aS h,bN _⟩ (λk t y I X l=>?_) λt I=>?_
 ·refine wC (El (pn (fi (cL J (S _ _ _ _ a0) V) J<|Z y) J<|Hp.t _ _ _) (λ_=>J V) λ_=>gi aL) J (fi (cL J (S _ _ _ _ a0) V) J<|Z y) (Hp.t _ _ _) (cH I.2<|bX (bX y<|aE (cW _ _) zb) D) λa2 C=>bO ?_;have:=l ((hD t.1.1 (gN B<|bl+k)<|bif !(t.1.1<|gN B<|bl+k).isSome then AV.c (bl+k:Nat)else .c<|-1,a2),Y<|.c (bl+k:Nat)) ⟨λx u h=>(xg h).elim (λe=>?_)<|I.1 x u,aE C<|c7 I.2⟩;·exact U (Hp.ak _ _ _ _)<|this
  ·refine aP e.2 (U e.1 ?_);cases(!(t.1.1<|gN B<|bl+k).isSome)with
   |true=>exact .inr<|cq (bl+k) V ⟨bj _ _,dR y _⟩ V
   |false=>exact .inl V
 refine lD fN (cB _) λw F=>?_;refine pF (bB J J) (aE G D) (λr=>tS mN al n bl m (Y<|.f p) (Y<|.f q) r.2<|Y<|.f w) (λ_ r=>(H.ds p q s.1 t.1).ag w<|.b<|r.1.map gQ) (λk r=>(∀c∈r.1,LP A B al k bl m c)/\r.1.Pairwise (λa b=>a.1<b.1)/\r.1.length<=k) ([],t.2) V V (bW (λc h=>(dM h).elim) DI<|bN _) (λk r y d X l=>?_) λr d=>?_
 ·have up:∀c∈r.1,LP A B al (k+1) bl m c:=λc z=>⟨⟨(d.1 c z).1.1,lj (d.1 c z).1.2⟩,(d.1 c z).2⟩;have a3:∀{o:Option AV},ae ⟨aR prog N,tS mN al n bl m (Y<|.f p) (Y<|.f q) (Y<|.c (al+k:Nat))<|Y<|.f w,[],(H.ds p q s.1 t.1).ag w<|.b<|r.1.map gQ⟩ (.l (.g 2 0<|.d 0)<|.d 8)<|.c<|gN A<|al+k:=λ{o}=>fi (cL J ((λo=>Hp.ah F o) _ _ _<|S _ _ _ _ a0) V) J<|a1 y
  (refine xB (K.1 k y) λu hu v T=>?_;subst T)
  refine aH (I.1.o (c:=gN A<|al+k) V) λc z M=>?_;refine cg (d4 (i6 (mG J ((λo=>Hp.ah F o) _ _ _<|P _ _) (a3 (o:=O)) hu) J) λ_=>q9 (z▸(Eo (g:=⟨aR prog N,tS mN al n bl m (Y<|.f p) (Y<|.f q) (Y<|.c (al+k:Nat))<|Y<|.f w,[],(H.ds p q s.1 t.1).ag w<|.b<|r.1.map gQ⟩) (J (i:=7) V) ((λo=>Hp.ah F o) _ _ _<|Hp.t _ _ _) (a3 (o:=O))<|gi<|aL (v:=.c 1))) aL) (λht=>?_) λ_=>bT<|bO<|l (r.1,_)<|bW up d.2.1<|gY d.2.2;refine cw (M<|of_decide_eq_true (ef.mp ht).2) λj h1 h2 h3=>?_;refine pG gQ (al+k,j) J (cO<|bB J<|mG J ((λo=>Hp.ah F o) _ _ _<|Hp.t _ _ _) (a3 (o:=O)) h1) (cH d.2.2<|bX (bX y<|aE (cW _ _) G) D)<|bT<|bO<|l (r.1++[(al+k,j)],_)<|bW (λc z=>?_) ?_ ?_
  ·refine bq (fM.mp z) (λz=>?_) λz=>?_;·exact up c z
   ·cases dm.mp z;exact bW ⟨bj _ _,dR (ec _) _⟩ h2 h3
  ·refine sI.mpr (bW d.2.1 (Dq _ _) λa ha b hb=>?_);cases dm.mp hb;exact(d.1 a ha).1.2
  ·exact U bZ<|c7 d.2.2
 ·exact tC V (Hp.t _ _ _) ((S _ _).t<|(λo=>Hp.ah F o) _) (Hp.al (S _ _) F)<|hQ r.1 d.1 d.2.1<|aE d.2.2<|aE (cW _ _) G
end
section
variable {g:Gm}{F:cF}{m d:ba}{K:FK}{H:Hp}{r:List S}{x y z:X}{i j k l:Nat}{a b:Nat}{v w u:AV}{c:Int}{mu:Bool}
def wG{z α:Type}{b}{l}f(N:ae ⟨F,m,[],H⟩ x w)(T:cf H w=Y (l.map f))
  (L:z->ba) (g:List α->z->Hp) (I:List α->List α->z->Prop) s (C:m=L s) (D:H=g [] s) (M:I [] l s) (o:∀p q s,I p q s->cf (g p s) w=cf H w)
  (u:∀p c q s,l=p++c::q->I p (c::q) s->∀k,(∀P,I (p++[c]) q P->k .a (L P) (g (p++[c]) P))->(∀v m H,K (.c v) m H->k (.c v) m H)->(∀v m H,K (.b v) m H->k (.b v) m H)->aK F b (((L s).set i<|Y<|.c p.length).set j<|Y<|f c) k (g p s))
  (q:∀s,I l [] s->aK F r (L s) K (g l s)):aK F (.j [i,j] true .c [x] b::r) m K H:=by
 refine zU (λE Q q=>N E _ q) (by refine(?_:(cf H w).map _=_);refine U T ?_;rfl) L (λi=>g<|l.take i) (λi s=>I (l.take i) (l.drop i) s) s C D M (λi s=>o _ _ s) (λn v s a d S G=>?_) λs d=>?_
 ·have a:=gh▸(Mp▸(gh▸a));cases y:l[n]? with
  |none=>rw[y]at a;exact aS a
  |some c=>
   rw[y]at a;(have a:=bz a;subst a);have A:=(et.mp y).1;have e:l.drop n=c::l.drop (n+1):=U (oY A)<|U (et.mp y).2 V;rw[e]at d;have B:l.take (n+1)=l.take n++[c]:=by refine U vv<|U y ?_;rfl
   have t:=u _ c _ s (aP e<|U (oV _ _) V) d (WK S<|e9 (λR k=>aK F r R k) K) (λP h=>B▸G P (by exact U B<|h)) (λ_ _ _ h=>h) λ_ _ _ h=>h;rw[nK,fB<|cI A]at t;exact U (cy _)<|t
 ·have d:=d;rw[bx,Mi,bx,il,vM]at d;refine U (bx _)<|U Mi<|U (bx _)<|U il ?_;exact q s d
def Ox(h:ae g x<|.c a):ae g (.j .c mu x<|.e<|.c 2)<|.c (a/2:Nat):=zt h aL ⟨by decide,by decide⟩
def q8{α:Type}f{l:List α}{n:Nat}{t}(h:ae g x<|.f a)(b:g.H a=Y (.b<|l.map f))(k:ae g y<|.c n)(e:l[n]? =Y t):ae g (.l x y)<|f t:=v9 h (dT b) k<|by refine U gh<|U e ?_;rfl
def pq{α:Type}f{l:List α}{n:Nat}{t}(h:ae g x<|.g<|l.map f)(k:ae g y<|.c n)(e:l[n]? =Y t):ae g (.l x y)<|f t:=v9 h V k<|by refine U gh<|U e ?_;rfl
def Fs(q:∀a b,H a=O->H b=O->a≠b->aK F r ((m.set i<|Y<|.f a).set j<|Y<|.f b) K ((H.ag a<|.b []).ag b<|.b [])):aK F (.d (.d [i,j]) (.q [.m true [],.m true []])::r) m K H:=
 ⟨cB _,λa c=>⟨cB _,λb h=>by
  have n:a≠b:=λe=>by rw[e,Hp.t]at h;exact aS<|cc h
  exact q a b c ((Hp.I _ _ n.symm).symm.trans h) n⟩⟩
end
noncomputable def ni(n:Nat):AV:=.c n
noncomputable def jC(W:List<|Nat×Nat)(i:Nat):Nat:=(W.getD i (0,0)).2
noncomputable def rM(W:List<|Nat×Nat)(i:Nat):Nat:=(W.getD i (0,0)).1
def tH{i}(h:i<W.length):W[i]? =Y (rM W i,jC W i):=jM h
noncomputable def Hp.tl(H:Hp)(a b:Nat)(P:List Nat)(X:List Int):Hp:=(H.ag a<|.b<|P.map ni).ag b<|.b<|X.map .c
noncomputable def yb(W:List<|Nat×Nat)(X:List Int):Prop:=∀i(v:Int),X[i]? =Y v->v=-1\/∃j:Nat,v=j/\j<i/\jC W j<jC W i
noncomputable def CG(W p:List<|Nat×Nat)(s:List Nat×List Int):Prop:=s.2.length=p.length/\(∀i∈s.1,i<p.length)/\s.1.length<=p.length/\yb W s.2
section
variable {W p c:List<|Nat×Nat}{H:Hp}{a b w N:Nat}{P:List Nat}{X:List Int}{F:cF}{E Q:VK}
def EA(n:a≠b):(H.tl a b P X).ag a (.b<|P'.map ni)=H.tl a b P' X:=by exact aP (Hp.av _ _ _ n)<|U (Hp.ak _ _ _ _) V
def pD(n:a≠b):H.tl a b P X a=Y (.b<|P.map ni):=(Hp.I _ _ n).trans<|Hp.t _ _ _
noncomputable def ku(W:List<|Nat×Nat)(a b:Nat)(f g c e d o:Option AV):ba:=[Y<|.g<|W.map gQ,Y<|.f a,Y<|.f b,f,g,c,e,d,o]
def UO(h:0<r):∃u v,l+u=(l+(l+r))/2/\(l+r+l)/2+1+v=l+r/\u<r/\v<r:=eX (r/2) (r-r/2-1) (jR (r) 2 (by decide) λg j=>jR (l+(l+r)) 2 (by decide) λk f=>cN<|fZ (λz=>aJ [_,_,_,_] [] [.l 1 (.c<|.a bo aX)<|.c<|.a (.m 2 bA)<|.n 2,.l 1 (.c<|.m 2 bK)<|.c<|.a aZ<|.a aZ bo,.l 2 (.a (.c<|.a aZ bA) aM) cM] V j k z) λz=>aJ [_,_,_,_] [] [.l 1 (.c<|.m 2 bA) af,.l 1 (.c<|.a (.a aZ<|.a aZ bo) aX)<|.c<|.a (.m 2 bK)<|.n 2,.l 2 (.a cM aM)<|.c<|.a aZ bA] V g f z) (jR (l+r+l) 2 (by decide) λg j=>i7 _ (1) (λk f=>i7 (r) _ (λp d=>jR (r) 2 (by decide) λi o=>cN<|fZ (λz=>aJ [_,_,_,_,_,_] [] [.l 1 (.c<|.a (.a (.a bK bo) bK) aX)<|.c<|.a (.m 2 aZ)<|.n 2,.e (-2) (.c<|.a bA<|.n 1) dA,.e (-2) (.c<|.a cX dy) af,.l 1 (.c<|.m 2 dy) af,.l 2 (.a (.c<|.a (.a aZ<|.n 1) bA) aM)<|.c<|.a bK bo] V j f d i z) λz=>aJ [_,_,_,_,_,_] [] [.l 1 (.c<|.m 2 aZ)<|.c<|.a (.a bK bo) bK,.e 2 (.c<|.a bA<|.n 1) dA,.e 2 (.c<|.a cX dy) af,.l 1 (.c<|.a bo aX)<|.c<|.a (.m 2 dy)<|.n 2,.l 2 (.a (.c<|.a bK bo) aM)<|.c<|.a (.a aZ<|.n 1) bA] V g f d o z) λp d=>jR (r) 2 (by decide) λi o=>(aJ [_] [] [.l 1 (.c<|.n 1) af,.e 1 af bJ] V k d).elim) λk f=>i7 (r) (r/2) (λp d=>jR (r) 2 (by decide) λi o=>cN<|fZ (λz=>aJ [_,_,_,_,_,_] [] [.l 1 (.c<|.a (.a (.a bK bo) bK) aX)<|.c<|.a (.m 2 aZ)<|.n 2,.l 2 dA<|.c<|.n 1,.e (-2) (.c<|.a cX dy) af,.l 1 (.c<|.m 2 dy) af,.l 2 (.a (.c<|.a (.a aZ<|.n 1) bA) aM)<|.c<|.a bK bo] V j k d i z) λz=>aJ [_,_,_,_] [] [.l 1 (.c<|.a (.n 0) aX) af,.l 1 (.c<|.m 2 aZ)<|.c<|.a (.a bK bo) bK,.e 2 bf bJ,.l 2 (.a (.c<|.a bK bo) aM)<|.c<|.a (.a aZ<|.n 1) bA] V (nl h) g f z) λp d=>jR (r) 2 (by decide) λi o=>(aJ [_,_] [] [.l 1 (.c<|.a (.n 0) aX) af,.l 2 af aG,.l 1 (.c<|.m 2 aZ) af] V (nl h) p i).elim) (b8 λz=>jR (r) 2 (by decide) λg j=>aJ [_,_] [] [.l 1 (.c<|.a (.n 0) aX) af,.l 2 (.c<|.a bo aX)<|.c<|.a aZ aX,.l 1 (.c<|.m 2 aZ) af] V (nl h) z g)<|b8 λz=>aJ [_,_,_] [] [.l 1 (.c<|.a bo aX)<|.c<|.a aZ aX,.e 1 (.c<|.a aZ<|.n 1) bf,.l 1 bf af] V z (nE<|cb<|b8 λq=>aJ [_,_,_] [] [.l 1 (.c<|.a (.n 0) aX) af,.l 1 (.c<|.a bo aX)<|.c<|.a aZ aX,.l 1 aG bf,.l 1 (.c<|.a bA aX)<|.c<|.n 1] V (nl h) z (nl<|eE _<|1) q)<|nl<|eE (r) _
noncomputable def KY(W:List<|Nat×Nat)(P:List Nat)(y:Nat)(r:Nat)(s:Nat×Nat×Option AV):Prop:=s.1+r=s.2.1/\s.2.1<=P.length/\(s.1=0\/∃j,P[s.1-1]? =Y j/\jC W j<y)
def RW(ne:a≠b)(hp:∀i∈P,i<W.length)(h:KY W P y r s):
  gd F Hs HR (λs=>ku W a b o3 (Y<|gQ (x,y)) (Y<|.c s.1) (Y<|.c s.2.1) s.2.2 o8) (λ_=>H.tl a b P X) (KY W P y) (λs=>s.1<=P.length/\(s.1=0\/∃j,P[s.1-1]? =Y j/\jC W j<y)) r s:=by
 refine(cq _ (e6 J J) (λhc K hK=>?_) λ_=>⟨aE (h.1▸bj _ _) h.2.1,h.2.2⟩);refine eh (UO (l:=s.1)<|qG<|h.1▸(of_decide_eq_true hc)) λu v e1 e2 e3 e4=>?_;rw[fh<|s.1+r]at e2;rw[h.1]at e1 e2;have lm:=bX (bX (ec _)<|bj _ v)<|aE (bb e2) h.2.1;have hj:=hU lm;exact cv (Ox<|eI J J)<|cg (e6 (qV (l:=[.c<|rM W<|P[(s.1+s.2.1)/2]'lm,.c<|jC W<|P[(s.1+s.2.1)/2]'lm]) (pq gQ J (q8 ni J (pD ne) J hj)<|tH<|hp _<|vF lm) aL V)<|qV (l:=[.c x,.c y]) J aL V) (λht=>cv (eI J aL)<|bT<|bO<|hK v ((s.1+s.2.1)/2+1,s.2.1,Y _) e4<|bW e2 h.2.1<|.inr<|aO _ hj<|of_decide_eq_true ht) λ_=>cv (J V)<|bT<|bO<|hK u (s.1,(s.1+s.2.1)/2,Y _) e3<|bW e1 (cI lm) h.2.2
def RY{c}{z G y w}(o:a≠b)(S:W.length<=60)(e:W=p++c::q)(h:CG W p (P,X))
  (a0:∀Z a3 a2 z G y,CG W (p++[c]) Z->K .a (ku W a b a3 a2 z G y w) (H.tl a b Z.1 Z.2)):
  aK F HS (ku W a b (Y<|.c p.length) (Y<|gQ c) z G y w) K (H.tl a b P X):=by
 have R:p.length<W.length:=by refine U e<|U bZ ?_;exact i0<|fU _
 have I:p.length<sz:=bX (bX R S)<|by decide
 have N:∀{m}{X},m[1]? =Y _->ae ⟨F,m,[],H.tl a b P X⟩ _ _:=λ{m X}e=>by have:=lx (g:=⟨F,m,[],H.tl a b P X⟩) (J e)<|dT<|pD o;rwa[bx]at this
 refine jD (cO<|bB aL<|N V)<|fP (λs:Nat×Nat×Option AV=>ku W a b _ _ _ _ s.2.2 w) (λ_=>_) _ _ (λr s h'=>RW o (λi d=>gg (h.2.1 i d) R) h') P.length (0,P.length,y) (bW (cy _) (bN _)<|.inl V) λs t=>?_;have:∃v,ae ⟨F,ku W a b (Y<|.c p.length) (Y<|gQ (c.1,c.2)) (Y<|.c s.1) (Y<|.c s.2.1) s.2.2 w,[],H.tl a b P X⟩ (.D (.h .f (.d 5)<|.e<|.c 0) (.l (.d 1)<|.j .b false (.d 5)<|.e<|.c 1)<|.y<|.e<|.c 1) (.c v)/\(v=-1\/∃j:Nat,v=j/\j<p.length/\jC W j<jC W p.length):=by
  have E:ae ⟨F,ku W a b (Y<|.c p.length) (Y<|gQ (c.1,c.2)) (Y<|.c s.1) (Y<|.c s.2.1) s.2.2 w,[],H.tl a b P X⟩ (.h .f (.d 5)<|.e<|.c 0)<|.e<|decide (0<s.1):=hV (b:=0) J aL;refine bq t.2 (λt=>?_) λA=>aH A λj L t=>?_;·exact aO (-1) (gM E (λk=>absurd (of_decide_eq_true k)<|U t<|dk _) λ_=>gi aL)<|.inl V
  ·by_cases B:0<s.1;·exact aO j (gM E (λ_=>q8 ni J (pD o) (ip J B) L) λk=>absurd B<|of_decide_eq_false k)<|.inr<|cq j V (h.2.1 j<|mm L)<|by refine U (by unfold jC;refine U e<|U j9<|U (nL<|bN _)<|U (nB _) ?_;rfl:jC W p.length=c.2) ?_;exact t
   ·exact aO (-1) (gM E (λk=>absurd (of_decide_eq_true k) B) λ_=>gi aL)<|.inl V
 refine aH this λv T D=>?_;refine pG AV.c v J T (cH (bb h.1) I) ?_;have Q:yb W<|X++[v]:=λi u n=>by
  refine bq (hO i X.length) (λl=>?_) λl=>?_;·rw[jx l]at n;exact h.2.2.2 i u n
  ·have n:=nL l▸n;have:=(et.mp n).1;have M:=yv.mp this;rw[M]at n;(have n:=bz n;subst n);refine U (dB (qI M) l)<|U h.1 ?_;exact D
 have a1:(X++[v]).length=(p++[c]).length:=by refine U bZ<|U bZ<|U h.1 ?_;rfl
 have x:p.length<(p++[c]).length:=by exact U bZ<|ec _
 refine(?_:aK F _ _ K<|H.tl a b P<|X++[v]);refine cg (gu J<|N V) (λ_=>?_) λC=>?_
 ·refine nV J J (pD o) (U (bx _)<|cH h.2.2.1 I) (bT<|bO ?_);refine U (show P.map ni++[AV.c p.length]=(P++[p.length]).map ni by refine U cz ?_;rfl)<|U (EA o) ?_;exact a0 (P++[p.length],X++[v]) _ _ _ _ _<|e8 a1 (λi d=>(fM.mp d).elim (λd=>gg (h.2.1 i d) x) λd=>by cases dm.mp d;exact x) (by refine U bZ<|U bZ ?_;exact c7 h.2.2.1) Q
 ·refine zS J J J (pD o) (U (bx _)<|nF t.1<|of_decide_eq_false C) (bT<|bO ?_);refine U ((yD (f:=ni)).symm)<|U (EA o) ?_;exact a0 (P.set s.1 p.length,X++[v]) _ _ _ _ _<|e8 a1 (λi d=>(List.mem_or_eq_of_mem_set d).elim (λd=>gg (h.2.1 i d) x) λd=>d▸x) (U mn<|aE h.2.2.1<|cI x) Q
end
def Rd{F}(b:ae ⟨F,m,[],H⟩ y<|.f a)(h:H a=Y (.b l))(q:aK F r m K<|H.ag a<|.b l.reverse):aK F (.e (.r .e [y])::r) m K H:=
 b _ _ ⟨gc a _ V h,bQ a _ V h q⟩
noncomputable def CE(X:List<|Nat×Nat):Prop:=X.Pairwise λa b=>a.1<b.1/\a.2<b.2
structure qm(W X:List<|Nat×Nat)(k:Nat)(v:Int):Prop where
 a:∀f∈X,f∈W
 b:CE X.reverse
 c:v=-1\/∃j:Nat,v=j/\j<k/\j<W.length/\∀f∈X,rM W j<f.1/\jC W j<f.2
 l:X.length+k<=W.length
section
variable {W p c X:List<|Nat×Nat}{H:Hp}{a b w N k:Nat}{P:List Nat}{l:List Int}{F:cF}{E Q:VK}{v:Int}
theorem qm.n{j:Nat}(h:qm W X k j)(x:W.Pairwise λa b=>a.1<b.1)(y:yb W l)(w:l[j]? =Y v):j<W.length/\j<k/\qm W (X++[(rM W j,jC W j)]) j v:=by
 refine bq h.c (λe=>?_) λz=>kC z λi e t g p=>?_;·exact absurd e λA=>aJ [_] [] [.e 1 af<|.n<|-1] V e
 ·cases i4.mp e;refine⟨g,t,λf d=>(fM.mp d).elim (h.a f) λd=>?_,?_,?_,?_⟩;·cases dm.mp d;exact mm<|tH g
  ·exact U Dm<|adp (λf d=>p f<|sJ.mp d) h.b
  ·refine bq (y j v w) (λe=>?_) λz=>cw z λi e m q=>?_;·exact .inl e
   ·refine .inr (jH i e m (gg m g) λf d=>?_);have u:rM W i<rM W j:=by
     have o:=gg m g;have:=List.pairwise_iff_getElem.mp x i j o g m;have s:=hU o;have r:=hU g;rw[tH o]at s;rw[tH g]at r;rw[<-bz s,<-bz r]at this;exact this
    refine bq (fM.mp d) (λd=>?_) λd=>?_;·exact⟨gg u (p f d).1,gg q (p f d).2⟩
    ·cases dm.mp d;exact⟨u,q⟩
  ·refine U bZ<|aE (by refine U (bY _ _ _)<|U (fh _ j) ?_;exact ff t _) h.l
def RT(f:W.Pairwise λa b=>a.1<b.1)(o:H.tl a b P l w=O)(m:yb W l)(x:l.length=W.length)(p:W.length<=60)s(h:qm W s.1 k s.2):
  gd F Hr HQ (λs:List (Nat×Nat)×Int=>ku W a b (Y<|.c s.2) o4 o5 o6 o7<|Y<|.f w) (λs=>(H.tl a b P l).ag w<|.b<|s.1.map gQ) (λk s=>qm W s.1 k s.2) (λs=>∃k,qm W s.1 k s.2) k s:=by
 refine(cq _ (q9 J aL) (λq K r=>?_) λ_=>⟨k,h⟩);obtain⟨X,v⟩:=s
 (refine aF (yS<|of_decide_eq_true q) λj g=>?_;subst g)
 have u:j<l.length:=by
  refine bq h.c (λe=>?_) λz=>kC z λi e _ y _=>?_;·exact absurd e<|by exact λt=>aJ [_] [] [.e 1 af<|.n<|-1] V t
  ·refine U x<|U (i4.mp e) ?_;exact y
 have d:=hU u;exact pG gQ _ J (pq gQ J J<|tH (h.n f m d).1) (cH (aE (bj _ _)<|aE h.l p)<|by decide)<|cv (q8 AV.c J ((Hp.I _ _<|Hp.ne (Hp.t _ _ _) o).trans<|Hp.t _ _ _) J d)<|bO<|r j (_,_) (h.n f m d).2.1 (h.n f m d).2.2
def RS(Z:W.Pairwise λa b=>a.1<b.1)(B:W.length<=60)(q:∀X,(∀f∈X,f∈W)->CE X->Q (.g<|X.map gQ) H):aR prog (N+1) 16 [.g<|W.map gQ] Q E H:=by
 refine ct (m:=[Y _,O,O,O,O,O,O,O,O]) V V<|Fs λa b R M o=>?_;refine wG gQ J V (λs=>ku W a b s.2.1 s.2.2.1 s.2.2.2.1 s.2.2.2.2.1 s.2.2.2.2.2 O) (λ_ s=>H.tl a b s.1.1 s.1.2) (λp _ s=>CG W p s.1) (([],[]),O,O,O,O,O) V V (e8 V (λ_ h=>(dM h).elim) (bN _) λi v h=>by rw[Dy]at h;exact aS h) (λ_ _ _ _=>V)
  (λp c r s e d T n _ _=>RY o B e d λl F I a0 K G h=>n (l,F,I,a0,K,G) h) λs d=>lD fN (cB _) λw g=>?_
 have A:ae ⟨aR prog N,ku W a b s.2.1 s.2.2.1 s.2.2.2.1 s.2.2.2.2.1 s.2.2.2.2.2<|Y<|.f w,[],(H.tl a b s.1.1 s.1.2).ag w<|.b []⟩ (.d 1) _:=J V;have x:((H.tl a b s.1.1 s.1.2).ag w<|.b []) a=Y (.b _):=(Hp.I _ _<|Hp.ne (pD o) g).trans<|pD o;have:∃v,ae ⟨aR prog N,ku W a b s.2.1 s.2.2.1 s.2.2.2.1 s.2.2.2.2.1 s.2.2.2.2.2<|Y<|.f w,[],(H.tl a b s.1.1 s.1.2).ag w<|.b []⟩ (.D (.h .c (.d 1)<|.m false []) (.l (.d 1)<|.y<|.e<|.c 1)<|.y<|.e<|.c 1) (.c v)/\qm W [] W.length v:=by
  have u:=iJ A<|dT x;cases C:s.1.1.getLast? with
  |none=>exact⟨-1,gM u (λk=>by rw[Mn.mp C]at k;exact aV k) λ_=>gi aL,λ_ h=>(dM h).elim,DI,.inl V,bb<|cy _⟩
  |some j=>
   refine aF (Dw.mp C) λP e=>?_;have y:=d.2.1 j<|e▸gI _ (dm.mpr V);refine⟨j,gM u (λ_=>td A ((dT x).trans<|by refine U e<|U cz ?_;rfl)<|gi aL) λk=>?_,λ_ h=>(dM h).elim,DI,.inr<|jH j V y y λ_ h=>(dM h).elim,bb<|cy _⟩;rw[e,cz,show[j].map ni=[ni j]from V,xY]at k;exact aV k
 refine aH this λv L S=>?_;refine cv L<|fP (λt:List _×Int=>ku W a b _ s.2.2.1 s.2.2.2.1 s.2.2.2.2.1 s.2.2.2.2.2 _) (λt=>(H.tl a b s.1.1 s.1.2).ag w _) _ _ (λk t h=>RT Z g d.2.2.2 d.1 B t h) W.length ([],v) S λt h=>Rd J (Hp.t _ _ _) ?_;have z:H.aq<|H.tl a b s.1.1 s.1.2:=Hp.aj (Hp.ah R _) M _;refine U (Hp.ak _ _ _ _)<|aP sL ?_;exact h.elim λk h=>tC V (Hp.t _ _ _) (z.t<|Hp.ah g _) (Hp.al z g)<|q _ (λf D=>h.a f<|sJ.mp D) h.b
end
def dp(h:ae g x v)(e:v=w):ae g x w:=e▸h
noncomputable def w2(p:Pt):Nat:=2*(p.2.1+p.2.2.2)+1
noncomputable def jy(S:List Pt):Nat:=(S.map w2).sum
def ZT{F}(h:den F E m mc x (λv=>F fn [v] Q E) H):den F E m mc (.p fn [x]) Q H:=h
def AJ{S}:S.length<=jy S:=by
 induction S with
 |nil=>exact bN _
 |cons p S i=>refine(?_:S.length+1<=w2 _+jy S);exact U (fh S.length 1)<|ed (cW _ _) i
def y9{R}(h:n'<=n/\m'<=m):w2 (al',n',bl',m')<=w2 (al,n,R,m):=c7<|j5 2<|ed h.1 h.2
def Oa{a g h f d e b c al R}:w2 (g,e,f,c)+w2 (a,d,h,b)+1<=w2 (al,d+1+e,R,b+1+c):=by refine(?_:2*(e+c)+1+(2*(d+b)+1)+1<=2*(d+1+e+(b+1+c))+1);exact aW [_,_,_,_] (.a (.a (.a (.m 2<|.a (.v 0)<|.v 1)<|.n 1)<|.a (.m 2<|.a (.v 2)<|.v 3)<|.n 1)<|.n 1) (.a (.m 2<|.a (.a (.a (.v 2)<|.n 1)<|.v 0)<|.a (.a (.v 3)<|.n 1)<|.v 1)<|.n 1) [] V
structure ng(A B:List Int)(G C:List Bool)(k:Nat)(S:List Pt)(M:List Bool×List Bool):Prop where
 a:Mk A B G C M.1 M.2 S
 b:jy S=k
 c:k<=200
section
variable {A B:List Int}{G C:List Bool}{r T g c w N:Nat}{H:Hp}{E Q:VK}{W S:List Pt}{al n R m x y D:Nat}{M:List Bool×List Bool}
def ng.d(h:ng A B G C D ((al,n,R,m)::S) M):S.length+2<sz/\jy S<D:=
 ⟨cH (hS (aE AJ<|aE (cW _ _)<|aE (bb h.b) h.c) 2)<|by decide,h.b▸yx (fU _)⟩
noncomputable def InP(al n R m:Nat)(q:List<|Nat×Nat):Prop:=∀c∈q,(al<=c.1/\c.1<al+n)/\(R<=c.2/\c.2<R+m)
noncomputable def wU(r a n b m w:Nat)(d f g c o e h:Option AV):ba:=[Y<|.f r,Y<|pv a n b m,Y<|.f w,d,f,g,c,o,e,h]
structure x6(A B:List Int)(G' C':List Bool)(S:List Pt)(ah bh D:Nat)(p q:List<|Nat×Nat)(al n R m:Nat)(S':List Pt):Prop where
 e:al+n=ah/\R+m=bh
 a:AI (gN A) (gN B) (gB G') (gB C') A.length B.length ((al,n,R,m)::S')
 i:InP al n R m q
 w:jy ((al,n,R,m)::S')+p.length<=D
def x6.s(h:x6 A B G' C' S ah bh D p (z::q) al n R m S')(y:CE<|z::q)(C:gN A z.1=gN B z.2):
  ∃j k f g,(z.1=al+j/\z.2=R+f)/\x6 A B G' C' S ah bh D (p++[z]) q (z.1+1) k (z.2+1) g ((al,j,R,f)::S'):=by
 have r:=h.i z (gZ ..);refine aF (ik r.1.1) λj d=>?_;refine aF (ik r.2.1) λf b=>?_;refine aF (vm<|oS<|d▸r.1.2) λk o=>?_;refine aF (vm<|oS<|b▸r.2.2) λg l=>?_;rw[cG]at o l;have v:z.1+1+k=al+n:=U d<|U o<|U (bY al _ _)<|U (bY al _ _) V;have u:z.2+1+g=R+m:=U b<|U l<|U (bY R _ _)<|U (bY R _ _) V;refine⟨j,k,f,g,⟨d,b⟩,⟨v.trans h.e.1,u.trans h.e.2⟩,?_,λc t=>?_,?_⟩
 ·refine U d (U b ?_);have:=h.a;rw[o,l]at this;exact AI.D this λi x=>by rw[yv.mp x,mh,mh,<-d,<-b];exact C
 ·have:=(List.pairwise_cons.mp y).1 c t;exact bW ⟨this.1,v▸(h.i c<|lq _ t).1.2⟩ this.2<|u▸(h.i c<|lq _ t).2.2
 ·have:=h.w;refine aE ?_ this;refine(?_:w2 _+(w2 _+jy S')+(p++[z]).length<=w2 _+jy S'+p.length);rw[bZ,<-bY,<-bY,cG _ p.length,cG _<|jy S'];exact hS (hS (by refine U o<|U l ?_;exact Oa) _) _
def SI(hs:Sh H r T A B g c G C)(hw:H w=O)(hz:A.length+B.length<=60)(h:ng A B G C D ((al,n,R,m)::S) M)
  (hK:∀k' S' M' o3 o4 o5 o6 o7 o8 o9,k'<D->ng A B G C k' S' M'->K .a (wU r m9 n0 mY m0 w o3 o4 o5 o6 o7 o8 o9) (fD (H.au g c M'.1 M'.2) w S')):
  aK (aR prog<|N+3) AL (wU r m9 n0 mY m0 w o3 o4 o5 o6 o7 o8 o9) K (fD (H.au g c M.1 M.2) w<|(al,n,R,m)::S):=by
 have d7:=hs.q h.a.l.1 h.a.l.2;have fX:=rq (G':=M.1) (C':=M.2) hs hw;have bd:=h.a.a.t;have f:=h.d;have la:∀{a n b m},a+n<=A.length/\b+m<=B.length->n<=A.length/\m<=B.length:=λh=>⟨aE (cW _ _) h.1,aE (cW _ _) h.2⟩;refine zR λE Q hQ=>BS J (dY (d7.p fX).s) J zI ?_;refine U zH ?_;refine zA (d7.p fX).s bd.1 bd.2 λk n' m' j t=>hQ _ _ _ _ _ ?_;have ai:=t.p h.a.a;have ms:∀G' C',(fD (H.au g c M.1 M.2) w S).au g c G' C'=fD _ w S:=λG' C'=>by exact U (Am (Hp.ne d7.t fX).symm (Hp.ne d7.D fX).symm)<|U (Hp.ay _ hs.n) V
 have tT:=cI<|bX f.2 h.c;refine cg (gL (gu J J) λ_=>gu J J) (λ_=>?_) λhc=>?_
 ·refine kg λE=>eZ J (dY (d7.p fX).s) (cJ<|cO<|bt J<|bt J<|bt J<|cJ J) (w9 (d7.p fX) (d7.l.1▸ai.t.1) (d7.l.2▸ai.t.2)<|bT<|bO ?_);refine U (ms _ _) ?_;exact hK _ S (mk M.1 _ n',mk M.2 _ m') _ _ _ _ _ _ _ f.2 ⟨⟨⟨jd.trans h.a.l.1,jd.trans h.a.l.2⟩,ai.mk (d7.l.1▸ai.t.1)<|d7.l.2▸ai.t.2⟩,V,tT⟩
 ·refine fQ λE=>ZT (eZ J (dY (d7.p fX).s) (cJ<|cO<|bt J<|bt J<|bt J<|cJ J)<|Vb (d7.p fX).s ai.t.1 ai.t.2 ⟨aE (bj _ _) hz,aE (cW _ _) hz⟩ λps h1 h2 h3=>RS h2 h3 λfs g1 g2=>?_);refine cg (ti J V) (λ_=>?_) λhe=>?_
  ·refine kg λE=>eZ J (dY (d7.p fX).s) (cJ<|cO<|bt J<|bt J<|bt J<|cJ J) (Ay (d7.p fX) hz ai λG' C' mk=>bT<|bT<|bO ?_);refine U (ms _ _) ?_;exact hK _ S (G',C') _ _ _ _ _ _ _ f.2 ⟨⟨⟨mk.l.1.trans h.a.l.1,mk.l.2.trans h.a.l.2⟩,mk.a⟩,V,tT⟩
  ·refine mO gQ J V (λs:(Nat×Nat×Nat×Nat)×List Pt×Option AV×Option AV=>wU r m9 n0 mY m0 w (Y<|.c s.1.1) (Y _) (Y<|.c s.1.2.2.1) (Y _) _ s.2.2.1 s.2.2.2) (λ_ s=>fD _ w s.2.1)
    (λp q s=>x6 A B M.1 M.2 S (al+k+n') (R+k+m') (jy<|(al+k,n',R+k,m')::S) p q s.1.1 s.1.2.1 s.1.2.2.1 s.1.2.2.2 s.2.1) ((al+k,n',R+k,m'),S,o8,o9) V V ⟨⟨V,V⟩,ai,λc hc=>⟨(h1 c<|g1 c hc).1,(h1 c<|g1 c hc).2.1⟩,bN _⟩ (λ_ _ _ _=>V) (λp z q s e hI K' W2=>?_) λs hI=>?_
   ·exact rO (hI.s ((sI.mp<|e▸g2).2.1)<|(h1 z<|g1 z<|e▸gI _ (gZ ..)).2.2) λn1 n2 m1 m2 e1 st=>rn (P:=(s.1.1,n1,s.1.2.2.1,m1)) J (cO<|bt J<|bt (dp (J V)<|U e1.1 V)<|bt J<|cJ<|dp (J V)<|U e1.2 V) (cH (aE AJ<|aE (cW _ _)<|aE (bj _ _)<|aE hI.w<|aE (hS (y9 t.o) _)<|aE (bb h.b) h.c)<|by decide)
     (jD (cO<|bB (eI J aL)<|eI J aL)<|bO<|W2 ((z.1+1,n2,z.2+1,m2),(s.1.1,n1,s.1.2.2.1,m1)::s.2.1,_,_) st)
   ·have hl:0<fs.length:=by induction fs using List.casesOn with
     |nil=>exact aV he
     |cons _ _=>exact fU _
    have lt:jy (s.1::s.2.1)<D:=bX (bX (i0 hl) hI.w)<|aE (hS (y9 t.o) _)<|bb h.b;exact rn (P:=s.1) J (cO<|bt J<|bt (dp (J V)<|aP hI.e.1 V)<|bt J<|cJ<|dp (J V)<|aP hI.e.2 V) (cH (aE AJ<|aE (cW _ _)<|aE (cI lt) h.c)<|by decide)
     (bT<|bT<|bO<|hK _ (s.1::s.2.1) M _ _ _ _ _ _ _ lt ⟨⟨h.a.l,hI.a⟩,V,aE (cI lt) h.c⟩)
def U1(d:Sh H r T A B g c G C)(i:A.length+B.length<=60)(h:AI (gN A) (gN B) (gB G) (gB C) A.length B.length [(al,n,R,m)])(q:∀W a,Mk A B G C W a []->Q .k (H.au g c W a)):
  aR prog (N+4) 11 [.f r,pv al n R m] Q E H:=by
 refine ct (m:=[Y _,Y _,O,O,O,O,O,O,O,O]) V V<|lD (cJ J) (by refine(?_:1<=sz);decide) λw f=>?_;have e:H.au g c G C=H:=by unfold Hp.au;exact U (Hp.ao _ d.t)<|U (Hp.ao _ d.D) V
 have:=fP (F:=aR prog<|N+3) (c:=Hl) (b:=AL) (K:=e7 Q E) (λs:List Pt×(List Bool×List Bool)×Option AV×Option AV×Option AV×Option AV×Option AV×Option AV×Option AV=>wU r al n R m w s.2.2.1 s.2.2.2.1 s.2.2.2.2.1 s.2.2.2.2.2.1 s.2.2.2.2.2.2.1 s.2.2.2.2.2.2.2.1 s.2.2.2.2.2.2.2.2)
  (λs=>fD _ w s.1) (λk s=>ng A B G C k s.1 s.2.1) (λs=>Mk A B G C s.2.1.1 s.2.1.2 []) (λk s h=>?_) _
  ([(al,n,R,m)],(G,C),O,O,O,O,O,O,O) ⟨⟨⟨V,V⟩,h⟩,V,?_⟩ λs h=>bO<|iP (Hp.ah (rq d f) _)<|q _ _ h
 ·exact aP e<|this
 ·refine(aO _ (iJ J<|dT<|Hp.t _ _ _) ?_);obtain⟨S,M,o⟩:=s;induction S using List.casesOn with
  |nil=>exact⟨λh=>aV h,λ_=>h.a⟩
  |cons P S=>exact⟨λ_ K p=>SI d f i h λu l L D X x z j t y v I=>p u (l,L,D,X,x,z,j,t,y) v I,λe=>by rw[oW,cz,show[P].map kj=[kj P]from V,xY]at e;exact aV e⟩
 ·exact aE (c7<|j5 2<|aE (ed (aE (cW _ _) h.t.1)<|aE (cW _ _) h.t.2) i)<|by decide
end
structure PL(A:List Int)(K:Nat)(H H':Hp)(d:Nat)(f:IF)(N k:Nat):Prop where
 s:H.aq H'
 Q:H' d=Y (.c f N)
 n:N<=k
 r:∀x u,f x=Y u->∃a r,(u=.f a/\H a=O/\a≠d)/\H' a=Y (.b<|vB ni r)/\(∀i∈r,(K<=i/\i<K+k)/\gN A i=x)/\r.length<=k
 i:∀x y u,f x=Y u->f y=Y u->x=y
 c:∀i,i<k->∃u,f (gN A<|K+i)=Y u
section
variable {A B:List Int}{K n L m:Nat}{H H':Hp}{d N k a b:Nat}{f:IF}{r:List Nat}
def PL.up(h:PL A K H H' d f N k)(l:H d=O)(j:H' a=O):PL A K H (H'.ag a<|.b []) d f N k:=
 ⟨h.s.t<|Hp.ah j _,(Hp.I _ _<|Hp.ne h.Q j).trans h.Q,h.n,λx u e=>(h.r x u e).imp λb g=>g.imp λr g=>bW g.1 ((Hp.I _ _<|Hp.ne g.2.1 j).trans g.2.1) g.2.2,h.i,h.c⟩
def zv(h:(∀i∈r,(K<=i/\i<K+k)/\gN A i=x)/\r.length<=k):(∀i∈r,(K<=i/\i<K+(k+1))/\gN A i=x)/\r.length<=k+1:=⟨λi a=>⟨⟨(h.1 i a).1.1,lj (h.1 i a).1.2⟩,(h.1 i a).2⟩,gY h.2⟩
def EW(h:(∀i∈r,(K<=i/\i<K+k)/\gN A i=gN A (K+k))/\r.length<=k):(∀i∈r++[K+k],(K<=i/\i<K+(k+1))/\gN A i=gN A (K+k))/\(r++[K+k]).length<=k+1:=
 ⟨λi a=>(fM.mp a).elim ((zv h).1 i) λa=>by cases dm.mp a;exact⟨⟨bj _ _,ec _⟩,V⟩,by exact U bZ<|c7 h.2⟩
theorem PL.aj(h:PL A K H H' d f N k)(e:f (gN A<|K+k)=Y (.f a))(j:H a=O)(l:a≠d)(p:(∀i∈r,(K<=i/\i<K+k)/\gN A i=gN A (K+k))/\r.length<=k):PL A K H (H'.ag a<|.b<|vB ni<|r++[K+k]) d f N (k+1)where
 s:=Hp.aj h.s j _
 Q:=(Hp.I _ _ l.symm).trans h.Q
 n:=gY h.n
 r x u g:=by
  by_cases q:x=gN A (K+k)
  ·rw[q,e]at g;(have g:=bz g;subst g);exact bQ a _ (bW V j l) (Hp.t _ _ _)<|U q<|EW p
  ·refine cj (h.r x u g) λb t m v o=>bQ b t m ((Hp.I _ _ λw=>q<|h.i _ _ _ g<|by refine U m.1<|U w ?_;exact e).trans v)<|zv o
 i:=h.i
 c i hi:=(mf.mp hi).elim (h.c i) λq=>⟨_,q▸e⟩
theorem PL.ag(h:PL A K H H' d f N k)(E:H d=O)(e:f (gN A<|K+k)=O)(g:H' a=O)B(F:B<=N+1):PL A K H (((H'.ag a<|.b []).ag d<|.c (hD f (gN A<|K+k)<|.f a) B).ag a<|.b<|vB ni [K+k]) d (hD f (gN A<|K+k)<|.f a) B<|k+1:=by
 refine⟨Hp.aj (Hp.aj (h.s.t<|Hp.ah g _) E _) (Hp.al h.s g) _,(Hp.I _ _<|Hp.ne h.Q g).trans<|Hp.t _ _ _,aE F<|c7 h.n,λx u w=>?_,λx y u o v=>?_,λi G=>?_⟩
 ·rcases xg w with⟨q,rfl⟩|w;·exact bQ a [K+k] (bW V (Hp.al h.s g) (Hp.ne h.Q g).symm) (Hp.t _ _ _)<|U q<|EW ⟨λ_ h=>(dM h).elim,cB _⟩
  ·refine cj (h.r x u w) λb t p m C=>bQ b t p (by refine U (Hp.I _ _<|Hp.ne m g)<|U (Hp.I _ _ p.2.2)<|U (Hp.I _ _<|Hp.ne m g) ?_;exact m)<|zv C
 ·have D:∀z,.f a=u->f z=Y u->False:=λz q n=>by
   refine cj (h.r z u n) λb t p m C=>?_;have:=q.trans p.1;injection this with this;rw[<-this,g]at m;exact aS m
  refine bq (xg o) (λj=>bp j λq r=>?_) λo=>?_<;>refine bq (xg v) (λj=>bp j λc I=>?_) λv=>?_
  ·exact U q<|U c V
  ·exact(D y r v).elim
  ·exact(D x I o).elim
  ·exact h.i x y u o v
 ·by_cases q:gN A (K+i)=gN A (K+k);·exact⟨_,by exact U q<|A4⟩
  ·exact bq (mf.mp G) (λl=>(h.c i l).imp λu e=>(xh q).trans e) λl=>(q<|U l V).elim
def PL.W(h:PL A K H H' d f N k)(g:K<=j/\j<K+k):∃u l,f (gN A j)=Y u/\cf H' u=Y l:=by
 (refine aF (ik g.1) λi e=>?_;subst e)
 refine aF (h.c i<|oS g.2) λu b=>?_;refine cj (h.r _ _ b) λa r n m o=>?_;exact gc u _ b<|U n.1<|dT m
end
section
variable {A B:List Int}{K n L m:Nat}{H H':Hp}{d N k a b I P c j:Nat}{f:IF}{S R:AV}{M:Int}
def Vj(D:H' I=fj A B P S R)(x:PL A K H H' d f k n)(o:K<=j/\j<K+n)(C:L<=c/\c<L+m)(G:K+n<=A.length)(F:L+m<=B.length):
  ∃b,∀E Q,Q (.e b) H'->aR prog (N+1) 13 [.f I,.c j,.c c,.c K,.c L,.f d,.c M] Q E H':=by
 have s:∀p r,ae ⟨aR prog N,[Y _,Y _,Y _,Y _,Y _,Y _,Y _],[],H'⟩ _ (.e p)->
   (p=false->ae ⟨aR prog N,[Y _,Y _,Y _,Y _,Y _,Y _,Y _],[],H'⟩ _ (.e r))->
   ∀E Q,Q (.e<|bif p then false else r) H'->aR prog _ 13 [.f I,.c j,.c c,.c K,.c L,.f d,.c M] Q E H':=λp r t v E Q q=>
  ct (m:=[Y _,Y _,Y _,Y _,Y _,Y _,Y _]) V V (cg t (λe=>by rw[e]at q;exact cQ aL<|gP<|cD (.h _) q) λe=>by rw[e]at q;exact bT<|cQ (v e)<|cD (.h _) q)
 by_cases a:j=K;·exact⟨_,s true false (by have:=mH (z:=.h .c (.l (.g 2 0<|.d 0)<|.j .b false (.d 1)<|.e<|.c 1)<|.l (.g 2 1<|.d 0)<|.j .b false (.d 2)<|.e<|.c 1) (y:=.h .a (.d 2)<|.d 4) (q:=false) (gu (g:=⟨aR prog N,[Y<|.f I,Y _,Y<|.c c,Y _,Y<|.c L,Y<|.f d,Y<|.c M],[],H'⟩) (J (i:=1) V)<|J (i:=3) V) λh=>absurd a<|of_decide_eq_false h;rw[decide_eq_true a]at this;exact this) λh=>aV h⟩
 by_cases w:c=L;·exact⟨_,s _ false (mH (gu J J) λ_=>gL (q:=false) (gu J J) λh=>absurd w<|of_decide_eq_false h) λh=>by rw[decide_eq_true w,Bool.true_or,NG]at h;exact aV h⟩
 have W:K<=j-1/\j-1<K+n:=⟨vk<|nF o.1<|gr a,cH (eE _ _) o.2⟩;refine fY (x.W W) λu l t v=>?_;have T:∀{X},ae ⟨aR prog N,[Y<|.f I,Y<|.c j,Y<|.c c,Y<|.c K,Y<|.c L,Y<|.f d,Y<|.c M],X,H'⟩ (.l (.g 2 0<|.d 0)<|.j .b false (.d 1)<|.e<|.c 1)<|.c<|gN A<|j-1:=λ{X}=>fi (cL J D V) (ip J<|cH (cB _)<|nF o.1<|gr a)<|bX W.2 G;exact⟨_,s _ _ (mH (gu J J) λ_=>gL (gu J J) λ_=>zh T<|fi (cL J D V) (ip J<|cH (cB _)<|nF C.1<|gr w)<|bX (cH (eE _ _) C.2) F) λ_=>zk (lx (mG J x.Q T t) v) J⟩
end
def Ra{F}{m}(g:ae ⟨F,m,[],H⟩ y<|.f d)(l:ae ⟨F,m,[],H⟩ z<|.c k)(b:H d=Y (.c f N))(e:N<sz)
  (q:∀u a,f k=Y u->H a=O->aK F r (m.set i<|Y u) K (H.ag a<|.b [])) (j:∀a,f k=O->H a=O->aK F r (m.set i<|Y<|.f a) K ((H.ag a<|.b []).ag d<|.c (hD f k<|.f a)<|N+1)):
  aK F (.d (.b i) (.r .d [y,z,.m true []])::r) m K H:=
 g _ _ ⟨⟨d,V,.inl ⟨f,N,b⟩⟩,l _ _ ⟨cB _,λa c=>by
  refine⟨d,k,.f a,f,N,V,(Hp.I _ _<|Hp.ne b c).trans b,e,?_⟩;cases h:f k with
  |none=>exact .inr ⟨V,j a h c⟩
  |some u=>exact .inl ⟨u,V,q u a h c⟩⟩⟩
noncomputable def GS(A B:List Int)(Z n bl m:Nat)(q:Nat×Nat×Nat):Prop:=0<q.1/\(Z<=q.2.1/\q.2.1+q.1<=Z+n)/\(bl<=q.2.2/\q.2.2+q.1<=bl+m)/\eS (gN A) (gN B) q.2.1 q.2.2 q.1
abbrev Bq:=Option<|Int×Nat×Nat×Nat
noncomputable def kG:Bq->AV
 |none=>.k
 |some q=>.l [.c q.1,.c<|-q.2.1,.c q.2.2.1,.c q.2.2.2]
noncomputable def qn(A B:List Int)(Z n bl m:Nat)(o:Bq):Prop:=∀q,o=Y q->GS A B Z n bl m q.2
noncomputable def hX(X Z n bl m:Nat)(mo:Int)(d:Nat)(h i e c a b g f o:Option AV):ba:=[Y<|.f X,Y<|pv Z n bl m,Y<|.c mo,Y<|.c Z,Y<|.c (Z+n:Nat),Y<|.c bl,Y<|.c (bl+m:Nat),Y<|.f d,h,i,e,c,a,b,g,f,o]
section
variable {A B:List Int}{Z n bl m:Nat}{H H' eb:Hp}{d N M k a a0 X dx c j p r:Nat}{f:IF}{vg vc:AV}{mo:Int}{F:cF}{K:FK}
def PL.T(h:PL A Z H H' d f N k)(s:H'.aq eb):PL A Z H eb d f N k:=⟨h.s.t s,s _ _ h.Q,h.n,λx u e=>(h.r x u e).imp λa g=>g.imp λr g=>bW g.1 (s _ _ g.2.1) g.2.2,h.i,h.c⟩
def R6(i:H' X=fj A B dx vg vc)(g:PL A Z H H' d f M n)(p:Z+n<=A.length)(k:bl+m<=B.length)(q:Z<=j)(t:bl<=c)(s:Nat×Int)(h:j+s.1+r=Z+n/\c+s.1<=bl+m/\eS (gN A) (gN B) j c s.1):
  gd F Hj HL (λs=>hX X Z n bl m mo d o8 o9 g9 kn (Y<|.c c) (Y<|.c j) (Y<|.c s.1) (Y<|.c s.2) Ad) (λ_=>H') (λr s=>j+s.1+r=Z+n/\c+s.1<=bl+m/\eS (gN A) (gN B) j c s.1)
   (λs=>(j+s.1<=Z+n/\c+s.1<=bl+m/\eS (gN A) (gN B) j c s.1)/\¬(j+s.1<Z+n/\c+s.1<bl+m/\gN A (j+s.1)=gN B (c+s.1))) r s:=by
 have v:j+s.1<Z+n->ae ⟨F,hX X Z n bl m mo d o8 o9 g9 kn (Y<|.c c) (Y _) _ (Y<|.c s.2) Ad,[],H'⟩ (.l (.g 2 0<|.d 0)<|.j .a false (.d 13)<|.d 14) _:=λb=>fi (cL J i V) (eI J J)<|bX b p;refine(cq _ (kc (e6 (eI J J) J) λb=>d4 (e6 (eI J J) J) λe=>i6 (v<|of_decide_eq_true b)<|fi (cL J i V) (eI J J)<|bX (of_decide_eq_true e) k) (λa K o=>?_) λa=>⟨⟨h.1▸bj _ _,h.2⟩,Ct a⟩);have a:=jT a;refine fY (g.W ⟨aE q<|bj _ _,a.1⟩) λu l b e=>?_;induction r using Nat.casesAuxOn with
 |zero=>exact(dk _<|bX a.1<|bb h.1.symm).elim
 |succ r=>exact cv (zj J<|lx (mG J g.Q (v a.1) b) e)<|iN V aL<|bO<|o r (s.1+1,min s.2 l.length) (ec _)<|bW ((cG (j+s.1) 1 r).trans h.1) a.2.1<|h.2.2.c a.2.2
def Om(h:ae g x<|kG<|Y q)(k:ae g y<|kG<|Y q'):ae g (.h .d x y)<|.e<|nY [q.1,-q.2.1,q.2.2.1,q.2.2.2] [q'.1,-q'.2.1,q'.2.2.1,q'.2.2.2]:=fW h k V
def we(h:ae g x<|kG o):ae g (.h .h x<|.e .k)<|.e o.isNone:=fW h aL<|by induction o using Option.casesOn<;>rfl
def R7(D:cf H' u=Y l)(hs:H' X=fj A B dx vg vc)(x:PL A Z H H' d f M n)(la:Z+n<=A.length)(lb:bl+m<=B.length)(k:Z<=j/\j<Z+n)(hc:bl<=c/\c<bl+m)(e:gN A j=gN B c)(C:qn A B Z n bl m Cj)
  (p:∀a i g o,qn A B Z n bl m a->K .a (hX X Z n bl m mo d o8 (Y u) (Y<|kG a) kn (Y<|.c c) (Y<|.c j) i g o) H'):
  aK (aR prog<|N+1) AK (hX X Z n bl m mo d o8 (Y u) (Y<|kG Cj) kn (Y<|.c c) (Y<|.c j) i g o) K H':=by
 refine aF (Vj (N:=N) (M:=mo) hs x k hc la lb) λb t=>?_;refine cg (Oi<|iK J (dY hs) (bt J<|bt J<|bt J<|bt J<|bB J J) t) (λ_=>?_) λ_=>bT<|bO<|p Cj _ _ _ C;refine jD (cO<|bB aL<|lx J D)<|fP (λs=>hX X Z n bl m mo d o8 _ _ kn _ _ _ _ o) (λ_=>H') _ _ (λr s h=>R6 hs x la lb k.1 hc.1 s h) (Z+n-j) (0,l.length) (bW (U (mh _)<|eT<|cI k.2) (cI hc.2) .b) λs h=>?_;have gs:GS A B Z n bl m (s.1,j,c):=e8 (kY λz=>h.2<|by exact U z<|bW k.2 hc.2 e) ⟨k.1,h.1.1⟩ ⟨hc.1,h.1.2.1⟩ h.1.2.2;have y:qn A B Z n bl m<|Y (s.2,s.1,j,c):=λq w=>by(have w:=bz w;subst w);exact gs
 refine cv (v:=kG<|Y (s.2,s.1,j,c)) (cO<|bt J<|bt (gi J)<|bB J J) ?_;induction Cj using Option.casesOn with
 |none=>exact cg (gL (q:=false) (we J) λh=>aV h) (λ_=>cv J<|bT<|bT<|bO<|p _ _ _ _ y) λh=>aV h
 |some q=>exact cg (gL (we J) λ_=>Om J J) (λ_=>cv J<|bT<|bT<|bO<|p _ _ _ _ y) λ_=>bT<|bT<|bO<|p _ _ _ _ C
def PL.ah(h:PL A Z H H' d f M n)x:∃u r,(f x).getD (.g [])=u/\cf H' u=Y (vB ni r)/\∀i∈r,(Z<=i/\i<Z+n)/\gN A i=x:=by
 cases e:f x with
 |none=>exact(bQ _ [] V V λ_ h=>(dM h).elim)
 |some u=>exact(h.r x u e).elim λa g=>g.elim λr g=>bQ u r V (U g.1.1<|dT g.2.1) g.2.2.1
def R8{D E w l k o}{p}(P:H' X=fj A B dx vg vc)(a7:PL A Z H H' d f M n)(R:Z+n<=A.length)(L:bl+m<=B.length)(a6:bl<=c/\c<bl+m)(a5:qn A B Z n bl m b)
  (Q:∀eb x p E w l k o,H'.aq eb->qn A B Z n bl m x->K .a (hX X Z n bl m mo d D E (Y<|kG x) (Y<|.e p) (Y<|.c c) w l k o) eb):
  aK (aR prog<|N+1) HM (hX X Z n bl m mo d D E (Y<|kG b) (Y<|.e p) (Y<|.c c) w l k o) K H':=by
 have y:∀eb u r p,H'.aq eb->cf eb u=Y _->(∀i∈r,(Z<=i/\i<Z+n)/\gN A i=gN B c)->
   aK (aR prog<|N+1) [.j [13] false .a [.d 9] AK] (hX X Z n bl m mo d D _ (Y<|kG b) (Y<|.e p) _ w l k o) K eb:=λeb u r p s z F=>
  mO ni J z (λs=>hX X Z n bl m mo d D _ (Y<|kG s.1) (Y _) _ s.2.1 s.2.2.1 s.2.2.2.1 s.2.2.2.2) (λ_ _=>eb) (λ_ _ s=>qn A B Z n bl m s.1) (b,w,l,k,o) V V a5 (λ_ _ _ _=>V)
   (λa4 i q t e G W I=>R7 z (s _ _ P) (a7.T s) R L (F i<|e▸gI _ (gZ ..)).1 a6 (F i<|e▸gI _ (gZ ..)).2 G λT l k o h=>I (T,_,l,k,o) h) λt G=>bO<|Q _ _ _ _ _ _ _ _ s G
 refine cj (a7.ah<|gN B c) λu r e z F=>?_;have v:=Eo (g:=⟨aR prog<|N+1,hX X Z n bl m mo d D E (Y<|kG b) (Y<|.e p) (Y _) w l k o,[],H'⟩) (J (i:=7) V) a7.Q (fi (cL (j:=1) (J (i:=0) V) P V) (J (i:=12) V)<|bX a6.2 L) qX;rw[e]at v;exact cv v<|cv (gL J λ_=>iJ J z)<|cg (En (lx J z) J) (λ_=>lD fN (cB _) λa S=>bT<|y _ _ [] _ (Hp.ah S _) (dT<|Hp.t _ _ _) λ_ h=>(dM h).elim) λ_=>bT<|y _ u r _ (.h _) z F
def R9(i:H d=O)(w:H X=fj A B dx vg vc)(h:PL A Z H H' d f M k)(g:k<n)(v:Z+n<=A.length)(o:n<sz)
  (p:∀eb y z t,PL A Z H eb d y z (k+1)->K .a (hX X Z n bl m mo d (Y<|.c (Z+k:Nat)) t g9 kn km Td Tc Ta Ad) eb):
  aK F HN (hX X Z n bl m mo d (Y<|.c (Z+k:Nat)) t g9 kn km Td Tc Ta Ad) K H':=by
 refine Ra J (fi (cL J (h.s _ _ w) V) J<|bX (dR g _) v) h.Q (cH h.n<|gg g o) (λu a e c=>?_) λa e c=>?_
 ·refine cj ((h.up i c).r _ _ e) λb r j x q=>?_;rw[j.1]at e |-;refine nV J J x (U (bx _)<|cH q.2<|gg g o)<|bO ?_;have:=p _ f M (Y<|.f b)<|(h.up i c).aj e j.2.1 j.2.2 q;rw[cz]at this;exact this
 ·exact nV J J ((Hp.I _ _ (Hp.ne h.Q c).symm).trans<|Hp.t _ _ _) (cH (cB k)<|gg g o)<|bO<|p _ _ _ _<|h.ag i e c _<|bN _
def R5(I:H X=fj A B dx vg vc)(l:Z+n<=A.length)(K:bl+m<=B.length)(w:A.length<=60/\B.length<=60)
  (P:∀p,Q (.l [.k,.e p]) H) (M:∀p s j c,GS A B Z n bl m (s,j,c)->Q (.l [.l [.c j,.c c,.c s],.e p]) H):
  aR prog (N+2) 12 [.f X,pv Z n bl m,.c mo] Q E H:=by
 have C:60<sz:=by decide
 refine ct (m:=[Y _,Y _,Y _,O,O,O,O,O,O,O,O,O,O,O,O,O,O]) V V<|tA J λd W=>⟨Hp.t _ _ _,?_⟩;refine(?_:aK _ _ (hX X Z n bl m mo d O O O O O O O O O) _<|(H.ag d _).ag d<|.c (λx=>oX x []) 0);refine U (Hp.ak _ _ _ _) ?_;refine pF (bB J J) (aE (aE l w.1)<|cI C) (λs=>hX X Z n bl m mo d s.2.1 s.2.2 O O O O O O O) (λ_ s=>s.1.1) (λk s=>PL A Z H s.1.1 d s.1.2.1 s.1.2.2 k) ((H.ag d _,(λx=>oX x []),0),O,O) V V
  ⟨Hp.ah W _,Hp.t _ _ _,bN _,λ_ _ h=>aS h,λ_ _ _ h=>aS h,λ_ h=>(lh _ h).elim⟩ (λk s F f a0 b=>R9 W I f F l (cH (aE (cW _ _)<|aE l w.1) C) λeb a1 T z h=>b ((eb,a1,T),_,z) h) λs f=>jD (cO<|bB aL aL) ?_
 refine pF (bB J J) (aE (aE K w.2)<|cI C) (λt=>hX X Z n bl m mo d s.2.1 t.2.1 _ (Y<|.e t.1.2.2) t.2.2.1 t.2.2.2.1 t.2.2.2.2.1 t.2.2.2.2.2.1 t.2.2.2.2.2.2) (λ_ t=>t.1.1) (λk t=>s.1.1.aq t.1.1/\qn A B Z n bl m t.1.2.1) ((s.1.1,O,false),s.2.2,O,O,O,O,O) V V
  ⟨.h _,λq h=>aS h⟩ (λk t F a a0 b=>R8 (a.1 _ _<|f.s _ _ I) (f.T a.1) l K ⟨bj _ _,dR F _⟩ a.2 λeb R p z u G D r S a2=>b ((eb,R,p),z,_,u,G,D,r) ⟨a.1.t S,a2⟩) λt a=>?_
 obtain⟨⟨L,g,p⟩,o⟩:=t;induction g using Option.casesOn with
 |none=>exact cQ (gM (we J) (λ_=>cO<|bB aL J) λh=>aV h)<|cD (f.s.t a.1)<|P p
 |some q=>
  have:=M p _ _ _<|a.2 q V;have y:∀{i:Nat}{v},[AV.c q.1,.c<|-q.2.1,.c q.2.2.1,.c q.2.2.2][i]? =Y v->ae ⟨aR prog<|N+1,hX X Z n bl m mo d s.2.1 o.1 (Y _) (Y<|.e p) o.2.1 o.2.2.1 o.2.2.2.1 o.2.2.2.2.1 o.2.2.2.2.2,[],L⟩ (.l (.d 10)<|.e _) v:=λ{i v}e=>qV J aL e;exact cQ (gM (we (o:=Y q) J) (λh=>aV h) λ_=>cO<|bB (cO<|bt (y (i:=2) V)<|bB (y (i:=3) V)<|ez (gi<|y (i:=1) V)<|Int.neg_neg _) J)<|cD (f.s.t a.1) this
end
def N9{bl}(h:0<s):w2 (a2,n2,b2,m2)+w2 (a1,n1,b1,m1)<w2 (al,n1+s+n2,bl,m1+s+m2):=by refine(?_:2*(n2+m2)+1+(2*(n1+m1)+1)<2*(n1+s+n2+(m1+s+m2))+1);exact aW [_,_,_,_,_] (.a (.a (.a (.m 2<|.a (.v 0)<|.v 1)<|.n 1)<|.a (.m 2<|.a (.v 2)<|.v 3)<|.n 1)<|.n 1) (.a (.m 2<|.a (.a (.a (.v 2)<|.v 4)<|.v 0)<|.a (.a (.v 3)<|.v 4)<|.v 1)<|.n 1) [(.a (.n 0)<|.n 1,.v 4),(.a (.n 0)<|.n 1,.v 4)] V h h
section
variable {A B:List Int}{G C:List Bool}{T Z g c w N:Nat}{H H':Hp}{E Q:VK}{W S:List Pt}{al n bl m x y a:Nat}{M:List Bool×List Bool}{v z:AV}{F:cF}{X:Int}
noncomputable def pX(T c n d m:Nat)(X:Int)(w:Nat)(j f h i g e o a b:Option AV):ba:=[Y<|.f T,Y<|pv c n d m,Y<|.c X,Y<|.f w,j,f,h,i,g,e,o,a,b]
noncomputable def uR(A B:List Int)(al n bl m r:Nat)(t:Nat×Nat×Nat):Prop:=GS A B al n bl m (t.2.2,t.1,t.2.1)/\t.1=al+r
theorem uR.d(h:uR A B al n bl m r t)(a:al<t.1)(b:bl<t.2.1)(e:gN A (t.1-1)=gN B (t.2.1-1)):r-1<r/\uR A B al n bl m (r-1) (t.1-1,t.2.1-1,t.2.2+1):=by
 refine bW (l9 (tI h.2 a) kZ) (e8 (fU _) ⟨vk a,?_⟩ ⟨vk b,?_⟩<|eS.d ?_ e)<|z0 h.2 a;·exact U (z4<|ft a)<|h.1.2.1.2
 ·exact U (z4<|ft b)<|h.1.2.2.1.2
 ·refine(?_:eS _ _ _ (t.2.1-1+1) _);refine U (cb<|ft a)<|U (cb<|ft b) ?_;exact h.1.2.2.2
def WB{u o:Option AV}{g p:Nat}(d:H' T=fj A B Z v z)(q:al+n<=A.length)(l:bl+m<=B.length)t(h:uR A B al n bl m r t):
  gd F Hm HO (λt=>pX T b i c j X w (Y<|.c al) (Y<|.c g) (Y<|.c bl) (Y<|.c p) u o (Y<|.c t.1) (Y<|.c t.2.1)<|Y<|.c t.2.2) (λ_=>H') (uR A B al n bl m) (λt=>GS A B al n bl m (t.2.2,t.1,t.2.1)) r t:=by
 refine(cq _ (kc (hV J J) λf=>d4 (hV J J) λe=>i6 (fi (cL (J V) d V) (ip (J V)<|ft<|of_decide_eq_true f)<|wV (ft<|of_decide_eq_true f)<|aE (bj _ _)<|aE h.1.2.1.2 q)<|fi (cL (J V) d V) (ip (J V)<|ft<|of_decide_eq_true e)<|wV (ft<|of_decide_eq_true e)<|aE (bj _ _)<|aE h.1.2.2.1.2 l) (λa K k=>?_) λ_=>h.1);have s:=h.d (jT a).1 (jT a).2.1 (jT a).2.2;exact wB (cO<|bt (ip J<|ft (jT a).1)<|bB (ip J<|ft (jT a).2.1)<|eI J aL)<|bO<|k _ (t.1-1,t.2.1-1,t.2.2+1) s.1 s.2
def W5(h:GS A B al n bl m (s,j,k)):∃a d b c,(j=al+a/\k=bl+b)/\n=a+s+d/\m=b+s+c:=by refine aF (ik h.2.1.1) λa e=>?_;refine aF (ik h.2.2.1.1) λb f=>?_;have i:j+s<=al+n:=h.2.1.2;have g:k+s<=bl+m:=h.2.2.1.2;rw[show j=al+a from e,bY]at i;rw[show k=bl+b from f,bY]at g;refine aF (ik<|L2 i) λd l=>?_;refine aF (ik<|L2 g) λc o=>?_;exact w7 a d b c ⟨e,f⟩ l o
def WA(hs:Sh H T Z A B g c G C)(hw:H w=O)(hz:A.length+B.length<=60)(h:ng A B G C a ((al,n,bl,m)::S) M)
  (hK:∀k' S' M' o4 o5 o6 o7 o8 o9 g9 kn km,k'<a->ng A B G C k' S' M'->K .a (pX T m9 n0 mY m0 X w o4 o5 o6 o7 o8 o9 g9 kn km) (fD (H.au g c M'.1 M'.2) w S')):
  aK (aR prog<|N+3) AM (pX T m9 n0 mY m0 X w o4 o5 o6 o7 o8 o9 g9 kn km) K (fD (H.au g c M.1 M.2) w<|(al,n,bl,m)::S):=by
 have d7:=hs.q h.a.l.1 h.a.l.2;have fX:=rq (G':=M.1) (C':=M.2) hs hw;have bd:=h.a.a.t;have f:=h.d;refine zR λE Q hQ=>BS J (dY (d7.p fX).s) J zI ?_;refine U zH ?_;refine zA (d7.p fX).s bd.1 bd.2 λk n' m' j tr=>hQ _ _ _ _ _ ?_;have ai:=tr.p h.a.a;have bd:=ai.t;have ms:∀G' C',(fD (H.au g c M.1 M.2) w S).au g c G' C'=fD _ w S:=λG' C'=>by exact U (Am (Hp.ne d7.t fX).symm (Hp.ne d7.D fX).symm)<|U (Hp.ay _ hs.n) V
 have tT:=cI<|bX f.2 h.c;have GI:∀{K'}{r}{o8 o9},(∀M',ng A B G C _ S M'->aK _ r (pX T m9 n0 mY m0 X w _ _ (Y<|.c<|bl+k) (Y<|.c (bl+k+m':Nat)) o8 o9 g9 kn km) K' (fD (H.au g c M'.1 M'.2) w S))->
   aK (aR prog<|N+3) (.e (.o 2 6 (.d 0) [.q [.d 4,.d 5,.d 6,.d 7]])::r) (pX T m9 n0 mY m0 X w (Y<|.c (al+k:Nat)) (Y<|.c (al+k+n':Nat)) (Y<|.c<|bl+k) (Y<|.c (bl+k+m':Nat)) o8 o9 g9 kn km) K' (fD (H.au g c M.1 M.2) w S):=λq=>
  kg λE=>eZ J (dY (d7.p fX).s) (cJ<|cO<|bt J<|bt J<|bt J<|cJ J) (w9 (d7.p fX) (d7.l.1▸bd.1) (d7.l.2▸bd.2) (by refine U (ms _ _) ?_;exact q (mk M.1 (al+k) n',mk M.2 (bl+k) m') ⟨⟨⟨jd.trans h.a.l.1,jd.trans h.a.l.2⟩,ai.mk (d7.l.1▸bd.1) (d7.l.2▸bd.2)⟩,V,tT⟩))
 refine cg (gL (gu J J) λ_=>gu J J) (λ_=>?_) λhc=>?_;·exact GI λM' p=>bT<|bO<|hK _ S M' _ _ _ _ _ _ _ _ _ f.2 p
 ·refine tB λE Q hQ=>eZ J (dY (d7.p fX).s) (bB (cO<|bt J<|bt J<|bt J<|cJ J) J) (R5 (d7.p fX).s bd.1 bd.2 ⟨aE (bj _ _) hz,aE (cW _ _) hz⟩ (λp=>hQ _ _ _ ?_) λp s j k' gs=>hQ _ _ _ ?_)
  ·refine cg (p:=false) (fW J aL V) (λe=>aV e) λ_=>cg (p:=p) J (λ_=>?_) λ_=>?_
   ·refine kg λE=>eZ J (dY (d7.p fX).s) (cJ<|cO<|bt J<|bt J<|bt J<|cJ J) (Ay (d7.p fX) hz ai λG' C' mk=>bT<|bT<|bT<|bO ?_);refine U (ms _ _) ?_;exact hK _ S (G',C') _ _ _ _ _ _ _ _ _ f.2 ⟨⟨⟨mk.l.1.trans h.a.l.1,mk.l.2.trans h.a.l.2⟩,mk.a⟩,V,tT⟩
   ·exact GI λM' p=>bT<|bT<|bT<|bO<|hK _ S M' _ _ _ _ _ _ _ _ _ f.2 p
  ·refine aF (ik gs.2.1.1) λr er=>cg (p:=true) (fW J aL V) (λ_=>wB (J V)<|fP (λt:Nat×Nat×Nat=>pX T m9 n0 mY m0 X w (Y<|.c (al+k:Nat)) (Y<|.c (al+k+n':Nat)) (Y<|.c<|bl+k) (Y<|.c (bl+k+m':Nat)) _ _ (Y<|.c t.1) (Y<|.c t.2.1)<|Y<|.c t.2.2) (λ_=>_) _ _ (λr t h=>WB (d7.p fX).s bd.1 bd.2 t h) r (j,k',s) ⟨gs,er⟩ λt gt=>?_) λe=>aV e;refine Bz (W5 gt) λn1 n2 m1 m2 e1 e2 e3=>?_;have lt:jy ((al+k+n1+t.2.2,n2,bl+k+m1+t.2.2,m2)::(al+k,n1,bl+k,m1)::S)<a:=by
    refine bX ?_<|aE (hS (y9 (al:=al) (R:=bl) (al':=al+k) (bl':=bl+k) tr.o) _)<|bb h.b;refine(?_:w2 _+(w2 _+jy S)<_);refine aP (bY _ _ _)<|U e2<|U e3 ?_;exact L5 (N9 gt.1) _
   refine rn (P:=(al+k,n1,bl+k,m1)) J (cO<|bt J<|bt (dp (J V)<|U e1.1 V)<|bt J<|cJ<|dp (J V)<|U e1.2 V) (j7<|j7 f.1) ?_;refine rn (P:=(al+k+n1+t.2.2,n2,bl+k+m1+t.2.2,m2)) J (cO<|bt (dp (eI (J V)<|J V)<|U e1.1 V)<|bt (dp (J V)<|U e2<|aP (bY _ _ _)<|aP (bY _ _ _) V)<|bt (dp (eI (J V)<|J V)<|U e1.2 V)<|cJ<|dp (J V)<|U e3<|aP (bY _ _ _)<|aP (bY _ _ _) V) (j7 f.1)<|bT<|bT<|bO ?_;exact hK _ _ M _ _ _ _ _ _ _ _ _ lt ⟨⟨h.a.l,AI.D (by refine aP e2<|aP e3 ?_;exact ai)<|e1.1▸e1.2▸gt.2.2.2⟩,V,aE (cI lt) h.c⟩
def U2(d:Sh H T Z A B g c G C)(l:A.length+B.length<=60)(h:AI (gN A) (gN B) (gB G) (gB C) A.length B.length [(al,n,bl,m)])(q:∀G' C',Mk A B G C G' C' []->Q .k (H.au g c G' C')):
  aR prog (N+4) 14 [.f T,pv al n bl m,.c X] Q E H:=by
 refine ct (m:=[Y _,Y _,Y _,O,O,O,O,O,O,O,O,O,O]) V V<|lD (cJ J) (by refine(?_:1<=sz);decide) λw p=>?_;have e:H.au g c G C=H:=by unfold Hp.au;exact U (Hp.ao _ d.t)<|U (Hp.ao _ d.D) V
 have:=fP (F:=aR prog<|N+3) (c:=Hn) (b:=AM) (K:=e7 Q E) (λs:List Pt×(List Bool×List Bool)×Option AV×Option AV×Option AV×Option AV×Option AV×Option AV×Option AV×Option AV×Option AV=>pX T al n bl m X w s.2.2.1 s.2.2.2.1 s.2.2.2.2.1 s.2.2.2.2.2.1 s.2.2.2.2.2.2.1 s.2.2.2.2.2.2.2.1 s.2.2.2.2.2.2.2.2.1 s.2.2.2.2.2.2.2.2.2.1 s.2.2.2.2.2.2.2.2.2.2)
  (λs=>fD _ w s.1) (λk s=>ng A B G C k s.1 s.2.1) (λs=>Mk A B G C s.2.1.1 s.2.1.2 []) (λk s h=>?_) _
  ([(al,n,bl,m)],(G,C),O,O,O,O,O,O,O,O,O) ⟨⟨⟨V,V⟩,h⟩,V,?_⟩ λs h=>bO<|iP (Hp.ah (rq d p) _)<|q _ _ h
 ·exact aP e<|this
 ·refine(aO _ (iJ J<|dT<|Hp.t _ _ _) ?_);obtain⟨S,M,o⟩:=s;induction S using List.casesOn with
  |nil=>exact⟨λh=>aV h,λ_=>h.a⟩
  |cons P S=>exact⟨λ_ K D=>WA d p l h λy R L a5 I u v a6 t i f j z x=>D y (R,L,a5,I,u,v,a6,t,i,f,j) z x,λe=>by rw[oW,cz,show[P].map kj=[kj P]from V,xY]at e;exact aV e⟩
 ·exact aE (c7<|j5 2<|aE (ed (aE (cW _ _) h.t.1)<|aE (cW _ _) h.t.2) l)<|by decide
end
abbrev bH:=List UInt8
noncomputable def ln(a:List bH)(i:Nat):bH:=a.getD i []
def CP.D(h:CP R x y a x' y'):x<=x'/\y<=y':=by
 induction a generalizing x y with
 |nil=>exact⟨bb h.1,bb h.2⟩
 |cons c a i=>
  refine dN h λz _ h=>aH z λk e _=>?_;have:=i h;exact⟨aE (e.1▸bj _ _)<|aE (bj _ _) this.1,aE (e.2▸bj _ _)<|aE (bj _ _) this.2⟩
def CP.M(r:∀i j,i<x'->j<y'->R i j->R' i j)(h:CP R x y a x' y'):CP R' x y a x' y':=by
 induction a generalizing x y with
 |nil=>exact h
 |cons c a l=>
  refine dN h λz m d=>cw z λk e g f=>?_;exact bW (cq k e g λi b=>r _ _ (bX (dR b _)<|aE (e.1▸bj _ _) d.D.1) (bX (dR b _)<|aE (e.2▸bj _ _) d.D.2)<|f i b) m<|l d
def CO.f(r:∀i j,i<n->j<m->R i j->R' i j)(h:CO R n m cs):CO R' n m cs:=by refine ia h λx y k c b d=>?_;exact(lK x y k (c.M λi j a e=>r i j (bX a<|b.1▸bj _ _)<|bX e<|b.2▸bj _ _) b λi a=>r _ _ (b.1▸dR a _) (b.2▸dR a _)<|d i a)
def rL{a:List bH}{ψ:bH->Int}{i:Nat}(h:i<a.length):gN (a.map ψ) i=ψ (ln a i):=by unfold gN ln;refine U j9<|U gh<|U (jM (d:=[]) h) ?_;rfl
def xa(h:i<a.length):ln a i∈a:=mm<|jM h
noncomputable def gf(a b:List bH)(i j:Nat):Prop:=ln a i=ln b j
def xx:gB (dC n false) i=false:=by
 unfold gB;refine U j9<|U vG ?_;by_cases h:i<n;·refine U (if_pos h) ?_;rfl
 ·refine U (if_neg h) ?_;rfl
def AI.I:AI A B (gB<|dC k false) (gB<|dC l false) n m [(0,n,0,m)]:=
 (eX 0 0 ⟨cy _,cy _⟩ ⟨λ_ _=>xx,λ_ _=>xx⟩ V V)
section
variable {a b:List bH}{H H':Hp}{N l z g c:Nat}{E Q:VK}{ψ:bH->Int}{m:ba}{i:Nat}{G C:List Bool}
def BQ(s:H.aq H')(w:H g=O)(u:H c=O)(p:∀x∈a,∀y∈b,ψ x=ψ y->x=y)(d:Sh H' l z (a.map ψ) (b.map ψ) g c G C)(t:a.length+b.length<=60)(o:AI (gN<|a.map ψ) (gN<|b.map ψ) (gB G) (gB C) (a.map ψ).length (b.map ψ).length [])
  (r:m[i]? =Y (Y<|.f l)) (q:∀f,CO (gf a b) a.length b.length f->Q (.g<|f.map d') H):aK (aR prog<|N+2) [.f<|.o 2 7 (.d i) []] m (e7 Q E) H':=by
 refine g8 λv=>eZ (J r) (dY d.s) fN<|Ki d.s (dT d.t) (dT d.D) d.l.1 d.l.2 ?_ o λf h=>cD s<|q f ?_;·refine U (bx _)<|U (bx _) ?_;exact cH t<|by decide
 ·rw[bx,bx]at h;exact h.f λi j n k e=>p _ (xa n) _ (xa k)<|(rL n).symm.trans<|e.trans<|rL k
def wm(s:H.aq H')(h:H g=O)(a:H c=O):H.aq<|H'.au g c G' C':=Hp.aj (Hp.aj s h _) a _
def UI(e:a.length+b.length<=60)(q:∀i,CO (gf a b) a.length b.length i->Q (.g<|i.map d') H):aR prog (N+4) 17 [.g<|a.map .d,.g<|b.map .d] Q E H:=by refine ct (m:=[Y _,Y _,O]) V V<|pH (bB J J) λl z p r n o=>xj n (cH e<|by decide) λH' g c ψ s j f k h=>o H' ?_;refine kg λE=>eZ J (dY h.s) (cJ<|iK J (dY h.s) fN λE Q q=>y8 h.s q)<|Ay h (by refine U (bx _)<|U (bx _) ?_;exact e) AI.I λG C d=>?_;exact BQ (wm s j f) j f k (h.q d.l.1 d.l.2) e d.a V q
def SH(e:a.length+b.length<=60)(q:∀i,CO (gf a b) a.length b.length i->Q (.g<|i.map d') H):aR prog (N+5) 18 [.g<|a.map .d,.g<|b.map .d] Q E H:=by refine ct (m:=[Y _,Y _,O]) V V<|pH (bB J J) λl z p r n o=>xj n (cH e<|by decide) λH' g c ψ s j f k h=>o H' ?_;refine kg λE=>eZ J (dY h.s) (cJ<|iK J (dY h.s) fN λE Q q=>y8 h.s q)<|U1 h (by refine U (bx _)<|U (bx _) ?_;exact e) AI.I λG C d=>?_;exact BQ (wm s j f) j f k (h.q d.l.1 d.l.2) e d.a V q
def Wz(e:a.length+b.length<=60)(q:∀i,CO (gf a b) a.length b.length i->Q (.g<|i.map d') H):aR prog (N+5) 19 [.g<|a.map .d,.g<|b.map .d] Q E H:=by refine ct (m:=[Y _,Y _,Y _,O]) V V<|pH (bB J J) λl z p r n o=>xj n (cH e<|by decide) λH' g c ψ s j f k h=>o H' ?_;refine kg λE=>eZ J (dY h.s) (bB (iK J (dY h.s) fN λE Q q=>y8 h.s q) J)<|U2 h (by refine U (bx _)<|U (bx _) ?_;exact e) AI.I λG C d=>?_;exact BQ (wm s j f) j f k (h.q d.l.1 d.l.2) e d.a V q
noncomputable def pY:List AV:=[.m<|eH "myers",.m<|eH "patience",.m<|eH "histogram"]
def pk{g}(h:ae g x<|.m s)(e:(s==t)=p):ae g (.h .a x<|.e<|.m t)<|.e p:=fW h aL<|congrArg Y e
def aaI(d:mT∈pY)(f:a.length+b.length<=60)(q:∀c,CO (gf a b) a.length b.length c->Q (.g<|c.map d') H):aR prog (N+6) 20 [mT,.g<|a.map .d,.g<|b.map .d] Q E H:=by
 have r:∀g,g=(λv H'=>e7 Q E (.c v) [Y mT,Y<|.g<|a.map .d,Y<|.g<|b.map .d] H')->∀c,CO _ a.length b.length c->g (.g<|c.map d') H:=λg e c h=>e▸cD (.h _) (q c h);refine ct (m:=[Y mT,Y _,Y _]) V V ?_;rcases gH.mp d with rfl|d;·exact cg (pk (p:=true) J<|by decide+kernel) (λ_=>g8 λE=>dP (bB J J)<|UI f<|r _ V) λh=>aV h
 rcases gH.mp d with rfl|d;·exact cg (pk (p:=false) J<|by decide+kernel) (λh=>aV h) λ_=>bT<|cg (pk (p:=true) J<|by decide+kernel) (λ_=>g8 λE=>dP (bB J J)<|SH f<|r _ V) λh=>aV h
 cases dm.mp d;exact cg (pk (p:=false) J<|by decide+kernel) (λh=>aV h) λ_=>bT<|cg (pk (p:=false) J<|by decide+kernel) (λh=>aV h) λ_=>bT<|cg (pk (p:=true) J<|by decide+kernel) (λ_=>g8 λE=>dP (bB J J)<|Wz f<|r _ V) λh=>aV h
end
noncomputable def fO(P:Nat->Nat)(K:Nat):List Nat:=(fV<|K+1).map λk=>P (k+1)-P k
noncomputable def fp(P:Nat->Nat)(j v:Nat):Nat->Nat:=λk=>if k=j then v else P k
structure Gd(A κ:Nat->Int)(K n:Nat)(P:Nat->Nat):Prop where
 z:P 0=0
 m:∀k,k<=K->P k<=P (k+1)
 t:P (K+1)+K=n
 k:∀k,k<K->A (k+P (k+1))=κ k
section
variable {A κ:Nat->Int}{K n g i j v:Nat}{P:Nat->Nat}
def gb:fp P j v j=v:=if_pos V
def dt(h:i≠j):fp P j v i=P i:=if_neg h
def iL(h:i<=K):(fO P K)[i]? =Y (P (i+1)-P i):=by refine U gh<|U (Mq<|nC h) ?_;rfl
def gO:(fO P K).length=K+1:=by exact U (bx _)<|U vC V
def Gd.o(h:Gd A κ K n P)(b:i<=j)(a:j<=K+1):P i<=P j:=by
 induction j with
 |zero=>cases sC.mp b;exact bN _
 |succ j c=>
  exact bq (ve b) (λl=>aE (c (f6 l)<|sD a)<|h.m j<|nG a) λl=>U l<|bN _
def Gd.u(h:Gd A κ K n P)(a:g<=K+1):((fO P K).take g).sum=P g:=by
 induction g with
 |zero=>exact h.z.symm
 |succ g i=>
  refine U vv<|U Dj<|U (i<|sD a)<|U (iL<|nG a) ?_;refine(?_:P g+(P _-P g+0)=_);rw[mh,eT<|h.m g<|nG a]
def Gd.p(h:Gd A κ K n P)(a:g<K):g+P (g+1)<n:=by refine aP h.t<|U (fh g _) ?_;exact L6 (h.o (c7<|cI a)<|bN _) a
def Gd.r(h:Gd A κ K n P)(a:g<=K)(b:v<P (g+1)):g+v<n:=by refine aP h.t<|U (fh g _) ?_;exact Nat.add_lt_add_of_lt_of_le (bX b<|h.o (c7 a)<|bN _) a
def Gd.f(h:Gd A κ K n P)(d:g<K)(l:P g<=v)(c:v<=P (g+2))(e:A (g+v)=κ g):Gd A κ K n (fp P (g+1) v)where
 z:=(dt (qF g).symm).trans h.z
 m k hk:=by
  by_cases b:k=g+1;·refine U b<|U gb<|U (dt<|kX _) ?_;exact c
  ·refine U (dt b) ?_;by_cases a:k=g;·refine U a<|U gb ?_;exact l
   ·exact U (dt λq=>a<|fL q)<|h.m k hk
 t:=by exact U (dt λq=>dk _<|fL q▸d)<|h.t
 k k hk:=by
  by_cases a:k=g;·refine U a<|U gb ?_;exact e
  ·exact U (dt λq=>a<|fL q)<|h.k k hk
def Pe(h:Gd A κ K n P)(b:g<K):((fO P K).set g<|P (g+1)-P g+(P (g+2)-P (g+1))).set (g+1) 0=fO (fp P (g+1)<|P<|g+2) K:=by
 refine sR λi=>?_;refine bq (hO K i) (λl=>?_) λl=>?_;·exact U (mr<|by refine U mn<|U mn<|U gO ?_;exact l)<|U (mr<|U gO<|l) V
 ·refine U (iL l) (U qN<|U mn<|U gO ?_);by_cases a:g+1=i;·exact U (if_pos a)<|U (if_pos<|ij b)<|aP a<|U gb<|U (dt<|kX _)<|U (nB _) V
  ·refine U (if_neg a) (U qN<|U gO ?_);by_cases e:g=i;·exact U (if_pos e)<|U (if_pos<|lj b)<|aP e<|U gb<|U (dt (kX g).symm)<|U (fh _ _)<|U (Df (h.m _ b)<|h.m _<|cI b) V
   ·exact U (if_neg e)<|U (iL l)<|U (dt λq=>e (fL q).symm)<|U (dt λq=>a q.symm) V
def Ph(h:Gd A κ K n P)(b:g<K):((fO P K).set (g+1)<|P (g+2)-P (g+1)+(P (g+1)-P g)).set g 0=fO (fp P (g+1)<|P g) K:=by
 refine sR λi=>?_;refine bq (hO K i) (λl=>?_) λl=>?_;·exact U (mr<|by refine U mn<|U mn<|U gO ?_;exact l)<|U (mr<|U gO<|l) V
 ·refine U (iL l) (U qN<|U mn<|U gO ?_);by_cases e:g=i;·exact U (if_pos e)<|U (if_pos<|lj b)<|aP e<|U gb<|U (dt (kX g).symm)<|U (nB _) V
  ·refine U (if_neg e) (U qN<|U gO ?_);by_cases a:g+1=i;·exact U (if_pos a)<|U (if_pos<|ij b)<|aP a<|U gb<|U (dt<|kX _)<|U (Df (h.m _ b)<|h.m _<|cI b) V
   ·exact U (if_neg a)<|U (iL l)<|U (dt λq=>e (fL q).symm)<|U (dt λq=>a q.symm) V
def AU:ks A G 0 (t+1)=ks A G 0 t++(if G t then[]else[A t]):=by refine U kv<|U (cy _) ?_;rfl
end
noncomputable def kl(A:Nat->Int)(K:Nat)(P:Nat->Nat):List Int:=(fV K).map λk=>A<|k+P (k+1)
def Gd.B{A κ:Nat->Int}{K n:Nat}{P:Nat->Nat}(h:Gd A κ K n P):kl A K P=(fV K).map κ:=sN λk a=>h.k k<|mj.mp a
section
variable {g:Gm}{F:cF}{m c:ba}{K:FK}{H:Hp}{r:List S}{x y z:X}{i j k l:Nat}{a:Nat}{v w u:AV}{b:List AV}{E Q:VK}{L:List Nat}
def PR(l:List α)(n:Nat):eV l O (Y n)=l.take n:=by refine(?_:mw 0 (nI (eF l.length n) l)=_);unfold eF;refine U vL<|U (if_pos<|f9 n)<|U (pa _) ?_;exact bq (jv n l.length) (λh=>U (fB h) V) λh=>U (ju h)<|U il<|U (vu h) V
def Of{n:Nat}(h:ae g x u)(o:cf g.H u=Y b)(a:ae g y<|.c n):ae g (.w x (.e .k) y)<|.g<|b.take n:=λE Q q=>h E _ (a E _ (by refine ou o V V ?_;exact U (PR _ _)<|q))
def V1 l:kx (l.map .c)=Y l:=by
 induction l with
 |nil=>rfl
 |cons b l i=>refine(?_:sx _ _=_);refine U i ?_;rfl
def Ps(L:List Nat):(L.map λn:Nat=>(n:Int)).sum=L.sum:=by
 induction L with
 |nil=>rfl
 |cons b L i=>refine(?_:(b:Int)+(L.map _).sum=_);refine U i ?_;rfl
def Og(h:ae g x<|.g<|L.map ni)(a:∀n∈L,n<=sz):ae g (.r .u [x])<|.c L.sum:=λE Q q=>h E _ ⟨trivial,by
 refine⟨.g _,L.map ni,L.map λn:Nat=>n,V,V,(by refine U lr ?_;rfl:L.map ni=(L.map λn:Nat=>(n:Int)).map .c)▸V1 _,λx c=>?_,by exact U (Ps _)<|q⟩
 (refine aH (iG.mp c) λn b e=>?_;subst e)
 exact⟨f9 n,pb.mpr (a n b)⟩⟩
def Ou(h:ae g x<|.d s):ae g (.r .w [x])<|.e true:=λE Q q=>h E _ ⟨trivial,⟨s,V,q⟩⟩
def ZX(h:ae ⟨F,m,c,H⟩ x<|.e true)(k:∀a,(∀b,Q (.e b) H->a (.e b) H)->den F E m c y a H):den F E m c (.t [x,y]) Q H:=h E _<|k _ λb q=>by induction b using Bool.casesOn<;>exact q
def ZH(h:ae ⟨F,m,c,H⟩ x<|.d s)(q:∀b,Q (.e b) H):den F E m c (.h .a (.r .i [x,.e<|.d t])<|.e<|.d t') Q H:=h E _ ⟨⟨s,V⟩,⟨s,t,V,λr=>q _⟩⟩
def FD{q:Nat}(f:ae ⟨F,m,[],H⟩ y<|.f a)(g:ae ⟨F,m,[],H⟩ z<|.c i')(b:lC L.length i'=Y i)(c:H a=Y (.b<|L.map ni))(h:L[i]? =Y p)(e:ae ⟨F,m,[],H⟩ x<|.c q)(k:aK F r m K<|H.ag a<|.b<|(L.set i<|p+q).map ni):aK F (.m (.e y z) .a x::r) m K H:=
 f _ _ (g _ _ (by
  have l:=(et.mp h).1;have d:lC (L.map ni).length i'=Y i:=by exact U (bx _)<|b
  refine wk (dT c) d (by refine U gh<|U h ?_;rfl)<|e _ _<|rZ<|qg c<|bQ _ _ V d ?_;rw[yD]at k;exact k))
end
structure GH(H:Hp)(o r:Nat)(A:List Int)(a:List bH)(s:Nat)(P:Nat->Nat)(K:Nat):Prop where
 h:H o=Y (.bF 3 r [.g<|A.map .c,.g<|a.map .d,.f s])
 s:H s=Y (.b<|(fO P K).map ni)
section
variable {H:Hp}{o r s K n g N:Nat}{A:List Int}{a:List bH}{P:Nat->Nat}{κ:Nat->Int}{E Q:VK}{F:cF}
def GH.d(h:GH H o r A a s P K):GH (H.ag s<|.b<|(fO P' K).map ni) o r A a s P' K:=
 ⟨(Hp.I _ _ λe=>by have:=h.h;rw[e,h.s]at this;cases this).trans h.h,Hp.t _ _ _⟩
def Pf(h:Gd (gN A) κ K n P)(b:n<=60):∀x∈fO P K,x<=sz:=λx c=>by
 (refine aH (iG.mp c) λk a e=>?_;subst e)
 exact aE (eE _ _)<|aE (h.o (Nat.succ_le_of_lt<|mj.mp a)<|bN _)<|aE (h.t▸bj _ _)<|aE b<|by decide
def Xm(h:GH H o r A a s P K)(c:Gd (gN A) κ K n P)(e:n<=60)(d:g<=K)(q:Q (.c (g+P g:Nat)) H):aR prog (N+1) 21 [.f o,.c g] Q E H:=by
 refine ct (m:=[Y _,Y _]) V V<|cQ (eI J ?_)<|cD (.h _) q;have:=Og (g:=⟨aR prog N,[Y _,Y _],[],H⟩) (L:=(fO P K).take g) (x:=.w (.g 3 2<|.d 0) _<|.d 1) (by exact U vA<|Of (cL J h.h V) (dT h.s) J) λx b=>Pf c e x (vz b)
 rw[c.u<|gY d]at this;exact this
def qW(h:GH gm.H U0 r A a s P K)(d:ae gm x<|.f U0)(c:ae gm y<|.c g)(b:g<=K):ae gm (.l (.g 3 2 x) y)<|.c (P (g+1)-P g:Nat):=
 q8 ni (cL d h.h V) h.s c (iL b)
def ze(h:GH H o r A a s P K)(b:Gd (gN A) κ K n P)(f:n<=60)(c:g<=K)(d:m[i]? =Y (Y<|.f o))(e:m[j]? =Y (Y<|.c g)):ae ⟨aR prog<|N+1,m,[],H⟩ (.o 3 21 (.d i) [.d j])<|.c (g+P g:Nat):=
 iK (J d) (dY h.h) (cJ<|J e) λE Q q=>Xm h b f c q
def OG(h:GH H o r A a s P K)(d:Gd (gN A) κ K A.length P)(j:A.length<=60)(c:g<=K):∃b,(∀E Q,Q (.e b) H->aR prog (N+2) 22 [.f o,.c g] Q E H)/\(b=true->∃k,g=k+1/\gN A (k+P (k+1))=gN A (k+P (k+2))):=by
 have i:∀b,ae ⟨aR prog _,[Y _,Y _,Y _],[],H⟩ _ _->∀E Q,Q (.e b) H->aR prog (N+2) 22 [.f o,.c g] Q E H:=λb f E Q q=>
  ct (m:=[Y _,Y _,O]) V V (cv (ze h d j c V V)<|cQ f<|cD (.h _) q)
 induction g using Nat.casesAuxOn with
 |zero=>exact(aO _ (i _<|d4 (hV (b:=0) J aL) λk=>absurd (of_decide_eq_true k)<|dk _) λk=>by rw[sY]at k;exact aV k)
 |succ k=>
  have e:k+1+P (k+1)-1=k+P (k+1):=by refine U (cG _ _ _) ?_;rfl
  have p:0<k+1+P (k+1):=bX (fU k)<|bj _ _;refine(aO _ (i _<|d4 (hV J aL) λ_=>i6 (fi (cL J h.h V) (dp (ip J p)<|U e V)<|d.p c)<|fi (cL J h.h V) (dp (ip (eI J<|qW h J J c)<|bX p<|bj _ _)<|by exact U (by refine U (bY _ _ _)<|U (eT<|d.m _ c)<|U (cG _ _ _) ?_;rfl:k+1+P _+(P _-P _)-1=k+P _) V) ?_) λf=>aO k V<|of_decide_eq_true (ef.mp f).2);refine aP d.t<|U (fh k _) ?_;exact L6 (d.o (c7 c)<|bN _) c
def Zu(h:GH H o r A a s P K)(c:Gd (gN A) κ K A.length P)(j:A.length<=60)(e:g<=K):∃b,(∀E Q,Q (.e b) H->aR prog (N+2) 23 [.f o,.c g] Q E H)/\(b=true->g<K/\gN A (g+P g)=gN A (g+P (g+1))):=by
 have n:∀b,ae ⟨aR prog _,[Y _,Y _,Y _],[],H⟩ _ _->∀E Q,Q (.e b) H->aR prog (N+2) 23 [.f o,.c g] Q E H:=λb d E Q q=>
  ct (m:=[Y _,Y _,O]) V V (cv (ze h c j e V V)<|cQ d<|cD (.h _) q)
 have l:∀{k},decide (g+1<K+1)=true->k<=P _->g+k<A.length:=λk f=>cH (ff f _)<|c.p<|oR<|of_decide_eq_true k;exact(aO _ (n _<|d4 (e6 (eI (J V)<|aL)<|dp (lx (cL J h.h V)<|dT h.s)<|U (bx _)<|U gO V) λk=>i6 (fi (cL J h.h V) J<|l k<|c.m _ e)<|fi (cL J h.h V) (dp (eI J<|qW h J J e)<|U (U (bY _ _ _) (U (eT<|c.m _ e) V):g+P g+(P _-P g)=g+P _) V)<|l k<|bN _) λd=>⟨oR<|of_decide_eq_true (ef.mp d).1,of_decide_eq_true (ef.mp d).2⟩)
def FU{i j:Nat}(h:GH H o r A a s P K)(c:(fO P K)[i]? =Y p)(b:(fO P K)[j]? =Y q)(k:Q (.c j)<|H.ag s<|.b<|(((fO P K).set j<|q+p).set i 0).map ni):aR prog (N+1) 24 [.f o,.c i,.c j] Q E H:=by
 have n:o≠s:=λe=>by have:=h.h;rw[e,h.s]at this;cases this
 refine ct (m:=[Y _,Y _,Y _]) V V<|FD (cL J h.h V) J (tK (et.mp b).1) h.s b (q8 ni (cL J h.h V) h.s J c) ?_;refine zS aL (cL J ((Hp.I _ _ n).trans h.h) V) J (Hp.t _ _ _) (by refine U (bx _)<|U mn ?_;exact(et.mp c).1)<|cQ J<|cD (.h _) ?_;refine U (Hp.ak _ _ _ _)<|aP yD ?_;exact k
def So(h:GH H o r A a s P K)(c:Gd (gN A) κ K n P)(b:g<K)(k:Q (.c g)<|H.ag s<|.b<|(fO (fp P (g+1)<|P<|g+2) K).map ni):aR prog (N+1) 24 [.f o,.c (g+1:Nat),.c g] Q E H:=
 FU h (iL b) (iL<|cI b) (U (Pe c b)<|k)
def Sp(h:GH H o r A a s P K)(c:Gd (gN A) κ K n P)(b:g<K)(k:Q (.c (g+1:Nat))<|H.ag s<|.b<|(fO (fp P (g+1)<|P g) K).map ni):aR prog (N+1) 24 [.f o,.c g,.c (g+1:Nat)] Q E H:=
 FU h (iL<|cI b) (iL b) (U (Ph c b)<|k)
def aaV(h:GH H o r A a s P K)(e:Gd (gN A) κ K A.length P)(j:A.length<=60)(l:a.length=A.length)(c:g<=K)(f:P g<P (g+1))(q:∀b,Q (.e b) H):aR prog (N+2) 25 [.f o,.c g] Q E H:=by
 refine ct (m:=[Y _,Y _,O]) V V<|cv (pq AV.d (cL J h.h V) (dp (ip (eI (ze h e j c V V)<|qW h J J c) ?_)<|U (U (bY _ _ _) (U (eT<|e.m _ c)<|U (sE (ft f) _) V):g+P g+(P _-P g)-1=g+(P _-1)) V)<|jM (d:=[])<|l▸e.r c (l9 (ft f) kZ)) ?_;·refine U (bY _ _ _)<|U (eT<|e.m _ c) ?_;exact bX (ft f)<|cW _ _
 ·exact g8 λk=>ZX (Ou J) λn i=>ZH J λb=>i b<|cD (.h _)<|q b
end
structure SU(A κ:Nat->Int)(K n m z:Nat)(P:Nat->Nat)(g:Nat):Prop where
 b:Gd A κ K n P
 d:g<=K
 i:∀j,g<j->j<=m->P (j+1)=P j
 f:z+P g<=P (g+1)
noncomputable def lW(A:Nat->Int)(z:Nat)(P:Nat->Nat)(t g:Nat):Prop:=t<=g/\(z+P g=P (g+1)->(∀j,t<=j->j<=g->P j=P g)/\∀j,t<=j->j<g->A (j+P g)=A (j+(z+P g)))
structure Wn(A κ:Nat->Int)(K n m z t k c:Nat)(P:Nat->Nat)(g:Nat):Prop where
 r:Gd A κ K n P
 q:t<=g/\g<=k/\k<=K
 s:∀j,g<j->j<=m->P (j+1)=P j
 a:∀j,t<=j->j<=g->P j=c
 b:∀j,g<j->j<=k+1->P j=z+c
 p:∀j,t<=j->j<k->A (j+c)=A (j+(z+c))
section
variable {A κ:Nat->Int}{K n m z g t k c:Nat}{P:Nat->Nat}
def JG(b:∀j,g+1<j->j<=m->P (j+1)=P j):∀j,g<j->j<=m->fp P (g+1) (P<|g+2) (j+1)=fp P (g+1) (P<|g+2) j:=λj h a=>by
 refine U (dt λq=>dk _<|fL q▸h) ?_;by_cases e:j=g+1;·exact U e<|U gb V
 ·exact U (dt e)<|b j (nF h<|gr e) a
def JH(e:∀j,g<j->j<=m->P (j+1)=P j):∀j,g+1<j->j<=m->fp P (g+1) v (j+1)=fp P (g+1) v j:=λj h a=>by refine U (dt<|ma<|lj h)<|U (dt<|ma h) ?_;exact e j (j7 h) a
def SU.l(h:SU A κ K n m z P<|g+1)(e:A (g+P (g+1))=A (g+P (g+2))):SU A κ K n m z (fp P (g+1)<|P<|g+2) g where
 b:=h.b.f h.d (aE (h.b.m g<|cI h.d)<|h.b.m _ h.d) (bN _)<|e.symm.trans<|h.b.k g h.d
 d:=cI h.d
 i:=JG h.i
 f:=by refine U gb<|U (dt (kX g).symm) ?_;exact aE (ff (h.b.m g<|cI h.d) _) h.f
def SU.o(h:SU A κ K n m z P g)(a:g<K)(e:A (g+P g)=A (g+P (g+1))):SU A κ K n m z (fp P (g+1)<|P g) (g+1)where
 b:=h.b.f a (bN _) (aE (h.b.m g h.d)<|h.b.m _ a)<|e.trans<|h.b.k g a
 d:=a
 i:=JH h.i
 f:=by refine U gb<|U (dt<|kX _) ?_;exact aE h.f<|h.b.m _ a
def lW.f:lW A z P g g:=⟨bN _,λ_=>⟨λj a h=>U (dB h a) V,λj a h=>(dj.mpr a h).elim⟩⟩
def lW.i(p:lW A z P t g)(h:SU A κ K n m z P g)(d:g<K)(e:A (g+P g)=A (g+P (g+1))):lW A z (fp P (g+1)<|P g) t<|g+1:=by
 refine⟨gY p.1,λq=>?_⟩;rw[gb,dt<|kX _]at q;have b:=dB h.f<|q▸h.b.m _ d;refine U gb ?_;refine⟨λj c a=>?_,λj c a=>?_⟩;·exact bq (mf.mp<|nC a) (λl=>U (dt<|f5 l)<|(p.2 b).1 j c<|f6 l) λl=>U l<|U gb V
 ·refine bq (mf.mp a) (λl=>?_) λl=>?_;·exact(p.2 b).2 j c l
  ·refine U l<|U b ?_;exact e
def Wn.v(h:SU A κ K n m z P g)(p:lW A z P t g)(e:z+P g=P (g+1)):Wn A κ K n m z t g (P g) P g:=
 ⟨h.b,bW p.1 (bN _) h.d,h.i,(p.2 e).1,λj a b=>U (dB b a)<|U e V,(p.2 e).2⟩
def Wn.u(h:Wn A κ K n m z t k c P<|g+1)(l:t<=g):Wn A κ K n m z t k c (fp P (g+1)<|P<|g+2) g:=by
 have d:=aE h.q.2.1 h.q.2.2;have o:=h.b _ (ec _)<|c7 h.q.2.1;refine⟨h.r.f d (aE (h.r.m g<|cI d)<|h.r.m _ d) (bN _) ?_,bW l (cI h.q.2.1) h.q.2.2,JG h.s,λj i f=>?_,λj i f=>?_,h.p⟩;·refine aP (h.r.k g d)<|U (h.a _ h.q.1<|bN _)<|U o ?_;exact(h.p g l h.q.2.1).symm
 ·exact U (dt<|f5<|nC f)<|h.a j i<|gY f
 ·by_cases e:j=g+1;·refine U e<|U gb ?_;exact o
  ·exact U (dt e)<|h.b j (nF i<|gr e) f
def Wn.w(h:Wn A κ K n m z t k c P g)(l:g<k):Wn A κ K n m z t k c (fp P (g+1)<|P g)<|g+1:=by
 have d:=bX l h.q.2.2;have i:=h.a g h.q.1<|bN _;refine⟨h.r.f d (bN _) (aE (h.r.m g<|cI d)<|h.r.m _ d) ?_,bW (gY h.q.1) l h.q.2.2,JH h.s,λj e f=>?_,λj e f=>?_,h.p⟩;·refine aP (h.r.k g d)<|U i<|U (h.b _ (ec _)<|c7<|cI l) ?_;exact h.p g h.q.1 l
 ·refine bq (mf.mp<|nC f) (λl=>?_) λl=>?_;·exact U (dt<|f5 l)<|h.a j e<|f6 l
  ·refine U l<|U gb ?_;exact i
 ·exact U (dt<|ma e)<|h.b j (j7 e) f
end
def Q7{F}{d:Type}(L:d->ba)(H:d->Hp)(I:Nat->d->Prop)
  (t:∀n s,I n s->∀E Q,((∀T,(∀a l,a<n->I a l->T .a (L l) (H l))->aK F b (L s) T (H s))->Q (.e true) (H s))->Q (.e false) (H s)->den F E (L s) [] c Q (H s))
  n s (g:I n s) (q:∀n s,I n s->aK F r (L s) K (H s)):aK F (.i c b::r) (L s) K (H s):=by
 have k:∀N n s,n<N->I n s->qT (λm T=>xH F (λ_ _=>False) m c T) (λm T=>aK F b m T) (e9 (λm T=>aK F r m T) K) N (L s) (H s):=by
  intro N;induction N with
  |zero=>exact λ_ _ h=>(lh _ h).elim
  |succ N i=>
   intro n s hn f;exact t n s f _ _ (λh=>h _ λa l j e=>i a l (bX j<|f6 hn) e)<|q n s f
 exact⟨n+1,k _ n s (ec _) g⟩
noncomputable def Kp:Option Nat->AV
 |none=>.c<|-1
 |some t=>.c t
noncomputable def hW(R g L:Nat)(s:AV)(M:AV)(W:Option Nat)(cC:Option AV):ba:=[Y<|.f R,Y<|.c g,Y<|.f L,Y s,Y M,Y<|Kp W,cC]
noncomputable def Hp.gs(H:Hp)(s K:Nat)(P:Nat->Nat):Hp:=H.ag s<|.b<|(fO P K).map ni
structure G2(H:Hp)(R dx:Nat)(A:List Int)(a:List bH)(s:Nat)(P:Nat->Nat)(L S:Nat)(Z:List Int)(a2:List bH)(s2:Nat)(P2:Nat->Nat)(K:Nat):Prop where
 f:GH H R dx A a s P K
 i:GH H L S Z a2 s2 P2 K
 k:s≠s2
 l:a.length=A.length
 j:A.length<=60
section
variable {H:Hp}{R dx L S s s2 K g X z N M cC c:Nat}{A Z:List Int}{a a2:List bH}{P b P0 P2:Nat->Nat}{κ:Nat->Int}{E Q:VK}{F:cF}{T:FK}{W:Option Nat}{o:AV}{lo:Option AV}
theorem G2.d(h:G2 H R dx A a s P0 L S Z a2 s2 P2 K):G2 (H.gs s K P) R dx A a s P L S Z a2 s2 P2 K:=
 ⟨h.f.d,⟨(Hp.I _ _ λe=>by have:=h.i.h;rw[e,h.f.s]at this;cases this).trans h.i.h,(Hp.I _ _ h.k.symm).trans h.i.s⟩,h.k,h.l,h.j⟩
def xv:(H.gs s K P).gs s K b=H.gs s K b:=Hp.ak _ _ _ _
def zQ(h:G2 H R dx A a s P0 L S Z a2 s2 P2 K)(d:Gd (gN A) κ K A.length P)(b:g<K)(c:m[0]? =Y (Y<|.f R))(e:m[1]? =Y (Y<|.c (g+1:Nat)))(q:aK (aR prog<|N+1) r (m.set 1<|Y<|.c g) T<|H.gs s K<|fp P (g+1)<|P<|g+2):
  aK (aR prog<|N+1) (.d (.b 1) (.o 3 24 (.d 0) [.d 1,.j .b false (.d 1)<|.e<|.c 1])::r) m T (H.gs s K P):=
 fQ λE=>eZ (J c) (dY h.d.f.h) (bB (J e)<|Ed<|J e)<|So h.d.f d b<|U (show(H.gs s K P).ag s _=_ from xv)<|q
def Fz(h:G2 H R dx A a s P0 L S Z a2 s2 P2 K)(d:Gd (gN A) κ K A.length P)(b:g<K)(c:m[0]? =Y (Y<|.f R))(e:m[1]? =Y (Y<|.c g))(q:aK (aR prog<|N+1) r (m.set 1<|Y<|.c (g+1:Nat)) T<|H.gs s K<|fp P (g+1)<|P g):
  aK (aR prog<|N+1) (.d (.b 1) (.o 3 24 (.d 0) [.d 1,.j .a false (.d 1)<|.e<|.c 1])::r) m T (H.gs s K P):=
 fQ λE=>eZ (J c) (dY h.d.f.h) (bB (J e)<|eI (J e) aL)<|Sp h.d.f d b<|U (show(H.gs s K P).ag s _=_ from xv)<|q
def QV(h:G2 H R dx A a s P0 L S Z a2 s2 P2 K)t(c:t.2=n/\SU (gN A) κ K A.length X z t.1 t.2):
  gd (aR prog<|N+2) Hg HI (λt:(Nat->Nat)×Nat=>hW R t.2 L l o W lo) (λt=>H.gs s K t.1) (λn t=>t.2=n/\SU (gN A) κ K A.length X z t.1 t.2) (λt=>SU (gN A) κ K A.length X z t.1 t.2) n t:=by
 refine aH (OG (N:=N) h.d.f c.2.b h.j c.2.d) λb i f=>?_;refine(cq b (iK J (dY h.d.f.h) (cJ J) i) (λe T m=>?_) λ_=>c.2);obtain⟨P,g⟩:=t
 (refine aH (f e) λk d j=>?_;subst d)
 exact zQ h c.2.b c.2.d V V<|bO<|m k (_,k) (c.1▸ec k) ⟨V,c.2.l j⟩
def Ee(h:G2 H R dx A a s P L S Z a2 s2 P2 K)(e:m[2]? =Y (Y<|.f L))(d:m[1]? =Y (Y<|.c g))(c:g<=K):∃n,ae ⟨F,m,[],H⟩ (.h .f (.l (.g 3 2<|.d 2)<|.d 1)<|.e<|.c 0)<|.e<|decide (0<n):=
 ⟨_,hV (qW h.i (J e) (J d) c) aL⟩
noncomputable def sd(M g:Nat)(W:Option Nat):Prop:=∀t,W=Y t->M<=t/\t<=g
def QU(h:G2 H R dx A a s P0 L S Z a2 s2 P2 K)t(d:t.2.1+n=K/\SU (gN A) κ K A.length X z t.1 t.2.1/\lW (gN A) z t.1 M t.2.1/\sd M t.2.1 t.2.2):
  gd (aR prog<|N+2) Hf HH (λt:(Nat->Nat)×Nat×Option Nat=>hW R t.2.1 L j (.c M) t.2.2 lo) (λt=>H.gs s K t.1) (λn t=>t.2.1+n=K/\SU (gN A) κ K A.length X z t.1 t.2.1/\lW (gN A) z t.1 M t.2.1/\sd M t.2.1 t.2.2)
   (λt=>SU (gN A) κ K A.length X z t.1 t.2.1/\lW (gN A) z t.1 M t.2.1/\sd M t.2.1 t.2.2) n t:=by
 refine aH (Zu (N:=N) h.d.f d.2.1.b h.j d.2.1.d) λb r c=>?_;refine(cq b (iK J (dY h.d.f.h) (cJ J) r) (λe T o=>?_) λ_=>d.2);obtain⟨P,g,W⟩:=t;have f:=d.2.1.o (c e).1 (c e).2;have p:=d.2.2.1.i d.2.1 (c e).1 (c e).2;refine aF (vm (c e).1) λk i=>?_;have v:g+1+k=K:=U i<|U (cG _ _ _) V;have l:k<n:=by have:g+n=g+(k+1):=d.1.trans<|i.trans V;exact U (ll this)<|ec k
 refine Fz h d.2.1.b (c e).1 V V ?_;refine aF (Ee (F:=aR prog<|N+2) (m:=hW R (g+1) L j (.c M) W lo) (h.d (P:=fp P (g+1)<|P g)) V V f.d) λw u=>?_;exact cg u (λ_=>cv J<|bT<|bO<|o k (_,g+1,Y _) l (e8 v f p λt q=>by(have q:=bz q;subst q);exact⟨p.1,bN _⟩))
  λ_=>bT<|bO<|o k (_,g+1,W) l<|e8 v f p λt q=>⟨(d.2.2.2 t q).1,gY (d.2.2.2 t q).2⟩
noncomputable def OI(A:List Int)(κ:Nat->Int)(K X:Nat)(n:Nat)(t:(Nat->Nat)×Nat×Nat×Nat×Option Nat):Prop:=
 SU (gN A) κ K A.length X t.2.2.1 t.1 t.2.1/\t.1 t.2.1<t.1 (t.2.1+1)/\t.2.2.1+n=A.length+1/\(0<t.2.2.1->lW (gN A) t.2.2.1 t.1 t.2.2.2.1 t.2.1/\sd t.2.2.2.1 t.2.1 t.2.2.2.2)
def QW(h:G2 H R dx A a s P0 L S Z a2 s2 P2 K)t(j:OI A κ K X n t):
  gd (aR prog<|N+2) Hh HJ (λt=>hW R t.2.1 L (.c t.2.2.1) (.c t.2.2.2.1) t.2.2.2.2 lo) (λt=>H.gs s K t.1) (OI A κ K X)
   (λt=>∃c,0<t.2.2.1/\Wn (gN A) κ K A.length X t.2.2.1 t.2.2.2.1 t.2.1 c t.1 t.2.1/\sd t.2.2.2.1 t.2.1 t.2.2.2.2) n t:=by
 obtain⟨P,g,z,M,W⟩:=t;have f:=j.1;have l:=qW (gm:=⟨aR prog<|N+2,hW R g L (.c z) (.c M) W lo,[],H.gs s K P⟩) (h.d).f (J (i:=0) V) (J (i:=1) V) f.d;refine(cq _ (zh J l) (λe T G=>?_) λe=>?_)
 ·have D:z+1<=P (g+1)-P g:=by
   have e:z≠P _-P g:=λq=>by rw[show(P (g+1)-P g)=z by exact U q V]at e;simp at e
   exact nF (L0 f.f) e
  have C:P (g+1)-P g<=A.length:=aE (eE _ _)<|aE (f.b.o (c7 f.d)<|bN _)<|f.b.t▸bj _ _;have x:SU _ κ K A.length X (P (g+1)-P g) P g:=⟨f.b,f.d,f.i,by exact U (cb<|cI j.2.1)<|bN _⟩;refine cv l<|fP (λt=>hW R t.2 L (.c _) (.c M) W lo) (λt=>H.gs s K t.1) _ _ (λn t=>QV h t) g (P,g) ⟨V,x⟩ λt v=>cv J ?_;refine aF (Ee (F:=aR prog<|N+2) (m:=hW R t.2 L (.c (P (g+1)-P g:Nat)) (.c t.2) W lo) (h.d (P:=t.1)) V V v.d) λw B=>?_;obtain⟨d,r,o⟩:∃d,ae ⟨aR prog _,hW R t.2 L _ _ W lo,[],H.gs s K t.1⟩ (.D _ (.d 1) _) (Kp d)/\sd t.2 t.2 d:=by
   by_cases k:0<w;·exact(aO (Y t.2) (gM B (λ_=>J V) λq=>absurd k<|of_decide_eq_false q) λt q=>by(have q:=bz q;subst q);exact⟨bN _,bN _⟩)
   ·exact(aO O (gM B (λq=>absurd (of_decide_eq_true q) k) λ_=>gi aL) λt q=>aS q)
  refine cv r<|fP (λu=>hW R u.2.1 L (.c _) (.c t.2) u.2.2 lo) (λu=>H.gs s K u.1) _ _ (λn u=>QU h u) (K-t.2) (t.1,t.2,d) (e8 (eT v.d) v .f o) λu p=>bO ?_;exact G (A.length+1-(P (g+1)-P g)) (u.1,u.2.1,P (g+1)-P g,t.2,u.2.2) (by have:z+n=A.length+1:=j.2.2.1;exact b8 λI=>aJ [_,_,_,_,_] [] [.l 1 (.c<|.a bo<|.n 1) aG,.e (-1) (.c<|.a bo bK)<|.c<|.a bA<|.n 1,.l 1 (.c<|.a bK aX)<|.c<|.a cX aX,.e 1 (.c<|.a cX aZ)<|.c<|.a bA<|.n 1] V (nl D) (nE this) I (nE<|cb<|b8 (a:=P (g+1)-P g) (b:=A.length+1) λE=>aJ [_,_] [] [.l 1 af aG,.l 1 (.c<|.a (.a aZ<|.n 1) aX) af] V (nl C) E):A.length+1-(P (g+1)-P g)<n)<|e8 p.1 (bX (yx<|cH (cB z) D) p.1.f) (eT<|gY C) λ_=>p.2
 ·have e:z=P (g+1)-P g:=by
   have:(z:Int)=(P (g+1)-P g:Nat):=by simpa using e
   exact i4.mp this
  have y:0<z:=e▸yu j.2.1;exact cq (P g) y (.v f (j.2.2.2 y).1 (U e (U (cb<|cI j.2.1) V):z+P g=P (g+1))) (j.2.2.2 y).2
end
section
variable {F:cF}{m d:ba}{K:FK}{H:Hp}{r:List S}{x y:X}{p:Bool}{E Q:VK}
def ZW(e:ae ⟨F,m,d,H⟩ x<|.e p)(k:p=true->∀c,(∀b,c (.e b) H)->den F E m d y c H)(a:∀b,(b=true->p=true)->Q (.e b) H):den F E m d (.t [x,.G y]) Q H:=e E _ (by
 induction p using Bool.casesOn;·exact a false λh=>aV h
 ·refine k V _ λb=>?_;induction b using Bool.casesOn;·exact a true λ_=>V
  ·exact a false λh=>aV h)
def Rl(h:∀E Q,(∀b,Q (.e b) H)->den F E m [] x Q H)(q:aK F a m (e9 (λe Z=>aK F r e Z) K) H)(d:aK F b m (e9 (λe Z=>aK F r e Z) K) H):aK F (.g (.G x) a b::r) m K H:=h _ _ λc=>by
 induction c using Bool.casesOn;·exact q
 ·exact d
end
section
variable {H:Hp}{T dx R X s s2 K g W z N p l c:Nat}{A A2:List Int}{a a2:List bH}{P S v P2:Nat->Nat}{κ:Nat->Int}{E Q:VK}{F:cF}{Z:FK}{be:Option Nat}{sz tp:AV}{lo:Option AV}
def QT(h:G2 H T dx A a s v R X A2 a2 s2 P2 K)(i:p<=b)t(d:t.2=b+n/\Wn (gN A) κ K A.length W z p l c t.1 t.2):
  gd (aR prog<|N+2) He HF (λt:(Nat->Nat)×Nat=>hW T t.2 R sz tp (Y b) lo) (λt=>H.gs s K t.1) (λn t=>t.2=b+n/\Wn (gN A) κ K A.length W z p l c t.1 t.2) (λt=>Wn (gN A) κ K A.length W z p l c t.1 t.2) n t:=by
 refine(cq _ (hV J J) (λe Z j=>?_) λ_=>d.2);obtain⟨P,g⟩:=t;induction n using Nat.casesAuxOn with
 |zero=>exact(dk _<|bX (of_decide_eq_true e)<|bb d.1).elim
 |succ n=>
  have f:g=b+n+1:=d.1;have w:=d.2;rw[f]at w |-;exact zQ h w.r (aE w.q.2.1 w.q.2.2) V V<|bO<|j n (_,b+n) (ec n) ⟨V,w.u<|aE i<|bj _ _⟩
def QS(h:G2 H T dx A a s v R X A2 a2 s2 P2 K)(t:(Nat->Nat)×Nat)(b:t.2+n=l/\Wn (gN A) κ K A.length W z p l c t.1 t.2):
  gd (aR prog<|N+2) Hc HE (λt=>hW T t.2 R sz tp be<|Y<|.c l) (λt=>H.gs s K t.1) (λn t=>t.2+n=l/\Wn (gN A) κ K A.length W z p l c t.1 t.2) (λt=>Wn (gN A) κ K A.length W z p l c t.1 t.2) n t:=by
 refine(cq _ (e6 J J) (λe Z d=>?_) λ_=>b.2);obtain⟨P,g⟩:=t;induction n using Nat.casesAuxOn with
 |zero=>exact(dk _<|bX (of_decide_eq_true e)<|bb b.1.symm).elim
 |succ n=>exact Fz h b.2.r (bX (of_decide_eq_true e) b.2.q.2.2) V V<|bO<|d n (_,g+1) (ec n) ⟨(cG g 1 n).trans b.1,b.2.w<|of_decide_eq_true e⟩
def QR(h:G2 H T dx A a s P R X A2 a2 s2 P2 K)(L:Gd (gN A) κ K A.length P)(D:W<=K)(x:P W<P (W+1))(q:∀S r,Gd (gN A) κ K A.length S->r<=K->(∀j,r<j->j<=W->S (j+1)=S j)->Q (.c r) (H.gs s K S)):
  aR prog (N+3) 27 [.f T,.c W,.f R] Q E H:=by
 refine ct (m:=[Y _,Y _,Y _,O,O,O,O]) V V<|wB (cO<|bt aL<|bB J<|gi aL) ?_;refine aP (Hp.ao _ h.f.s) ?_;refine fP (λt=>hW T t.2.1 R _ _ t.2.2.2.2 O) (λt=>H.gs s K t.1) (OI A κ K W) _ (λn t=>QW h t) _ (P,W,0,W,O)
  (e8 ⟨L,D,λj C B=>(dj.mpr B C).elim,by refine U (cy _)<|cI x⟩ x (cy _) λh=>(dk _ h).elim) λt d=>?_
 obtain⟨v,g,z,p,be⟩:=t;refine cw d λc F u k=>?_;have f:∀{S e}{m},Wn _ κ K A.length W z p g c S e->e7 Q E _ m _:=λw=>cD (.h _)<|q _ _ w.r (aE w.q.2.1 w.q.2.2) w.s;induction be using Option.casesOn with
 |some b=>
  refine aF (ik (k b V).2) λn l=>?_;exact cg (dp (q9 J aL)<|congrArg AV.e<|decide_eq_true<|f9 b) (λ_=>fP (λt=>hW T t.2 R _ _ _ O) (λt=>H.gs s K t.1) _ _ (λn t=>QT h (k b V).1 t) n (v,g) ⟨l,u⟩ λt d=>cQ J<|gP<|f d) λh=>aV h
 |none=>
  have i:∀{S e}{sz tp}{lo},Wn _ κ K A.length W z p g c S e->∀E o,(∀b,o (.e b)<|H.gs s K S)->den (aR prog<|N+2) E (hW T e R sz tp O lo) [] (.o 3 25 (.d 0) [.d 1]) o _:=λ{S e}{sz tp}{lo}w E o y=>
   eZ J (dY (h.d).f.h) (cJ J) (aaV (h.d).f w.r h.j h.l (aE w.q.2.1 w.q.2.2) (by refine U (w.a _ w.q.1 (bN _)) (U (w.b _ (ec _) (c7 w.q.2.1)) ?_);exact yx F) y)
  refine aF (ik u.q.1) λn l=>?_;refine cg (dp (q9 J aL) V) (λh=>aV h) λ_=>bT<|cv J<|Q7 (λt=>hW T t.2 R _ _ O<|Y<|.c g) (λt=>H.gs s K t.1) (λn t=>t.2=p+n/\Wn _ κ K A.length W z p g c t.1 t.2) (λn t d E o a0 G=>?_) n (v,g) ⟨l,u⟩ λn t d=>?_
  ·refine ZW (hV J J) (λ_=>i d.2 _) λb I=>?_;induction b using Bool.casesOn with
   |false=>exact G
   |true=>
    refine a0 λZ M=>?_;obtain⟨S,e⟩:=t;induction n using Nat.casesAuxOn with
    |zero=>exact(dk _<|bX (of_decide_eq_true<|I V)<|bb d.1).elim
    |succ n=>
     have w:=d.2;rw[d.1]at w |-;exact zQ h w.r (aE w.q.2.1 w.q.2.2) V V<|bO<|M n (_,p+n) (ec n) ⟨V,w.u<|bj _ _⟩
  ·refine Rl (i d.2) ?_ (bT<|cQ J<|f d.2);refine aF (ik d.2.q.2.1) λn l=>?_;exact fP (λt:(Nat->Nat)×Nat=>hW T t.2 R _ _ O<|Y<|.c g) (λt=>H.gs s K t.1) _ _ (λn t=>QS h t) n t ⟨l.symm,d.2⟩ λt d=>bT<|cQ J<|f d
noncomputable def CD(A:List Int)(κ:Nat->Int)(K:Nat)(n:Nat)(t:(Nat->Nat)×Nat):Prop:=Gd (gN A) κ K A.length t.1/\∃r q,t.2+r+q=K+1/\n=q*(K+2)+r/\∀j,t.2<=j->j<t.2+r->t.1 (j+1)=t.1 j
def Aw(h:q'<q)(a:r<K+2):q'*(K+2)+r<q*(K+2)+r':=by refine bX (dR a _)<|aE ?_<|bj _ _;exact aP (Nat.succ_mul _ _)<|LY _ h
noncomputable def Fo(T R g:Nat):ba:=[Y<|.f T,Y<|.f R,Y<|.c g]
def QX(h:G2 H T dx A a s v R X A2 a2 s2 P2 K)t(D:CD A κ K n t):
  gd (aR prog<|N+3) Hi HK (λt=>Fo T R t.2) (λt=>H.gs s K t.1) (CD A κ K) (λt=>Gd (gN A) κ K A.length t.1) n t:=by
 obtain⟨P,g⟩:=t;refine xC D λy r q c x B=>?_;have o:=h.d (P:=P);refine(cq _ (e6 J<|dp (lx (cL J o.f.h V)<|dT o.f.s)<|U (bx _)<|U gO V) (λe Z z=>?_) λ_=>y);have k:=f6<|of_decide_eq_true e;have c:g+r+q=K+1:=c;refine cg (hV (qW o.f J J k) aL) (λe=>?_) λe=>?_
 ·have C:=vj (of_decide_eq_true e);rw[(yA λp=>ma C<|B g (bN _)<|i0 p),mh]at c;refine fQ λE=>eZ J (dY o.f.h) (bB J J)<|QR o y k C λS m u G F=>?_;refine U xv ?_;refine bT<|iN V aL<|bO ?_;refine bq (jv m g) (λl=>?_) λl=>?_
  ·refine aF (ik l) λw f=>?_;induction q using Nat.casesAuxOn with
   |zero=>rw[mh]at c;exact(Dg K<|aE (bb c.symm) k).elim
   |succ q=>
    exact z _ (S,m+1) (x▸Aw (ec q) (cH (f▸cW _ _)<|cH k<|lj<|ec K))<|ry u w q (by refine aP c<|U f ?_;exact dB (aW [_,_,_] (.a (.a (.a (.v 0)<|.n 1)<|.v 1)<|.v 2) (.a (.a (.v 0)<|.v 1)<|.a (.v 2)<|.n 1) [] V)<|aW [_,_,_] (.a (.a (.v 0)<|.v 1)<|.a (.v 2)<|.n 1) (.a (.a (.a (.v 0)<|.n 1)<|.v 1)<|.v 2) [] V) V λj i d=>F j i<|by refine U f<|f6<|by rw[cG]at d;exact d
  ·refine aF (ik G) λw f=>z _ (S,m+1) (x▸Aw (aW [_,_,_,_,_] (.a (.v 0)<|.n 1) (.v 1) [(.v 2,.v 4),(.a (.v 3)<|.n 1,.a (.v 2)<|.v 1),(.a (.v 4)<|.v 0,.v 3)] V l (bb<|cc c)<|bb<|cc f) (fU _))<|ry u 0 w (by exact dB (aW [_,_,_] (.a (.a (.a (.v 0)<|.n 1)<|.n 0)<|.v 1) (.a (.v 2)<|.n 1) [(.a (.v 0)<|.v 1,.v 2)] V<|bb<|cc f)<|aW [_,_,_] (.a (.v 2)<|.n 1) (.a (.a (.a (.v 0)<|.n 1)<|.n 0)<|.v 1) [(.v 2,.a (.v 0)<|.v 1)] V<|bb f) V λj i d=>(dj.mpr i d).elim
 ·have e:=of_decide_eq_false e;refine bT<|iN V aL<|bO ?_;induction r using Nat.casesAuxOn with
  |succ r=>exact z (q*(K+2)+r) (P,g+1) (x▸ec _)<|ry y r q (by refine aP c<|U (cG g 1 r) ?_;rfl) V λj i d=>B j (sD i)<|by rw[cG]at d;exact d
  |zero=>induction q using Nat.casesAuxOn with
   |zero=>exact(Dg K<|aE (bb c.symm) k).elim
   |succ q=>exact z (q*(K+2)+0) (P,g+1) (x▸Aw (ec q) (fU _))<|ry y 0 q (by exact aP c<|cG g 1 q) V λj i d=>(dj.mpr i d).elim
def Fe(h:G2 H T dx A a s P R X A2 a2 s2 P2 K)(d:Gd (gN A) κ K A.length P)(q:∀S,Gd (gN A) κ K A.length S->Q .k (H.gs s K S)):aR prog (N+4) 28 [.f T,.f R] Q E H:=by refine ct (m:=[Y _,Y _,O]) V V<|cv aL ?_;refine aP (Hp.ao _ h.f.s) ?_;exact fP (λt=>Fo T R t.2) (λt=>H.gs s K t.1) (CD A κ K) _ (λn t=>QX h t) _ (P,0) (ry d 0 _ (cy _) V λj b e=>(dj.mpr b e).elim) λt c=>bO<|iP (.h _)<|q _ c
end
section
variable {g:Gm}{x y:X}{v:AV}{l1 l:List AV}{n:Nat}
def mJ(h:ae g x<|.g l1)(k:ae g y<|.g l)(z:(l1++l).length<=sz):ae g (.j .a false x y)<|.g<|l1++l:=λE Q q=>h E _<|k E _<|xV V V ⟨z,q⟩
def zf(h:ae g x v)(k:ae g y<|.c n)(z:n<=sz):ae g (.H false x y)<|.g<|dC n v:=λE Q q=>h E _<|k E _<|bW (f9 n) (U iH<|z) q
def I1{F}(h:i<F.length):gB (F++R) i=gB F i:=by unfold gB;exact U j9<|U j9<|U (jx h) V
def Bm{F R}:gB (F++R) (F.length+i)=gB R i:=by unfold gB;exact U j9<|U j9<|U (nL<|bj _ _)<|U (vo _ _) V
def Ij:kl A (k+1) P=kl A k P++[A<|k+P (k+1)]:=by unfold kl;refine U Dp<|U cz ?_;rfl
def Il(h:∀j,j<k->P' (j+1)=P (j+1)):kl A k P'=kl A k P:=sN λj a=>U (h j<|mj.mp a) V
def Ii{F}:ks A (gB<|F++dC s true) 0 (F++dC s true).length=ks A (gB F) 0 F.length:=by refine U bZ<|U iH<|U kv<|U (cy _)<|U (xe (x:=F.length) λi h=>by refine U Bm ?_;unfold gB;refine U j9<|U vG<|U (if_pos h) ?_;rfl)<|U (gJ _) ?_;exact mS λi h=>by exact U (cy _)<|I1 h
def VR{F}:ks A (gB<|F++[false]) 0 (F++[false]).length=ks A (gB F) 0 F.length++[A F.length]:=by refine U bZ ?_;refine U AU<|U (Bm (i:=0)) ?_;exact congrArg (·++[A F.length])<|mS λi h=>by exact U (cy _)<|I1 h
end
section
variable {H:Hp}{z R s K n N:Nat}{A:List Int}{a:List bH}{P:Nat->Nat}{κ:Nat->Int}{E Q:VK}
noncomputable def w8(z:Nat)(F:List Bool)(o a:Option AV):ba:=[Y<|.f z,Y<|.g<|F.map .e,o,a]
def GR(h:GH H z R A a s P K)(l:Gd (gN A) κ K A.length P)(L:A.length<=60)(q:∀G,G.length=A.length->ks (gN A) (gB G) 0 A.length=kl (gN A) K P->Q (.g<|G.map .e) H):aR prog (N+1) 26 [.f z] Q E H:=by
 have C:60<=sz:=by decide
 have x:∀{k},k<=K->k+P _<=60:=λ{k}b=>aE (by refine aP l.t<|U (fh _ _) ?_;exact ed (l.o (c7 b)<|bN _) b) L;refine ct (m:=[Y _,O,O,O]) V V (cv qX (wG ni (cL J h.h V) (dT h.s) (λt=>w8 z t.1 t.2.1 t.2.2) (λ_ _=>H)
  (λp _ t=>t.1.length=min p.length K+P p.length/\ks (gN A) (gB t.1) 0 t.1.length=kl (gN A) (min p.length K) P) ([],O,O) V V ⟨by exact U l.z (U (Dc _) V),by refine U (Dc _) ?_;rfl⟩ (λ_ _ _ _=>V) (λp c r t e d M w _ _=>?_) λt d=>?_))
 ·obtain⟨F,o⟩:=t;have b:p.length<=K:=by
   have:=congrArg qM e;rw[gO,bZ]at this;exact f6<|bX (i0<|fU _)<|bb this.symm
  have S:c=P (p.length+1)-P p.length:=by have:=iL (P:=P) b;rw[e,nL<|bN _,nB]at this;exact bz this
  have d:=fB b▸d;have l1:(F++dC c true).length=p.length+P _:=U bZ<|U iH<|U d.1<|U S<|U (bY _ _ _)<|U (eT<|l.m _ b) V;have B:(p++[c]).length=p.length+1:=by refine U bZ ?_;rfl
  have I:ae ⟨aR prog N,w8 z F (Y<|.c p.length)<|Y<|ni c,[],H⟩ (.h .d (.j .a false (.d 2)<|.e<|.c 1)<|.r .b [.g 3 2<|.d 0])<|.e<|decide (p.length+1<K+1):=e6 (eI J aL)<|dp (lx (cL J h.h V)<|dT h.s)<|U (bx _)<|U gO V;have D:ae ⟨aR prog N,w8 z F (Y<|.c p.length)<|Y<|ni c,[],H⟩ (.j .a false (.d 1)<|.H false (.e<|.e true)<|.d 3)<|.g<|(F++dC c true).map .e:=by
   have:=mJ (g:=⟨aR prog N,w8 z F (Y<|.c p.length)<|Y<|ni c,[],H⟩) (J (i:=1) V) (zf (aL (v:=.e true)) (J (i:=3) V)<|aE (aE (aE (cW c F.length)<|by rw[bZ,iH]at l1;exact bb l1)<|x b) C)<|by refine U bZ<|U (bx _)<|U iH<|aP (iH (n:=c) (a:=true))<|aP bZ<|U l1 ?_;exact aE (x b) C
   refine U cz<|U Mg ?_;exact this
  by_cases u:p.length<K
  ·have f:=zq I;have f:=decide_eq_true (ij u)▸f;refine cv (v:=.g<|(F++dC c true++[false]).map .e) (by
    refine U cz ?_;refine mJ D (zf (n:=1) aL f<|by decide) ?_;refine U bZ (U (bx _) (U l1 ?_));exact aE (c7 (x b)) (by decide)) (bO (w (F++dC c true++[false],_,_) ⟨?_,?_⟩))
   ·refine U B (U (fB u) ?_);refine U bZ<|U l1 ?_;exact cG _ _ 1
   ·exact U B<|U (fB u)<|U Ij<|U VR<|U Ii<|U d.2<|U l1 V
  ·have y:=dB b (dj.mp u);have f:=zq I;rw[decide_eq_false λk=>u<|oR k]at f;refine cv (v:=.g<|(F++dC c true).map .e) (by
    have:=mJ D (zf (n:=0) (aL (v:=.e false)) f<|cB _)<|by refine U bZ<|U (bx _)<|U l1 ?_;exact aE (x b) C
    rw[List.replicate_zero,gJ]at this;exact this) (bO (w (F++dC c true,_,_) ⟨?_,?_⟩))
   ·refine U B<|U (ju<|y▸mg K)<|aP y ?_;exact l1
   ·exact U B<|U (ju<|y▸mg K)<|U Ii<|U d.2<|U y V
 ·rw[gO,ju<|mg K,fh,l.t]at d;have j:=d.2;rw[d.1]at j;exact cQ J<|cD (.h _)<|q t.1 d.1 j
end
abbrev oA(A:Nat->Int)(K n:Nat)(P:Nat->Nat):Prop:=Gd A (λk=>A<|k+P (k+1)) K n P
section
variable {A:Nat->Int}{j n:Nat}{P:Nat->Nat}
def Pg:(fO P j).set j (P (j+1)-P j+1)=fO (fp P (j+1)<|P (j+1)+1) j\/P (j+1)<P j:=by
 refine bq (hO (P<|j+1)<|P j) (λl=>?_) λl=>?_;·exact .inr l
 refine .inl<|sR λi=>?_;refine bq (hO j i) (λh=>?_) λh=>?_;·exact U (mr<|by refine U mn<|U gO ?_;exact h)<|U (mr<|U gO<|h) V
 ·refine U (iL h) (U qN<|U gO ?_);by_cases e:j=i;·exact U (if_pos e)<|U (if_pos<|ec j)<|aP e<|U gb<|U (dt (kX j).symm)<|U (Nat.sub_add_comm l) V
  ·exact U (if_neg e)<|U (iL h)<|U (dt λq=>e (fL q).symm)<|U (dt<|f5<|nC h) V
def Pj:fO P j++[0]=fO (fp P (j+2)<|P<|j+1) (j+1):=by
 unfold fO;refine U (Dp (n:=j+1))<|U cz ?_;refine congr (congrArg _<|sN λk h=>?_) ?_;·exact U (dt<|f5<|ij<|mj.mp h)<|U (dt<|f5<|lj<|mj.mp h) V
 ·refine(?_:[0]=[fp P _ _ _-fp P _ _ _]);exact U gb<|U (dt (kX _).symm)<|U (nB _) V
def Gd.w(h:Gd A κ j n P):oA A j (n+1) (fp P (j+1)<|P (j+1)+1)where
 z:=(dt (qF j).symm).trans h.z
 m k hk:=by
  refine U (dt<|f5<|nC hk) ?_;refine bq (ve hk) (λl=>?_) λl=>?_;·exact U (dt<|f5<|ij l)<|h.m k hk
  ·refine U l<|U gb ?_;exact gY<|h.m j<|bN _
 t:=U gb<|U (cG _ _ _)<|U h.t V
 k _ _:=V
def Gd.x(h:Gd A κ j n P):oA A (j+1) (n+1) (fp P (j+2)<|P<|j+1)where
 z:=(dt (qF _).symm).trans h.z
 m k hk:=by
  refine U (dt<|f5<|nC hk) ?_;refine bq (ve hk) (λl=>?_) λl=>?_;·exact U (dt<|f5<|ij l)<|h.m k<|f6 l
  ·refine U l<|U gb ?_;exact bN _
 t:=U gb<|aP (bY _ _ _)<|U h.t V
 k _ _:=V
end
section
variable {H i:Hp}{y z s g N:Nat}{A:List Int}{a:List bH}{G:List Bool}{E Q:VK}
noncomputable def Ba(y:Nat)(A:List Int)(g:Nat)(a:List bH)(o:Option AV):ba:=[Y<|.f y,Y<|.g<|A.map .c,Y<|.f g,Y<|.g<|a.map .d,o]
def Xn:gB (p++c::q) p.length=c:=Bm (i:=0)
def Xl{F}(w:i y=Y (.bF 3 z [.g<|A.map .c,.g<|a.map .d,.f s]))(n:y≠s)(e:G=p++c::q)(v:G.length<=60)(b:oA (gN A) j p.length P)(h:ks (gN A) (gB G) 0 p.length=kl (gN A) j P)
  (d:∀f m,oA (gN A) m (p++[c]).length f->ks (gN A) (gB G) 0 (p++[c]).length=kl (gN A) m f->K .a (Ba y A g a<|Y<|.e c) (i.gs s m f)):
  aK F HU (Ba y A g a<|Y<|.e c) K (i.gs s j P):=by
 have r:(i.gs s j P) y=Y _:=(Hp.I _ _ n).trans w;have o:gB G p.length=c:=by exact U e<|Xn
 have d:=(by refine U bZ ?_;rfl:(p++[c]).length=p.length+1)▸d;refine cg J (λl=>?_) λl=>?_
 ·have u:=(Pg).resolve_right (dj.mpr<|b.m j<|bN _);refine FD (cL J r V) (gi aL) (U gO<|F6 j) (Hp.t _ _ _) (iL<|bN j) aL<|bT<|bO ?_;refine U u<|U (show(i.gs s j P).ag s _=_ from xv) ?_;refine d _ j b.w ?_;refine U AU<|U o<|U l<|U h<|U (Il λk h=>dt<|f5<|ij h) ?_;exact gJ _
 ·have t:(fO P j).length<sz:=by refine U gO<|cH (c7<|aE (b.t▸cW _ _)<|cI<|bX (by refine U e<|U bZ ?_;exact i0<|fU _) v) (by decide)
  refine pG ni 0 (cL J r V) aL t<|bT<|bO ?_;refine U Pj ?_;refine d _ _ b.x ?_;refine U AU<|U o<|U l<|U h<|U Ij<|U (Il λk h=>dt<|f5<|ij<|lj h)<|U (dt (kX _).symm)<|U (fh j _)<|U b.t ?_;rfl
def ID(l:H y=O)(d:H g=Y (bl G))(k:G.length=A.length)(u:A.length<=60)
  (q:∀B s P K,H.aq B->H s=O->GH B y z A a s P K->oA (gN A) K A.length P->ks (gN A) (gB G) 0 A.length=kl (gN A) K P->Q .k B):
  aR prog (N+1) 1003 [.f y,.g<|A.map .c,.f g,.g<|a.map .d] Q E (H.ag y<|.bF 3 z []):=by
 refine ct (m:=[Y _,Y _,Y _,Y _,O]) V V<|dF J V V<|dF J V V<|Ft (cJ aL) (by decide) V (Hp.t _ _ _) V λs f=>?_;have n:y≠s:=λe=>by rw[<-e,Hp.t]at f;exact aS<|cc f
 have h:=(Hp.I _ _ n.symm).symm.trans f;refine U (Hp.av _ _ _ n)<|U (Hp.ak _ _ _ _)<|aP (Hp.av _ _ _ n) ?_;have i:∀o,((H.ag y o) g)=Y _:=λo=>(Hp.I _ _<|Hp.ne d l).trans d;refine mO AV.e J (dT<|(Hp.I _ _<|Hp.ne d h).trans<|i _) (λt=>Ba y A g a t.2.2) (λ_ t=>(H.ag y _).gs s t.2.1 t.1) (λp _ t=>oA _ t.2.1 p.length t.1/\ks _ _ 0 p.length=kl _ t.2.1 t.1) (λ_=>0,0,O) V V
  ⟨⟨V,λ_ _=>bN _,V,λ_ _=>V⟩,V⟩ (λp q t b=>(dT<|(Hp.I _ _<|Hp.ne d h).trans<|i _).trans (dT<|(Hp.I _ _<|Hp.ne d h).trans<|i _).symm) (λp c q t e b x j=>Xl (Hp.t _ _ _) n e (k▸u) b.1 b.2 λv C w r=>j (v,C,_) ⟨w,r⟩) λt b=>bO<|iP (.h _) ?_
 rw[k]at b;exact q _ s t.1 t.2.1 (Hp.aj (Hp.ah l _) h _) h ⟨(Hp.I _ _ n).trans<|Hp.t _ _ _,Hp.t _ _ _⟩ b.1 b.2
end
structure qk(A B:Nat->Int)(G C:Nat->Bool)(x y:Nat):Prop where
 a:∀i,x<=i->G i=false
 b:∀i,y<=i->C i=false
 k:ks A G 0 x=ks B C 0 y
section
variable {A B:Nat->Int}{G C G' C':Nat->Bool}{x y k n m:Nat}
def qk.e(h:qk A B G C x y)(d:eS A B x y k):qk A B G C (x+k)<|y+k:=
 ⟨λi c=>h.a i<|aE (bj _ _) c,λi c=>h.b i<|aE (bj _ _) c,by
  exact U kv (U kv (U (cy _) (U (cy _) (U h.k (U (xd d (λi _=>h.a _ (bj _ _)) λi _=>h.b _ (bj _ _)) V)))))⟩
def qk.f(h:qk A B G C x y)(g:∀i,G' i=(decide (x<=i/\i<x+n)||G i))(c:∀i,C' i=(decide (y<=i/\i<y+m)||C i)):qk A B G' C' (x+n)<|y+m:=by
 have l:∀{G G'}{a n},(∀i,a<=i->G i=false)->(∀i,G' i=(decide (a<=i/\i<a+n)||G i))->(∀i,a+n<=i->G' i=false)/\(∀A,ks A G' 0 _=ks A G 0 a):=λ{G G'}{a n}h g=>
  ⟨λi d=>by refine U (g _)<|U (decide_eq_false λk=>dj.mpr d k.2)<|U (h i<|aE (bj _ _) d) ?_;rfl,λA=>by refine U kv<|U (cy _)<|U (xe (x:=a) λi d=>by refine U (g _)<|U (decide_eq_true ⟨bj _ _,dR d _⟩) ?_;rfl)<|U (gJ _) ?_;exact mS λi d=>by refine U (cy _) (U (g _) (U (decide_eq_false λk=>dj.mpr k.1 d) ?_));rfl⟩
 exact⟨(l h.a g).1,(l h.b c).1,by refine U ((l h.a g).2 _)<|U ((l h.b c).2 _) ?_;exact h.k⟩
end
section
variable {F:cF}{m:ba}{K:FK}{H:Hp}{r:List S}{x:X}{i j a C:Nat}
def Fx(c:m[i]? =Y (Y<|.f a))(h:∀E Q,(∀v H' dx w,H' a=Y (.bF C dx w)->j<w.length->aK F r m K (H'.ag a<|.bF C dx<|w.set j v)->Q v H')->den F E m [] x Q H):aK F (.d (.c C j<|.d i) x::r) m K H:=
 h _ _ λv H' dx w d b q=>J (g:=⟨F,m,[],H'⟩) c (λ_ _=>True) _<|KH d b q
end
section
variable {a b:List bH}{H H' H4:Hp}{N me dx g c tQ tP BL BJ s1 s2 K:Nat}{E Q:VK}{ψ:bH->Int}{G C:List Bool}{P1 P2:Nat->Nat}{cs:List Pt}
noncomputable def E7(cs:List Pt)(a b:List bH)(me:Nat)(d c o:Option AV):ba:=[Y<|.g<|cs.map d',Y<|.g<|a.map .d,Y<|.g<|b.map .d,Y<|.f me,d,c,o]
def Ik:(kl A K P).length=K:=by exact U (bx _)<|U vC V
def PO(s:H.aq H4)(M:H me=O)(B:H s1=O)(L:H s2=O)(k:H4 me=fj (a.map ψ) (b.map ψ) dx (.f g) (.f c))(d:G2 H4 tQ BL (a.map ψ) a s1 P1 tP BJ (b.map ψ) b s2 P2 K)(t:b.length<=60)
  (T:oA (gN<|a.map ψ) K (a.map ψ).length P1) (I:oA (gN<|b.map ψ) K (b.map ψ).length P2) (G:a.length+b.length<=60) (C:∀x∈a,∀y∈b,ψ x=ψ y->x=y) (Z:kl (gN<|a.map ψ) K P1=kl (gN<|b.map ψ) K P2)
  (q:∀cs,CO (gf a b) a.length b.length cs->Q (.g<|cs.map d') H):
  aK (aR prog<|N+4) (KG.drop 4) (E7 cs a b me o4 (Y<|.f tQ)<|Y<|.f tP) (e7 Q E) H4:=by
 refine kg λr=>eZ J (dY d.f.h) (cJ J)<|Fe d T λl o=>?_;have f:=d.d (P:=l);refine kg λr=>eZ J (dY f.i.h) (cJ J)<|Fe ⟨f.i,f.f,f.k.symm,by exact U (bx _) V,by refine U (bx _)<|t⟩ I λm n=>?_;have p:G2 _ tP BJ _ b s2 m tQ BL _ a s1 l K:=G2.d ⟨f.i,f.f,f.k.symm,by exact U (bx _) V,by exact U (bx _)<|t⟩;have F:me≠s1:=λe=>by rw[e,d.f.s]at k;cases k
 have v:me≠s2:=λe=>by rw[e,d.i.s]at k;cases k
 have a0:tQ≠me:=λe=>by have:=d.f.h;rw[e,k]at this;cases this
 have z:tP≠me:=λe=>by have:=d.i.h;rw[e,k]at this;cases this
 refine Fx V λr W u=>eZ J (dY p.i.h) fN<|GR p.i o d.j λG' S D=>u _ _ dx _ ((Hp.I _ _ v).trans<|(Hp.I _ _ F).trans k) (by refine(?_:2<4);decide) ?_;refine Fx V λr W u=>eZ J (dY<|(Hp.I _ _ z).trans p.f.h) fN<|GR ⟨(Hp.I _ _ z).trans p.f.h,(Hp.I _ _ v.symm).trans p.f.s⟩ n (U (bx _)<|t:(b.map ψ).length<=60) λC' X R=>u _ _ dx _ (Hp.t _ _ _) (by refine(?_:3<4);decide) ?_;refine U (Hp.ak _ _ _ _) ?_;refine g8 λr=>eZ J (dY<|Hp.t _ _ _) fN<|Ki (Hp.t _ _ _) V V S X ?_ ?_ λcs h=>cD (Hp.aj (Hp.aj (Hp.aj s B _) L _) M _)<|q cs ?_;·refine U (bx _)<|U (bx _) ?_;exact cH G<|by decide
 ·refine U D<|U R<|U o.B<|U n.B ?_;exact Z
 ·rw[bx,bx]at h;exact h.f λi j A w e=>C _ (xa A) _ (xa w)<|(rL A).symm.trans<|e.trans<|rL w
def PN(F:a.length+b.length<=60)(hc:CO (gf a b) a.length b.length cs)(q:∀cs,CO (gf a b) a.length b.length cs->Q (.g<|cs.map d') H):aR prog (N+5) 29 [.g<|cs.map d',.g<|a.map .d,.g<|b.map .d] Q E H:=by
 have Z:=aE (bj _ _) F;have lb:=aE (cW _ _) F;refine ct (m:=[Y _,Y _,Y _,O,O,O,O]) V V<|pH (bB J J) λme dx W Q' hm B=>xj hm (cH F<|by decide) λI g c ψ s hg a3 w A=>B I ?_;refine ia hc λX a2 k cp o hr=>?_;have j:I.au g c (dC a.length false) (dC b.length false)=I:=by unfold Hp.au;exact U (Hp.ao _ A.t)<|U (Hp.ao _ A.D) V
 have dg:∀{x y k},x+k<=a.length->y+k<=b.length->(∀i,i<k->gf a b _ _)->eS (gN<|a.map ψ) (gN<|b.map ψ) x y k:=λh1 h2 h i w=>by refine U (rL<|bX (dR w _) h1)<|U (rL<|bX (dR w _) h2) ?_;exact congrArg ψ<|h i w
 refine mO d' J V (λt=>E7 cs a b me t.2 O O) (λ_ t=>I.au g c t.1.1 t.1.2) (λ_ q t=>(t.1.1.length=a.length/\t.1.2.length=b.length)/\∃x y,CP _ x y q X a2/\qk (gN<|a.map ψ) (gN<|b.map ψ) (gB t.1.1) (gB t.1.2) x y) ((dC a.length false,dC b.length false),O) V j.symm
  ⟨⟨iH,iH⟩,0,0,cp,λ_ _=>xx,λ_ _=>xx,V⟩ (λ_ _ _ _=>V) (λp z r t e P K' R=>?_) λt P=>?_
 ·refine rP P λd x y l a0=>dN l λT h2 K=>cw T λk j _ hk=>?_;have f:=A.q (d.1.trans iH.symm)<|d.2.trans iH.symm;have n:=aE K.D.1<|o.1▸bj _ _;have u:=aE K.D.2<|o.2▸bj _ _;have M:=a0.e<|dg (j.1▸aE (bj _ _) n) (j.2▸aE (bj _ _) u) hk;have M:=j.2.symm▸(j.1.symm▸M);refine kg λE=>eZ J (dY f.s) (cJ<|iK J V fN λE Q q=>Sv q)<|w9 f (d.1▸n) (d.2▸u)<|bO ?_;refine U (Hp.ay _ A.n) ?_;exact R ((mk t.1.1 z.1 z.2.1,mk t.1.2 z.2.2.1 z.2.2.2),_) ⟨⟨jd.trans d.1,jd.trans d.2⟩,_,_,K,M.f (w3<|d.1▸n)<|w3<|d.2▸u⟩
 ·obtain⟨⟨G,C⟩,o4⟩:=t;refine rP P λd x y l a0=>bp l λj e2=>?_;subst j;subst e2;have M:=(a0.e<|dg (bb o.1) (bb o.2) hr).k;rw[o.1,o.2]at M;have f:=A.q (G':=G) (C':=C) (d.1.trans iH.symm)<|d.2.trans iH.symm;have L:=wm (G':=G) (C':=C) s hg a3;refine pH (bt (cL J f.s V)<|bB (cL J f.s V) J) λtQ BL W Q' a4 B=>ID a4 f.t (U (bx _)<|d.1) (U (bx _)<|Z) λH3 s1 P1 K1 v n1 a1 d1 k1=>B _ ?_;refine pH (bt (cL J (v _ _ f.s) V)<|bB (cL J (v _ _ f.s) V) J) λtP BJ W Q' S B=>ID S (v _ _ f.D) (U (bx _)<|d.2) (U (bx _)<|lb) λH4 s2 P2 K2 D n2 g2 d2 k2=>B _ ?_;rw[bx]at k1 k2;have ek:=(k1.symm.trans M).trans k2;have eK:K1=K2:=by have:=congrArg qM ek;rw[Ik,Ik]at this;exact this
  subst eK;exact PO ((L.t v).t D) hm (Hp.al L n1) (Hp.al (L.t v) n2) (D _ _<|v _ _ f.s) ⟨⟨D _ _ a1.h,D _ _ a1.s⟩,g2,Hp.ne a1.s n2,by exact U (bx _) V,by exact U (bx _)<|Z⟩ lb d1 d2 F w ek q
end
end bc
end
section
set_option backward.match.sparseCases false
namespace bc
inductive Sg where|k|o|i
noncomputable def Sg.b:Sg->List UInt8
 |.k=>[32]
 |.o=>[45]
 |.i=>[43]
noncomputable def Sg.j:Sg->Bool
 |.k=>true
 |_=>false
noncomputable def Sg.n:Sg->Bool
 |.i=>false
 |_=>true
noncomputable def Sg.l:Sg->Bool
 |.o=>false
 |_=>true
abbrev fz:=Sg×bH
noncomputable def cV(r:fz):AV:=.l [.d r.1.b,.d r.2]
abbrev Hk:=Pt×List fz×bH
noncomputable def dz(h:Hk):AV:=.n 4 [.c h.1.1,.c h.1.2.1,.c h.1.2.2.1,.c h.1.2.2.2,.g<|h.2.1.map cV,.d h.2.2]
noncomputable def ck(r:List fz):List bH:=(r.filter λx=>x.1.n).map (·.2)
noncomputable def cU(r:List fz):List bH:=(r.filter λx=>x.1.l).map (·.2)
noncomputable def xF(l:bH):Bool:=decide (eV l (Y<|-1) O=[10])
noncomputable def kL(l:bH):Prop:=xF l=true
noncomputable def dH(r:List fz):Bool:=match r with
 |x::_=>x.1.j
 |[]=>false
noncomputable def c5(r:List fz):Bool:=dH r.reverse
noncomputable def fF(h:Hk):Bool:=(dH h.2.1||c5 h.2.1)&&decide (h.1.1=1)
noncomputable def fE(h:Hk):Bool:=(dH h.2.1||c5 h.2.1)&&!c5 h.2.1
noncomputable def gx(h:Hk):Int:=if 0<h.1.2.1 then h.1.1-1 else h.1.1
structure WH(h:Hk):Prop where
 n:∃x∈h.2.1,x.1.j=false
 m:h.1.2.1=(ck h.2.1).length
 f:(dH h.2.1||c5 h.2.1)=true->1<=h.1.1/\ck h.2.1≠[]
 z:h.1.1<=60
structure oB(L old new:List bH)(cC at_:Nat):Prop where
 a:cC<=at_/\at_+old.length<=L.length
 b:(L.take<|at_+old.length).drop at_=old
 c:∀l,new.getLast?=Y l->kL l\/at_+old.length=L.length
 d:new=[]\/at_=0\/∃l,L[at_-1]? =Y l/\kL l
structure iA(L old new:List bH)(f e:Bool)(cC:Nat)(ly:Int)(mo:Option Nat)(at_:Nat):Prop where
 p:oB L old new cC at_
 o:old=[]->(at_:Int)=ly
 f:f=true->at_=0
 e:e=true->at_+old.length=L.length
 m:∀x,mo=Y x->((at_:Int)-ly).natAbs<=x
noncomputable def Bs(C:Nat->Prop)(t:Int):Option Nat->Prop
 |none=>∀a,¬C a
 |some p=>C p/\∀a,C a->(p-t).natAbs<(a-t).natAbs\/(p-t).natAbs=(a-t).natAbs/\a<=p
def Bs.g(h:Bs C ly r)(d:Bs C ly r'):r=r':=by
 induction r using Option.casesOn with
 |none=>induction r' using Option.casesOn with
  |none=>rfl
  |some p=>exact(h p d.1).elim
 |some p=>induction r' using Option.casesOn with
  |none=>exact(d p h.1).elim
  |some c=>
   refine bq (h.2 c d.1) (λa=>?_) λa=>?_<;>refine bq (d.2 p h.1) (λb=>?_) λb=>?_
   ·exact(sA a b).elim
   ·exact(dk _<|b.1▸a).elim
   ·exact(dk _<|a.1▸b).elim
   ·exact U (dB b.2 a.2) V
noncomputable def Ap(L:List bH)(m:Option Nat):List Hk->Nat->Nat->Int->List bH->AV->Prop
 |[],_,d,_,f,v=>v=.d (iq<|f++L.drop d)
 |h::hs,k,d,lH,f,v=>∃r,Bs (iA L (ck h.2.1) (cU h.2.1) (fF h) (fE h) d (gx h+lH) m) (gx h+lH) r/\(match r with
   |none=>v=.c k
   |some p=>Ap L m hs (k+1) (p+(ck h.2.1).length) (p-gx h) (f++(L.take p).drop d++cU h.2.1) v)
def Ap.B{L}(h:Ap L mo a k d o f v)(g:Ap L mo a k d o f w):v=w:=by
 induction a generalizing k d o f with
 |nil=>exact(h).trans (g).symm
 |cons x a i=>
  refine aH h λr b h=>?_;refine aH g λe c g=>?_;cases b.g c;induction r using Option.casesOn with
  |none=>exact(h).trans (g).symm
  |some p=>exact i h g
end bc
end
section
set_option backward.match.sparseCases false
namespace bc
open P
section
variable {g:Gm}{x y z:X}{v:AV}{b c:List UInt8}{p q:List bH}{l:bH}{m n:Nat}
def B9 l:jj (l.map .d)=Y l:=by
 induction l with
 |nil=>rfl
 |cons b l i=>refine(?_:sx _ (jj _)=_);refine U i ?_;rfl
def Js:rR H (.g<|p.map .d) (.g<|q.map .d)=Y (decide (p=q)):=by
 refine(?_:(if(p.map AV.d).length≠(q.map AV.d).length then Y false else(jj _).bind λp=>(jj _).map λq=>decide (p=q))=_);refine U (B9 _)<|U (B9 _) ?_;by_cases h:(p.map AV.d).length≠(q.map AV.d).length;·exact U (if_pos h)<|U (decide_eq_false λe=>h<|by exact U e V) V
 ·exact U (if_neg h) V
def Oz(h:ae g x<|.g<|p.map .d)(k:ae g y<|.g<|q.map .d):ae g (.h .a x y)<|.e<|decide (p=q):=fW h k<|Js
def Oj(h:ae g x<|.g<|p.map .d)(k:ae g y<|.g<|q.map .d):ae g (.h .c x y)<|.e<|!decide (p=q):=fW h k<|by refine(?_:sx _ _=_);refine U Js ?_;rfl
def qZ(h:ae g x<|.d b)(k:ae g y<|.d c):ae g (.h .c x y)<|.e<|!decide (b=c):=fW h k V
def mI(h:ae g x<|.d b)(k:ae g y<|.d c):ae g (.h .a x y)<|.e<|decide (b=c):=fW h k V
def v8(h:ae g x<|.d l):ae g (.w x (.y<|.e<|.c 1)<|.e .k)<|.d<|eV l (Y<|-1) O:=λE Q q=>h E _<|xT V V q
def E5(l:List α)(h:m<=n)(k:n<=l.length):eV l (Y m) (Y n)=(l.take n).drop m:=by refine(?_:mw (eF l.length m) (nI (eF l.length n) l)=_);unfold eF;exact U (if_pos<|f9 m)<|U (if_pos<|f9 n)<|U (pa _)<|U (pa _)<|U (fB k)<|U (fB<|aE h k) V
def rf{α:Type}{f}{c:List α}(h:ae g x<|.g<|c.map f)(a:ae g y<|.c m)(b:ae g z<|.c n)(l:m<=n)(k:n<=c.length):ae g (.w x y z)<|.g<|((c.take n).drop m).map f:=λE Q q=>h E _ (a E _ (b E _ (by refine ou V V V (?_:Q _ g.H);refine U (E5 _ l (U (bx _)<|k)) (aP vA (aP Dv ?_));exact q)))
def wd{α:Type}{f}{l:List α}{t}(h:ae g x<|.g<|l.map f)(e:l.getLast?=Y t):ae g (.l x<|.y<|.e<|.c 1)<|f t:=by
 (refine aF (Dw.mp e) λb a=>?_;subst a)
 exact td h (by refine U cz ?_;rfl)<|gi aL
end
noncomputable def jL(S T:List bH):AV:=.n 6 [.g<|S.map .d,.g<|T.map .d]
section
variable {L S T:List bH}{W N:Nat}{H:Hp}{i:Int}
def AR{α:Type}{l:List α}(h:l.getLast?=O):l=[]:=Mn.mp h
noncomputable def kB(S T L:List bH)(W:Nat)(i e:Int):ba:=[Y<|jL S T,Y<|.g<|L.map .d,Y<|.c W,Y<|.c i,Y<|.c e]
def Bu(b:ae ⟨aR prog N,kB S T L W i<|i+S.length,[],H⟩ (.A [.h .d (.d 3)<|.d 2,.h .f (.d 4)<|.r .b [.d 1],.h .c (.w (.d 1) (.d 3)<|.d 4)<|.g 6 0<|.d 0])<|.e p1)
  (c:p1=false->ae ⟨aR prog N,kB S T L W i<|i+S.length,[],H⟩ (.t [.h .c (.g 6 1<|.d 0)<|.m false [],.h .c (.w (.l (.g 6 1<|.d 0)<|.y<|.e<|.c 1) (.y<|.e<|.c 1)<|.e .k)<|.e<|.d [10],.h .d (.d 4)<|.r .b [.d 1]]) (.e p2))
  (h:p1=false->p2=false->ae ⟨aR prog N,kB S T L W i<|i+S.length,[],H⟩ (.A [.h .a (.g 6 1<|.d 0)<|.m false [],.h .a (.d 3)<|.e<|.c 0,.h .a (.w (.l (.d 1)<|.j .b false (.d 3)<|.e<|.c 1) (.y<|.e<|.c 1)<|.e .k)<|.e<|.d [10]]) (.e p3)) (q:Q (.e<|bif p1 then false else bif p2 then false else p3) H):aR prog (N+1) 37 [jL S T,.g<|L.map .d,.c W,.c i] Q E H:=by
 refine ct (m:=[Y _,Y _,Y _,Y _,O]) V V<|cv (eA J<|gj AV.d<|ew J V)<|cg b (λe=>?_) λe=>bT<|cg (c e) (λa=>?_) λa=>bT<|cQ (h e a)<|cD (.h _) ?_;·rw[e]at q;exact cQ aL<|gP<|cD (.h _) q
 ·rw[e,a]at q;exact cQ aL<|gP<|cD (.h _) q
 ·rw[e,a]at q;exact q
def Bt:∃b,(∀E Q,Q (.e b) H->aR prog (N+1) 37 [jL S T,.g<|L.map .d,.c W,.c i] Q E H)/\(b=true↔∃a:Nat,i=a/\oB L S T W a):=by
 by_cases r:i<W
 ·refine(aO _ (λE Q=>Bu (p1:=true) (p2:=false) (p3:=false) ?_ (λe=>aV e) λe=>aV e) ⟨λe=>aV e,λt=>aH t λa e f=>absurd r<|U e<|nN.mpr<|pb.mpr f.a.1⟩);exact dp (mH (q:=false) (wc J J) λk=>absurd r<|of_decide_eq_false k)<|by refine U (decide_eq_true r) ?_;rfl
 (refine aF (yS<|DR (f9 W)<|nN.mp r) λa F=>?_;subst F)
 have r:=pb.mp<|nN.mp r;have B:∀{j},j=4->ae ⟨aR prog N,kB S T L W a<|a+S.length,[],H⟩ _ _:=λe=>by exact U e<|J V
 have I:ae ⟨aR prog N,kB S T L W a<|a+S.length,[],H⟩ (.r .b [.d 1])<|.c L.length:=gj AV.d J;have K:ae ⟨aR prog N,kB S T L W a _,[],H⟩ (.A [.h .d (.d 3)<|.d 2,.h .f _ _,.h .c (.w (.d 1) (.d 3) _)<|.g 6 0<|.d 0]) _:=
  mH (e6 J J) λ_=>gL (hV (B V) I) λk=>Oj (rf J J (B V) (bj _ _)<|dj.mp<|of_decide_eq_false k)<|ew J V
 have C:(decide (a<W)||(decide (L.length<a+S.length)||!decide ((L.take<|a+S.length).drop a=S)))=false↔(W<=a/\a+S.length<=L.length)/\(L.take<|a+S.length).drop a=S:=by rw[qS,qS,decide_eq_false_iff_not,decide_eq_false_iff_not,dj,dj,vW,decide_eq_true_iff,and_assoc]
 by_cases g:(W<=a/\a+S.length<=L.length)/\(L.take<|a+S.length).drop a=S
 rotate_left
 ·refine⟨_,λE Q=>Bu (p2:=false) (p3:=false) K (λe=>absurd (C.mp e) g) λe=>absurd (C.mp e) g,⟨λe=>?_,λt=>aH t λy e f=>?_⟩⟩;·revert e;cases(decide (a<W)||(decide (L.length<a+S.length)||!decide ((L.take _).drop a=S)))<;>exact λe=>aV e
  ·cases i4.mp e;exact absurd ⟨f.a,f.b⟩ g
 have u:∀{m},m[0]? =Y (Y<|jL S T)->ae ⟨aR prog N,m,[],H⟩ (.g 6 1 _) _:=λe=>ew (J e) V;have o:∀p2 p3,(ae ⟨aR prog N,kB S T L W a<|a+S.length,[],H⟩ (.t [.h .c (.g 6 1<|.d 0)<|.m false [],.h .c (.w (.l (.g 6 1<|.d 0)<|.y<|.e<|.c 1) (.y<|.e<|.c 1)<|.e .k)<|.e<|.d [10],.h .d (.d 4)<|.r .b [.d 1]])<|.e p2)->
   (p2=false->ae ⟨aR prog N,kB S T L W a<|a+S.length,[],H⟩ (.A [.h .a (.g 6 1<|.d 0)<|.m false [],.h .a (.d 3)<|.e<|.c 0,.h .a (.w (.l (.d 1)<|.j .b false (.d 3)<|.e<|.c 1) (.y<|.e<|.c 1)<|.e .k)<|.e<|.d [10]]) (.e p3))->
   ((p2=false/\p3=true)↔((∀l,T.getLast?=Y l->kL l\/a+S.length=L.length)/\(T=[]\/a=0\/∃l,L[a-1]? =Y l/\kL l)))->
   ∃b,(∀E Q,Q (.e b) H->aR prog (N+1) 37 [jL S T,.g<|L.map .d,.c W,.c a] Q E H)/\(b=true↔∃y:Nat,(a:Int)=y/\oB L S T W y):=λp2 p3 R Z c=>
  (aO _ (λE Q=>Bu ((C.mpr g)▸K) (λ_=>R) λ_=>Z) ⟨λe=>(aO a V (by
   have:p2=false/\p3=true:=by revert e;induction p2 using Bool.casesOn<;>induction p3 using Bool.casesOn<;>exact λe=>⟨by first|rfl|exact aV e,by first|rfl|exact aV e⟩
   exact⟨g.1,g.2,(c.mp this).1,(c.mp this).2⟩)),λt=>aH t λy e f=>by
   cases i4.mp e;have:=c.mpr ⟨f.c,f.d⟩;refine U this.1 (U this.2 ?_);rfl⟩)
 cases n:T.getLast? with
 |none=>
  have w:=AR n;refine o false true (dp (kc (q:=false) (iJ (u V) V) λk=>by rw[w]at k;exact aV k)<|by refine U w ?_;rfl) (λ_=>dp (mH (q:=false) (ti (u V) V) λk=>by rw[w]at k;exact aV k)<|by refine U w ?_;rfl) ⟨λ_=>⟨λl h=>(by rw[n]at h;exact aS h),.inl w⟩,λ_=>⟨V,V⟩⟩
 |some l=>
  have G:(T.map AV.d).isEmpty=false:=by induction T using List.casesOn with
   |nil=>exact aS n
   |cons _ _=>rfl
  have x:=kc (iJ (u (m:=kB S T L W a<|a+S.length) V) V) λ_=>d4 (qZ (v8<|wd (f:=AV.d) (u V) n)<|aL (v:=.d [10])) λ_=>e6 (B (j:=4) V) I;have x:=G▸x;have X:∀p,(0<a->ae ⟨aR prog N,kB S T L W a<|a+S.length,[],H⟩ (.h .a (.w (.l (.d 1)<|.j .b false (.d 3)<|.e<|.c 1) (.y<|.e<|.c 1)<|.e .k)<|.e<|.d [10]) (.e p))->ae ⟨aR prog N,kB S T L W a<|a+S.length,[],H⟩ (.A [.h .a (.g 6 1<|.d 0)<|.m false [],.h .a (.d 3)<|.e<|.c 0,.h .a (.w (.l (.d 1)<|.j .b false (.d 3)<|.e<|.c 1) (.y<|.e<|.c 1)<|.e .k)<|.e<|.d [10]]) (.e<|decide (a=0)||p):=λp M=>
   dp (mH (ti (u V) V) λ_=>gL (gu (b:=0) J aL) λk=>M<|kY<|of_decide_eq_false k) (by refine U G ?_;rfl)
  have z:((true&&((!decide (eV l (Y<|-1) O=[10]))&&decide (a+S.length<L.length)))=false)↔∀l',T.getLast?=Y l'->kL l'\/a+S.length=L.length:=by refine U (vT _)<|U (propext NI)<|U (vW _)<|U (propext decide_eq_false_iff_not)<|U (propext dj) ?_;refine U n ?_;exact⟨λh l' e=>by(have e:=bz e;subst e);exact h.imp id λk=>dB g.1.2 k,λh=>(h l V).imp id λk=>bb k.symm⟩
  by_cases s:a=0;·exact o _ _ x (λ_=>X false λk=>absurd s<|ma k) ⟨λh=>⟨z.mp h.1,.inr<|.inl s⟩,λh=>⟨z.mpr h.1,by refine U (decide_eq_true s) ?_;rfl⟩⟩
  ·have D:=jM (d:=[]) (bX (l9 (kY s) kZ)<|aE (bj _ _) g.1.2);exact o _ _ x (λ_=>X (xF<|L.getD (a-1) []) λk=>mI (v8<|pq AV.d J (ip J k) D) aL) ⟨λh=>⟨z.mp h.1,.inr (.inr (aO _ D (by
    have:=h.2;rw[decide_eq_false s]at this;exact this)))⟩,λh=>⟨z.mpr h.1,by
    rcases h.2 with k|k|⟨l',A,P⟩;·exact absurd k λe=>by rw[e]at n;exact aS n
    ·exact absurd k s
    ·rw[D]at A;(have A:=bz A;subst A);exact U (P) (U (NG _) V)⟩⟩
end
noncomputable def fu:Option Nat->AV
 |none=>.k
 |some x=>.c x
def th(h:ae g x<|fu o):ae g (.h .e x<|.e .k)<|.e o.isSome:=fW h aL<|by induction o using Option.casesOn<;>rfl
def pw(h:ae g x<|fu o):ae g (.h .h x<|.e .k)<|.e o.isNone:=fW h aL<|by induction o using Option.casesOn<;>rfl
def Ol{g}{x y:X}{a b:Nat}(h:ae g x<|.c a)(k:ae g y<|.c b):ae g (.r .r [x,y])<|.c (min a b:Nat):=ez (zj h k)<|Au (↑a) (↑b) (λi c=>GJ (a) (b) (λd z=>cA [_,_] [_] aI af [.e 1 aI aG,.e (-1) af aG] V c z) λd z=>fZ (λf=>aJ [_,_] [_] [.l 1 af aG,.e (-1) aI aG,.l 1 (.a aI aM) af] V (nl<|oQ (a)<|b) c f) λf=>aJ [_,_] [_] [.l 1 aI aG,.e (-1) af aG,.l 1 (.a af aM) aI] V (Int.min_le_right (↑a)<|↑b) z f) λi c=>GJ (a) (b) (λd z=>fZ (λf=>aJ [_,_] [_] [.l 1 af aG,.e (-1) aI aG,.l 1 (.a aI aM) af] V (nl<|j6 (a)<|b) c f) λf=>aJ [_,_] [_] [.l 1 aI aG,.e (-1) af aG,.l 1 (.a af aM) aI] V (MG (↑a)<|↑b) z f) λd z=>cA [_,_] [_] aI af [.e 1 aI aG,.e (-1) af aG] V c z
def zT{F}{f:Type}{n:Nat}(j:ae ⟨F,m,[],H⟩ x<|.c n)(o:n<=sz)
  (L:f->ba) (c:Nat->f->Hp) (I:Nat->f->Prop) s (u:m=L s) (p:H=c 0 s) (w:I 0 s)
  (d:∀k s,k<n->I k s->∀g,(∀y,I (k+1) y->g .a (L y) (c (k+1) y))->(∀v m H,K (.c v) m H->g (.c v) m H)->aK F b ((L s).set t<|Y<|.c k) g (c k s))
  (q:∀s,I n s->aK F r (L s) K (c n s)):aK F (.j [t] false .b [x] b::r) m K H:=by
 refine wD (cJ j) (items:=(fm n (0:Nat) 1).map .c) ?_ L c I s u p w (λ_ _ _=>trivial) (λi v s a e=>?_) λs e=>?_
 ·have:=wO 0 n;rw[cy]at this;exact(if_pos<|o).trans<|congrArg (λl=>Y _) this
 ·rw[gh,wQ]at a;by_cases h:i<n;·rw[if_pos h,cy]at a;(have a:=bz a;subst a);exact d i s h e
  ·rw[if_neg h]at a;exact aS a
 ·rw[bx,zX]at e |- ;exact q s e
section
variable {L old new:List bH}{cC N M k a:Nat}{W:Int}{X:Option Nat}{f e:Bool}
noncomputable def r7(L old new:List bH)(cC:Nat)(i:Int):Prop:=∃a:Nat,i=a/\oB L old new cC a
structure uO(L old:List bH)(W:Int)(X:Option Nat)(M:Nat):Prop where
 a:∀x,X=Y x->M<=x
 b:old=[]->M=0
 c:∀d,d<=L.length+W.natAbs->(∀x,X=Y x->d<=x)->(old=[]->d=0)->d<=M
def BP:a=W+(a-W).natAbs\/a=W-(a-W).natAbs:=ow _ (λb z=>.inl<|cA [_,_] [_] af (.a aI aG) [.e (-1) aG<|.s af aI] V z) λb z=>.inr<|cA [_,_] [_] af (.s aI aG) [.e 1 aG<|.g<|.s af aI] V z
def JN(h:W+k=a):(a-W).natAbs=k:=cN<|cA [_,_,_] [_] bf af [.e (-1) (.a aI af) aG,.e 1 bf<|.s aG aI] V h<|iI<|b9 λz=>aJ [_,_] [_] [.e 1 (.a aI af) aG,.l 1 (.a (.s aG aI) aM) bJ] V h z
def JO(h:W-k=a):(a-W).natAbs=k:=cN<|cA [_,_,_] [_] bf af [.e 1 (.s aI af) aG,.e 1 bf<|.g<|.s aG aI] V h<|MC<|b9 λz=>aJ [_,_] [_] [.e (-1) (.s aI af) aG,.l 1 (.a bJ aM)<|.s aG aI] V h z
def Zw(h:a<=n):(a-W).natAbs<=n+W.natAbs:=b8 λd=>ow _ (λb z=>aJ [_,_,_,_] [_] [.l 1 af aG,.l 1 (.c<|.a (.a aZ bK) aX) bf,.l 1 (.g aI) cM,.e 1 bf<|.s af aI] V (nl h) d (fK<|W) z) λb z=>aJ [_,_,_,_] [_] [.l 1 (.c<|.a (.a aZ bK) aX) bf,.l 1 aI cM,.e 1 bf<|.g<|.s af aI] V d (fJ<|W) z
noncomputable def jV(L old new:List bH)(cC:Nat)(W:Int)(k:Nat):Prop:=∀j,j<k->¬r7 L old new cC (W+j)/\¬r7 L old new cC (W-j)
def jV.g(h:jV L old new cC W k)(c:iA L old new f e cC W X a):k<=(a-W).natAbs:=dj.mp λl=>
 BP.elim (λq=>(h _ l).1<|aO a q.symm c.p) λq=>(h _ l).2<|aO a q.symm c.p
theorem jV.o(h:jV L old new cC W<|M+1)(m:uO L old W X M):Bs (iA L old new false false cC W X) W O:=λa c=>
 qH.mpr (yw<|h.g c) (m.c _ (Zw<|aE (bj _ _) c.p.a.2) c.m λe=>by refine U (c.o e)<|U (yM _) ?_;rfl)
theorem iA.c(m:uO L old W X M)(f:k<=M)(h:oB L old new cC a)(d:(a-W).natAbs=k):iA L old new false false cC W X a:=
 ⟨h,λe=>by have:=m.b e;exact fZ (λz=>aJ [_,_] [_] [.e 1 af<|.s aG aI,.l 1 (.a aG aM) aI] V (iI<|b9 (b:=↑a-W) λi=>aJ [_,_,_,_] [_] [.l 1 af aG,.e 1 bf af,.e 1 aG<|.c<|.n 0,.l 1 (.g<|.s cM aI) bf,.l 1 (.a (.s cM aI) aM) bJ] V (nl f) (nE d) (nE this) (fK<|↑a-W) i) z) λz=>aJ [_,_,_,_] [_] [.l 1 af aG,.e 1 bf af,.e 1 aG<|.c<|.n 0,.l 1 (.s cM aI) bf,.l 1 (.a aI aM) cM] V (nl f) (nE d) (nE this) (fJ<|↑a-W) z,λe=>aV e,λe=>aV e,λx e=>d▸aE f (m.a x e)⟩
theorem jV.s(h:jV L old new cC W k)(m:uO L old W X M)(d:k<=M)(e:W+k=a)(p:oB L old new cC a):Bs (iA L old new false false cC W X) W<|Y a:=
 ⟨.c m d p<|JN e,λb c=>by refine U (JN e) ?_;exact(ve (h.g c)).imp_right λq=>⟨q,by have:=BP (a:=b) (W:=W);exact b8 λz=>aJ [_,_,_,_] [_] [.e 1 (.a aI af) aG,.e (-1) af bf,.l 1 (.c (.a aZ aX)) cM,.l 1 (.s cM aI) bf] V e (nE q) z (fJ (↑b-W))⟩⟩
def jV.t(h:jV L old new cC W k)(m:uO L old W X M)(d:k<=M)(e:W-k=a)(p:oB L old new cC a)(n:¬r7 L old new cC (W+k)):Bs (iA L old new false false cC W X) W<|Y a:=
 ⟨.c m d p<|JO e,λb c=>by
  refine U (JO e) ?_;exact(ve<|h.g c).imp_right λq=>⟨q,by
   refine bq (BP (a:=b) (W:=W)) (λr=>?_) λr=>?_;·exact(n<|aO b (U q<|r.symm) c.p).elim
   ·rw[<-q,e]at r;exact bb (i4.mp r)⟩⟩
def jV.i(h:jV L old new cC W k)(a:¬r7 L old new cC (W+k))(n:¬r7 L old new cC (W-k)):jV L old new cC W<|k+1:=λj b=>
 (mf.mp b).elim (h j) λq=>by exact U q<|⟨a,n⟩
end
section
variable {L old new:List bH}{cC N:Nat}{W:Int}{X:Option Nat}{H:Hp}{E Q:VK}
noncomputable def F7(old new L:List bH)(cC:Nat)(W:Int)(X:Option Nat)(M:Nat)(o:Option AV):ba:=[Y<|jL old new,Y<|.g<|L.map .d,Y<|.c cC,Y<|.c W,Y<|fu X,Y<|.c M,o]
def zr{F}(h:∀E Q,Q (.e b) H->F 37 [jL old new,.g<|L.map .d,.c cC,.c i] Q E H)(e:m[0]? =Y (Y<|jL old new))(a:m[1]? =Y (Y<|.g<|L.map .d))(c:m[2]? =Y (Y<|.c cC))(d:ae ⟨F,m,[],H⟩ x<|.c i):ae ⟨F,m,[],H⟩ (.o 6 37 (.d 0) [.d 1,.d 2,x])<|.e b:=
 iK (J e) V (bt (J a)<|bB (J c) d) h
def Sw(G:L.length<=60/\W.natAbs<=200)(q:∀r,Bs (iA L old new false false cC W X) W r->Q (fu r) H):aR prog (N+2) 38 [jL old new,.g<|L.map .d,.c cC,.c W,fu X] Q E H:=by
 have c:∀M,M<=300->uO L old W X M->aK _ (Cm.drop 3) _ (e7 Q E) H:=λM w m=>by
  refine zT (eI J aL) (aE (c7 w)<|by decide) (F7 old new L cC W X M) (λ_ _=>H) (λk _=>jV L old new cC W k) O V V (λj S=>(lh _ S).elim) (λk o a0 t T F I=>?_) λo t=>cQ aL<|cD (.h _)<|q O<|t.o m;refine aH (Bt (L:=L) (S:=old) (T:=new) (W:=cC) (N:=N) (H:=H) (i:=W+k)) λb K s=>?_;refine cg (zr K V V V<|eA J J) (λe=>?_) λe=>bT ?_;·exact aH (s.mp e) λa l p=>cQ (v:=fu _) (ez (eA J J) l)<|gP<|I _ _ _<|cD (.h _)<|q _<|t.s m (f6 a0) l p
  have D:¬r7 L old new cC _:=λh=>by rw[s.mpr h]at e;exact aV e
  refine aH (Bt (L:=L) (S:=old) (T:=new) (W:=cC) (N:=N) (H:=H) (i:=W-k)) λZ A g=>?_;refine cg (d4 (hV J aL) λ_=>zr A V V V<|c3 J J) (λe=>?_) λe=>bT<|bO<|F _<|t.i D λh=>?_;·exact aH (g.mp (ef.mp e).2) λa l p=>cQ (v:=fu _) (ez (c3 J J) l)<|gP<|I _ _ _<|cD (.h _)<|q _<|t.t m (f6 a0) l p D
  ·induction k using Nat.casesAuxOn with
   |zero=>exact D<|U (show W+0=W-0 from(ka _).trans (DM _).symm)<|h
   |succ k=>rw[g.mpr h,decide_eq_true<|fU k]at e;exact aV e
 have f:∀M,M<=300->(∀x,X=Y x->M<=x)->(∀d,d<=L.length+W.natAbs->(∀x,X=Y x->d<=x)->d<=M)->aK _ (Cm.drop 2) (F7 old new L cC W X M O) (e7 Q E) H:=λM w a1 R=>by
  refine cg (ti (ew J V) V) (λe=>cv aL<|bT<|c 0 (cB _) ⟨λ_ _=>cB _,λ_=>V,λd _ _ h=>?_⟩) λe=>bT<|c M w ⟨a1,λP=>?_,λd u C _=>R d u C⟩
  ·induction old using List.casesOn with
   |nil=>exact bb<|h V
   |cons _ _=>exact aV e
  ·rw[P]at e;exact aV e
 have z:L.length+W.natAbs<=300:=aE (ed G.1 G.2)<|by decide
 refine ct (m:=[Y _,Y _,Y<|.c cC,Y<|.c W,Y<|fu X,O,O]) V V<|cv (eI (gj AV.d J)<|tj J)<|cg (th J) (λe=>?_) λe=>bT<|f _ z (λx n=>by rw[n]at e;exact aV e) λd h _=>h;induction X using Option.casesOn with
 |none=>exact aV e
 |some x=>exact cv (Ol J J)<|bT<|f _ (aE (oQ _ _) z) (λy B=>by(have B:=bz B;subst B);exact j6 _ _) λd u C=>Nat.le_min.mpr ⟨u,C x V⟩
end
section
variable {L old new:List bH}{cC N:Nat}{u T:Int}{w:Option Nat}{f e:Bool}{H:Hp}{E Q:VK}
structure CM(L old new:List bH)(f e:Bool)(cC:Nat)(u:Int)(w:Option Nat)(T:Int):Prop where
 a:∀a,iA L old new f e cC u w a->(a:Int)=T
 b:∀a:Nat,(a:Int)=T->(f=true->a=0)/\(e=true->a+old.length=L.length)
 o:old≠[]
def CM.i{a:Nat}(h:CM L old new f e cC u w T)(d:T=a)(p:oB L old new cC a)(m:∀x,w=Y x->(T-u).natAbs<=x):Bs (iA L old new f e cC u w) u<|Y a:=
 ⟨⟨p,λe=>(h.o e).elim,(h.b a d.symm).1,(h.b a d.symm).2,λx g=>d▸m x g⟩,λb c=>by have:=(h.a b c).trans d;cases i4.mp this;exact .inr ⟨V,bN _⟩⟩
noncomputable def rE(old new L:List bH)(cC:Nat)(u:Int)(w:Option Nat)(f e:Bool)(o:Option AV):ba:=[Y<|jL old new,Y<|.g<|L.map .d,Y<|.c cC,Y<|.c u,Y<|fu w,Y<|.l [.e f,.e e],o]
def A9(h:CM L old new f e cC u w T)(q:∀r,Bs (iA L old new f e cC u w) u r->Q (fu r) H):aK (aR prog<|N+2) (Cp.drop 3) (rE old new L cC u w f e<|Y<|.c T) (e7 Q E) H:=by
 refine aH (Bt (L:=L) (S:=old) (T:=new) (W:=cC) (N:=N+1) (H:=H) (i:=T)) λb s j=>?_;have g:(∀x,w=Y x->(T-u).natAbs<=x)->aK (aR prog _) (Cp.drop 4) _ (e7 Q E) H:=λm=>by
  have k:ae ⟨aR prog<|N+2,rE old new L cC u w f e<|Y _,[],H⟩ (.t [.h .i (.d 6)<|.e<|.c 0,.o 6 37 (.d 0) [.d 1,.d 2,.d 6]])<|.e<|decide (0<=T)&&b:=d4 (q9 J aL) λ_=>zr s V V V J;cases d:(decide (0<=T)&&b)with
  |false=>
   refine cQ (gM (d▸k) (λh=>aV h) λ_=>aL)<|cD (.h _)<|q O λa c=>?_;rw[j.mpr<|aO a (h.a a c).symm c.p,<-(h.a a c),decide_eq_true<|f9 a]at d;exact aV d
  |true=>
   have k:=d▸k;refine aH (j.mp (ef.mp d).2) λa n p=>?_;exact cQ (v:=fu<|Y a) (gM k (λ_=>ez J n) λh=>aV h)<|cD (.h _)<|q _<|h.i n p m
 induction w using Option.casesOn with
 |none=>exact cg (d4 (q:=false) (th (o:=O) J) λh=>aV h) (λh=>aV h) λ_=>bT<|g λx t=>aS t
 |some x=>
  refine cg (d4 (th J) λ_=>hV (tj<|c3 J J) J) (λd=>?_) λd=>bT<|g λy l=>?_
  ·refine cQ aL (gP<|cD (.h _)<|q O λa c=>?_);have:=c.m x V;rw[h.a a c]at this;exact dj.mpr this<|of_decide_eq_true (ef.mp d).2
  ·(have l:=bz l;subst l)
   exact dj.mp<|of_decide_eq_false d
def Wb(g:(f||e)=true->old≠[])(s:L.length<=60/\u.natAbs<=200)(q:∀r,Bs (iA L old new f e cC u w) u r->Q (fu r) H):
  aR prog (N+3) 39 [jL old new,.g<|L.map .d,.c cC,.c u,fu w,.l [.e f,.e e]] Q E H:=by
 have i:∀{o},ae ⟨aR prog<|N+2,rE old new L cC u w f e o,[],H⟩ (.h .b (.e<|.e true)<|.d 5)<|.e<|!([f,e].contains true):=fW aL J V;have j:∀{o},ae ⟨aR prog<|N+2,rE old new L cC u w f e o,[],H⟩ (.h .a (.d 5)<|.q [.e<|.e true,.e<|.e true])<|.e<|decide ([f,e]=[true,true]):=fW J (cO<|bB aL aL) V;have l:∀{o},ae ⟨aR prog<|N+2,rE old new L cC u w f e o,[],H⟩ (.l (.d 5)<|.e<|.c 0)<|.e f:=qV (n:=0) J aL V;refine ct (m:=rE old new L cC u w f e O) V V ?_;induction f using Bool.casesOn with
 |false=>induction e using Bool.casesOn with
  |false=>
   exact cg i (λ_=>g8 λt=>eZ J V (bt J<|bt J<|bB J J)<|Sw s λr h=>gP<|cD (.h _)<|q r h) λh=>aV h
  |true=>
   refine cg i (λh=>aV h) λ_=>bT<|cv (gM l (λh=>aV h) λ_=>c3 (gj AV.d J)<|gj AV.d<|ew J V)<|cg (d4 (q:=false) j λh=>aV h) (λh=>aV h) λ_=>bT<|A9 ⟨λa c=>?_,λa h=>⟨λh=>aV h,λ_=>?_⟩,g V⟩ q;·have:=c.e V;exact aP this<|U (vQ _ _)<|U (qQ _ _) V
   ·exact i4.mp<|(vQ _ _).trans<|U h<|U (Int.sub_add_cancel _ _) V
 |true=>
  refine cg i (λh=>by rw[List.contains_cons]at h;exact aV h) λ_=>bT<|cv (gM l (λ_=>aL) λh=>aV h) ?_;have d:∀a:Nat,(a:Int)=0->a=0:=λa h=>i4.mp h;induction e using Bool.casesOn with
  |false=>exact cg (d4 (q:=false) j λh=>aV h) (λh=>aV h) λ_=>bT<|A9 ⟨λa c=>by refine U (c.f V) ?_;rfl,λa h=>⟨λ_=>d a h,λh=>aV h⟩,g V⟩ q
  |true=>
   refine cg (d4 j λ_=>zh (gj AV.d<|ew J V)<|gj AV.d J) (λb=>?_) λb=>bT<|A9 ⟨λa c=>by refine U (c.f V) ?_;rfl,λa h=>⟨λ_=>d a h,λ_=>?_⟩,g V⟩ q
   ·refine cQ aL (gP<|cD (.h _)<|q O λa c=>?_);have b:(!decide ((old.length:Int)=L.length))=true:=b;have p:=c.e V;rw[c.f V,cy]at p;rw[p,decide_eq_true V]at b;exact aV b
   ·have b:(!decide _)=false:=b;refine U (d a h)<|U (cy _) ?_;by_cases k:(old.length:Int)=L.length;·exact i4.mp k
    ·rw[decide_eq_false k]at b;exact aV b
end
section
variable {g:Gm}{F:cF}{m C:ba}{H:Hp}{x y w A B:X}{u:AV}{a b:Nat}{mu:Bool}
def zd(h:ae g x<|.c a)(k:ae g y<|.c b)(l:b<=a):ae g (.j .b mu x y)<|.c (a-b:Nat):=ez (c3 h k) (sS l).symm
def rg{α:Type}g p f{x:List α}{j}(h:ae ⟨F,m,C,H⟩ w u)(v:cf H u=Y (x.map g))(z:x.length<=sz)
  (t:∀c∈x,∃a,gn (dC 8 O) tg j (g c)=Y a/\ae ⟨F,m,a,H⟩ B (.e<|p c)/\(p c=true->ae ⟨F,m,a,H⟩ A (f c))):ae ⟨F,m,C,H⟩ (.u A tg j .a [w] [B]) (.g<|(x.filter p).map f):=λE Q q=>
 ur g h v (λl b y=>y=H/\b=(l.filter p).map f) ⟨V,V⟩ (λ_ _ _ e=>U e.1 V) (λl c r b y e d D k=>by
  refine cw (t c<|e▸gI _ (gZ ..)) λa s n o=>?_;refine U s ?_;rw[d.1,d.2]at*;refine n _ _ ?_;cases i:p c with
  |true=>exact o i _ _<|k _ _ ⟨V,by refine U (vK _ _) (U cz<|U (show[c].filter p=[c] by refine U vJ<|U i ?_;rfl) ?_);rfl⟩
  |false=>exact k O _ ⟨V,by refine U (vK _ _) (U cz (U (show[c].filter p=[] by refine U vJ (U i ?_);rfl) ?_));exact(gJ _).symm⟩) λb y d=>by
  refine U d.1<|U d.2 ?_;exact⟨by exact U (bx _)<|aE (vD _ _) z,q⟩
def wg{α:Type}f g{o:List α}{i}(h:ae ⟨F,m,C,H⟩ w u)(l:cf H u=Y (o.map f))(z:o.length<=sz)
  (t:∀c∈o,∃b,gn (dC 8 O) i un (f c)=Y b/\ae ⟨F,m,b,H⟩ A (g c)):ae ⟨F,m,C,H⟩ (.u A i un .a [w] []) (.g<|o.map g):=λE Q q=>
 ur f h l (λp a s=>s=H/\a=p.map g) ⟨V,V⟩ (λ_ _ _ e=>U e.1 V) (λp c r a s e d v n=>by
  refine aH (t c<|e▸gI _ (gZ ..)) λb k j=>?_;refine U k ?_;rw[d.1,d.2]at*;exact j _ _ (n _ _ ⟨V,by refine U cz ?_;rfl⟩)) λa s d=>by
  refine U d.1<|U d.2 ?_;exact⟨by exact U (bx _)<|z,q⟩
end
def Sg.q(s:Sg):decide (s.b=[32])=s.j:=by induction s using bc.Sg.casesOn<;>decide
def Sg.D(s:Sg):(decide (s.b=[32])||decide (s.b=[45]))=s.n:=by induction s using bc.Sg.casesOn<;>decide
def Sg.G(s:Sg):(decide (s.b=[32])||decide (s.b=[43]))=s.l:=by induction s using bc.Sg.casesOn<;>decide
noncomputable def IT(p:Pt)(r:List fz)(v:AV):AV:=.n 4 [.c p.1,.c p.2.1,.c p.2.2.1,.c p.2.2.2,.g<|r.map cV,v]
section
variable {H:Hp}{N a f:Nat}{E Q:VK}{h:Hk}{p:Pt}{r:List fz}{v d b c e g i:AV}
def IE(q:Q .k<|H.ag a<|.bF 4 f [d,b,c,e,g,i]):aR prog (N+1) 1004 [.f a,d,b,c,e,g,i] Q E<|H.ag a<|.bF 4 f []:=
 ct (m:=[Y _,Y d,Y b,Y c,Y e,Y g,Y i]) V V (dF J V V<|dF J V V<|dF J V V<|dF J V V<|dF J V V<|dF J V V<|bO<|iP (.h _) q)
def V9(q:Q .k<|H.ag a<|.bF 4 f [d,b,c,e,g,.d []]):aR prog (N+1) 1004 [.f a,d,b,c,e,g] Q E<|H.ag a<|.bF 4 f []:=
 ct (m:=[Y _,Y d,Y b,Y c,Y e,Y g,Y _]) V V (dF J V V<|dF J V V<|dF J V V<|dF J V V<|dF J V V<|dF J V V<|bO<|iP (.h _) q)
def II(q:Q (.c<|gx h) H):aR prog (N+1) 30 [dz h] Q E H:=by
 have d:∀{i}{v},[AV.c h.1.1,.c h.1.2.1,.c h.1.2.2.1,.c h.1.2.2.2,.g _,.d h.2.2][i]? =Y v->ae ⟨aR prog N,[Y<|dz h],[],H⟩ (.g 4 i<|.d 0) v:=λe=>ew J e;refine ct (m:=[Y _]) V V<|cQ (gM (hV (b:=0) (d V) aL) (λk=>?_) λk=>?_)<|cD (.h _) q;·unfold gx;exact U (if_pos<|of_decide_eq_true k)<|c3 (d V) aL
 ·unfold gx;exact U (if_neg<|of_decide_eq_false k)<|d V
def QO(z:r.length<=sz)(q:Q (.g<|(ck r).map .d) H):aR prog (N+1) 31 [IT p r v,.d [45]] Q E H:=by
 refine ct (m:=[Y _,Y _]) V V<|cQ (dp (rg cV (λx=>x.1.n) (λx=>.d x.2) (ew J V) V z λc _=>(cq _ V ?_ λ_=>gv V)) ?_)<|cD (.h _) q;·exact dp (gL (mI (gv V) aL) λ_=>mI (gv V) J)<|U (Sg.D _) V
 ·refine U lr ?_;rfl
def QP(z:r.length<=sz)(q:Q (.g<|(cU r).map .d) H):aR prog (N+1) 31 [IT p r v,.d [43]] Q E H:=by
 refine ct (m:=[Y _,Y _]) V V<|cQ (dp (rg cV (λx=>x.1.l) (λx=>.d x.2) (ew J V) V z λc _=>(cq _ V ?_ λ_=>gv V)) ?_)<|cD (.h _) q;·exact dp (gL (mI (gv V) aL) λ_=>mI (gv V) J)<|U (Sg.G _) V
 ·refine U lr ?_;rfl
def V5(z:h.2.1.length<=sz)(q:Q .k<|H.ag a<|.bF 6 f [.g<|(ck h.2.1).map .d,.g<|(cU h.2.1).map .d]):aR prog (N+2) 1006 [.f a,dz h,.c 0,.c 0] Q E<|H.ag a<|.bF 6 f []:=by
 have d:∀{H}{o}{i}{v},[AV.c h.1.1,.c h.1.2.1,.c h.1.2.2.1,.c h.1.2.2.2,.g _,.d h.2.2][i]? =Y v->ae ⟨aR prog<|N+1,[Y<|.f a,Y<|dz h,Y<|.c 0,Y<|.c 0,o,O],[],H⟩ (.g 4 i<|.d 1) v:=λe=>ew J e;have c:ae ⟨aR prog<|N+1,[Y<|.f a,Y<|dz h,Y<|.c 0,Y<|.c 0,O,O],[],H.ag a<|.bF 6 f []⟩ (.w (.g 4 4<|.d 1) (.d 2)<|.j .b false (.r .b [.g 4 4<|.d 1])<|.d 3)<|.g<|h.2.1.map cV:=by have:=rf (m:=0) (n:=h.2.1.length) (d (i:=4) V) (J (g:=⟨aR prog _,[Y _,Y _,Y _,Y _,O,O],[],H.ag a<|.bF 6 f []⟩) (i:=2) V) (zd (b:=0) (mu:=false) (gj cV<|d (i:=4) V) (J (i:=3) V)<|cB _) (cB _)<|bN _;rw[il]at this;exact this
 refine ct (m:=[Y _,Y _,Y _,Y _,O,O]) V V<|cv c<|cv (qY (bt (d V)<|bt (d V)<|bt (d V)<|bt (d V)<|cJ J) λa f E Q _ q=>V9 q) ?_;exact dF (iK J V (cJ aL) λE Q q=>QO z q) V V<|dF (iK J V (cJ aL) λE Q q=>QP z q) V V<|bO<|iP (.h _) q
end
noncomputable def cR:List UInt8->List bH
 |[]=>[]
 |c::r=>if c=10 then[c]::cR r else match cR r with
  |[]=>[[c]]
  |p::t=>(c::p)::t
noncomputable def fl:List UInt8->Nat
 |[]=>0
 |c::r=>if c=10 then 1 else fl r+1
def Vg(h:s≠[]):cR s=s.take (fl s)::cR (s.drop<|fl s):=by
 induction s with
 |nil=>exact(h V).elim
 |cons c r i=>
  refine(?_:(if c=10 then[c]::cR r else match cR r with|[]=>[[c]]|p::t=>(c::p)::t)=(c::r).take (if c=10 then 1 else fl r+1)::cR ((c::r).drop (if c=10 then 1 else fl r+1)));by_cases a:c=10;·refine U (if_pos a)<|U (if_pos a) ?_;rfl
  ·refine U (if_neg a) (U (if_neg a) ?_);induction r using List.casesOn with
   |nil=>rfl
   |cons d r=>refine U (i<|nM _ _) ?_;rfl
def I8(h:s≠[]):0<fl s:=by
 induction s using List.casesOn with
 |nil=>exact(h V).elim
 |cons c r=>
  unfold fl;by_cases a:c=10;·exact U (if_pos a)<|kZ
  ·exact U (if_neg a)<|fU _
def Xv s:fl s<=s.length:=by
 induction s with
 |nil=>exact bN _
 |cons c r ih=>
  unfold fl;by_cases hc:c=10;·exact U (if_pos hc)<|c7<|cB _
  ·exact U (if_neg hc)<|c7 ih
def Xy{p t:Nat}(h:t<=p):(ir s p t<0/\fl s=s.length)\/(ir s p t+1=(p+fl s:Nat)/\0<=ir s p t):=by
 induction s generalizing p with
 |nil=>exact .inl ⟨(by decide:(-1)<0),V⟩
 |cons c r i=>
  unfold ir fl;by_cases a:c=10;·refine U (if_pos ⟨h,a⟩)<|U (if_pos a) ?_;exact .inr ⟨V,f9 p⟩
  ·refine U (if_neg λk=>a k.2) (U (if_neg a) ?_);exact(i<|gY h).imp (λk=>⟨k.1,congrArg _ k.2⟩) λk=>⟨k.1.trans<|congrArg (λn:Nat=>(n:Int))<|Nat.succ_add p _,k.2⟩
def Xx(h:k<=s.length):ir s p (p+k)=ir (s.drop k) (p+k) (p+k):=by
 induction k generalizing s p with
 |zero=>rfl
 |succ k i=>induction s using List.casesOn with
  |nil=>exact(u9 _ h).elim
  |cons c r=>
   refine(?_:(if p+(k+1)<=p/\c=10 then(p:Int)else ir r _ _)=_);refine U (if_neg λq=>Dg p<|aE (ff (c7<|cB k) p) q.1)<|U (cG p k 1) ?_;exact i<|nG h
section
variable {g:Gm}{x y z:X}{s:List UInt8}{b m n:Nat}
def Oy(h:ae g x<|.d s)(k:ae g y<|.c b):ae g (.r .q [x,.e<|.d [10],y])<|.c<|ir s 0 b:=λE Q q=>h E _ ⟨⟨s,V⟩,k E _ ⟨s,b,V,f9 b,by exact U (pa _)<|q⟩⟩
def OB(h:ae g x<|.d s)(a:ae g y<|.c m)(b:ae g z<|.c n)(l:m<=n)(k:n<=s.length):ae g (.w x y z)<|.d<|(s.take n).drop m:=λE Q q=>h E _ (a E _ (b E _ (by refine xT V V (?_:Q _ g.H);exact U (E5 _ l k)<|q)))
end
section
variable {N:Nat}{E Q:VK}{H:Hp}{s:List UInt8}{F:cF}
noncomputable def AE(s:List UInt8)(f b:Nat)(o:Option AV):ba:=[Y<|.d s,Y<|.f f,Y<|.c b,o]
noncomputable def CH(s:List UInt8)(n:Nat)(t:List bH×Nat×Option AV):Prop:=t.2.1+n=s.length/\t.1++cR (s.drop t.2.1)=cR s/\t.1.length<=t.2.1
def Vh(x:s.length<sz)t(h:CH s n t):
  gd F Hq HP (λt=>AE s f t.2.1 t.2.2) (λt=>H.ag f<|.b<|t.1.map .d) (CH s) (λt=>t.1=cR s) n t:=by
 obtain⟨l,b,o⟩:=t;refine(cq _ (e6 J<|Ei J) (λe K v=>?_) λe=>?_)
 ·have e:b<s.length:=of_decide_eq_true e;have i:s.drop b≠[]:=λq=>by have:=congrArg qM q;rw[mq]at this;exact qH.mpr e<|qI this
  have d:=aE (ff (Xv _) _)<|by refine U mq<|U (eT<|cI e) ?_;exact bN _
  have r:=Xx (p:=0)<|cI e;rw[cy]at r;have w:=Xy (s:=s.drop b) (t:=b)<|bN _;have y:ae ⟨F,AE s f b<|Y<|.c<|ir s 0 b,[],H.ag f<|.b<|l.map .d⟩ (.D (.h .d (.d 3)<|.e<|.c 0) (.r .b [.d 0])<|.j .a false (.d 3)<|.e<|.c 1)<|.c (b+fl (s.drop b):Nat):=by
   refine bq (r.symm▸w) (λz=>bp z λj k=>?_) λm=>bp m λj k=>?_
   ·refine U k (U mq<|U (eT<|cI e) ?_);exact gM (wc J aL) (λ_=>Ei J) λq=>absurd j<|of_decide_eq_false q
   ·exact gM (wc J aL) (λq=>absurd (of_decide_eq_true q)<|nN.mpr k) λ_=>ez (eA J aL) j
  refine aF (ik d) λu g=>?_;refine cv (Oy J J)<|cv y<|pG AV.d _ J (dp (OB J J J (bj _ _) d)<|U List.drop_take<|U (vo _ _) V) (cH h.2.2<|gg e x)<|cv J<|bO<|v u (_,b+fl _,_) (by have:b+n=s.length:=h.1;have:=I8 i;exact b8 λA=>aJ [_,_,_,_,_] [] [.e (-1) af<|.c<|.a (.a aZ bA) bK,.e (-1) (.c<|.a aZ cX) af,.l 1 (.c<|.a (.n 0) aX) bf,.l 1 (.c<|.a cX aX)<|.c<|.a bK aX] V (nE g) (nE<|‹(b+n=s.length)›) (nl this) A:u<n)<|bW g.symm ?_ ?_
  ·have:=h.2.1;refine(?_:(l++[_])++cR (s.drop<|b+fl (s.drop b))=_);refine aP this<|U (Vg i)<|U (f7 _ _ _)<|U DF ?_;rfl
  ·exact U bZ<|ed h.2.2<|I8 i
 ·have:=h.2.1;have this:=qO (dj.mp<|of_decide_eq_false e)▸this;exact(gJ _).symm.trans this
def AG(b:s.length<sz)(q:Q (.g<|(cR s).map .d) H):aR prog (N+1) 0 [.d s] Q E H:=
 ct (m:=[Y _,O,O,O]) V V (lD fN (cB _) λf a=>cv aL (fP (λt=>AE s f t.2.1 t.2.2) (λt=>H.ag f _) (CH s) _ (λn t h=>Vh b t h) s.length ([],0,O)
  (bW (cy _) V (bN _)) λt c=>tC V (Hp.t _ _ _) (Hp.ah a _) a (U (c)<|q)))
end
def AY s:iq (cR s)=s:=by
 induction s with
 |nil=>rfl
 |cons c r i=>
  unfold cR;by_cases a:c=10;·refine U (if_pos a)<|(?_:c::iq _=_);exact U i V
  ·refine U (if_neg a) ?_;cases h:cR r with
   |nil=>rw[h]at i;refine aP i ?_;rfl
   |cons p t=>rw[h]at i;exact congrArg _ i
def JE:kL<|l++[10]:=by
 have e:eF (l++[10]).length (-1)=l.length:=by unfold eF;refine U (if_neg<|by decide)<|U bZ ?_;exact cN<|cA [_,_] [] af aG [.e 1 af<|.a (.n<|-1)<|.c<|.a aZ<|.n 1] V<|g7<|b9 λz=>aJ [_] [] [.l 1 (.a (.a (.n<|-1)<|.c<|.a bo<|.n 1) aM) bJ] V z
 refine decide_eq_true ?_;show((l++[10]).take (l++[10]).length).drop (eF (l++[10]).length<|-1)=[10];exact U e<|U il<|U List.drop_left V
def Zo(h:kL l):∃p,l=p++[10]:=by have h:((l.take l.length).drop<|eF l.length<|-1)=[10]:=of_decide_eq_true h;rw[il]at h;exact⟨l.take _,by exact aP h<|U (oV _ _) V⟩
noncomputable def VL(a:List bH):Prop:=∀i l,a[i]? =Y l->kL l\/i+1=a.length
def VL.c(h:VL ls)(e:kL l\/ls=[]):VL<|l::ls:=λi x a=>by
 induction i using Nat.casesAuxOn with
 |zero=>(have a:=bz a;subst a);exact e.imp_right λk=>by refine U k ?_;rfl
 |succ i=>exact(h i x a).imp_right<|congrArg _
def G8 s:VL<|cR s:=by
 induction s with
 |nil=>exact λi l h=>by rw[show cR []=[]from V,Dy]at h;exact aS h
 |cons c r f=>
  unfold cR;by_cases d:c=10;·refine U (if_pos d)<|U d ?_;exact f.c<|.inl<|JE (l:=[])
  ·refine U (if_neg d) ?_;cases h:cR r with
   |nil=>
    intro i l h;induction i using Nat.casesAuxOn with
    |zero=>exact .inr V
    |succ i=>exact aS h
   |cons p t=>
    intro i l a;induction i using Nat.casesAuxOn with
    |zero=>
     (have a:=bz a;subst a)
     exact((h▸f) 0 p V).imp (λe=>by(refine aF (Zo e) λq b=>?_;subst b);exact JE (l:=c::q)) λe=>e
    |succ i=>exact(h▸f) _ l a
section
variable {r:List fz}{x:fz}{i n k:Nat}
def xn(h:r[0]? =Y x):dH r=x.1.j:=by induction r using List.casesOn with
 |nil=>exact aS h
 |cons y r=>(have h:=bz h;subst h);rfl
def AA(h:r[r.length-1]? =Y x):c5 r=x.1.j:=by refine xn ?_;refine U (List.getElem?_reverse<|cH (cB _)<|(et.mp h).1)<|U (De _) ?_;exact h
def wL(h:i<r.length):∃x,r[i]? =Y x:=⟨_,hU h⟩
section
variable {F:cF}{H:Hp}{h:Hk}{N:Nat}{E Q:VK}
noncomputable def qe(h:Hk)(o a:Option AV):ba:=[Y<|dz h,o,a]
def te(e:m[0]? =Y (Y<|dz h)):ae ⟨F,m,[],H⟩ (.g 4 4<|.d 0)<|.g<|h.2.1.map cV:=ew (J e) V
def zm{x}(a:ae g x<|.g<|r.map cV)(h:ae g y<|.c i)(e:r[i]? =Y w):ae g (.h .a (.l (.l x y)<|.e<|.c 0)<|.e<|.d [32])<|.e w.1.j:=
 dp (mI (qV (pq cV a h e) aL V) aL) (U (Sg.q _) V)
def aah t(c:t+n=h.2.1.length/\∀i x,i<t->h.2.1[i]? =Y x->x.1.j=true):
  gd F Hw Ib (λt:Nat=>qe h (Y<|.c t) o2) (λ_=>H) (λn t=>t+n=h.2.1.length/\∀i x,i<t->h.2.1[i]? =Y x->x.1.j=true) (λt=>(∀i x,i<t->h.2.1[i]? =Y x->x.1.j=true)/\∀x,h.2.1[t]? =Y x->x.1.j=false) n t:=by
 have v:=e6 (J (g:=⟨F,qe h (Y<|.c t) o2,[],H⟩) (i:=1) V)<|gj cV<|te V;by_cases b:t<h.2.1.length
 ·refine aF (wL b) λx m=>(cq _ (d4 v λ_=>zm (te V) J m) (λe K k=>?_) λe=>⟨c.2,λy a=>?_⟩)
  ·refine aF (vm b) λd f=>iN V aL (bO (k d (t+1) ((ll (c.1.trans f):n=d+1)▸ec d) ⟨(cG t 1 d).trans f.symm,λi y j a=>by
    refine bq (mf.mp j) (λl=>?_) λl=>?_;·exact c.2 i y l a
    ·rw[l,m]at a;(have a:=bz a;subst a);exact(ef.mp e).2⟩))
  ·rw[m]at a;(have a:=bz a;subst a);rw[decide_eq_true b]at e;exact e
 ·exact(cq _ (d4 v λe=>absurd (of_decide_eq_true e) b) (λe=>(by rw[sY]at e;exact aV e)) λ_=>⟨c.2,λy a=>absurd (et.mp a).1 b⟩)
def aag t(d:a+t+n=h.2.1.length/\(0<t->c5 h.2.1=true)):
  gd F Hv Ia (λt:Nat=>qe h (Y<|.c a)<|Y<|.c t) (λ_=>H) (λn t=>a+t+n=h.2.1.length/\(0<t->c5 h.2.1=true)) (λt=>(0<t->c5 h.2.1=true)/\(t=0->a<h.2.1.length->c5 h.2.1=false)) n t:=by
 have v:=e6 (J (g:=⟨F,qe h _<|Y<|.c t,[],H⟩) (i:=2) V)<|zd (mu:=false) (gj cV<|te V) (J (i:=1) V)<|d.1▸aE (bj _ _) (bj _ _);by_cases c:t<h.2.1.length-a
 ·have b:=bX c (eE _ _);refine aF (wL (cH (eE _ _) (l9 (ft b) kZ):h.2.1.length-1-t<h.2.1.length)) λx o=>?_;refine(cq _ (d4 v λ_=>zm (te V) (zd (ip (gj cV<|te V)<|ft b) J<|vk b) o) (λe K m=>?_) λe=>⟨d.2,λj _=>?_⟩)
  ·refine aF (vm<|yC c) λf k=>iN V aL (bO<|m f _ ((ll (d.1.trans k):n=f+1)▸ec f) ⟨(cG (a+t) 1 f).trans k.symm,λ_=>?_⟩);refine bq (nH t) (λz=>?_) λz=>?_;·rw[z,De]at o;exact U (AA o)<|(ef.mp e).2
   ·exact d.2 z
  ·rw[j,De]at o;refine U (AA o) ?_;rw[decide_eq_true c]at e;exact e
 ·exact(cq _ (d4 v λe=>absurd (of_decide_eq_true e) c) (λe=>(by rw[sY]at e;exact aV e)) λ_=>⟨d.2,λj l=>absurd (yu l)<|by rw[j]at c;exact c⟩)
def aaf(f:∃x∈h.2.1,x.1.j=false)(q:∀a b:Nat,(a=0↔dH h.2.1=false)->(b=0↔c5 h.2.1=false)->Q (.l [.c a,.c b]) H):aR prog (N+1) 32 [dz h] Q E H:=by
 refine ct (m:=qe h O O) V V<|cv aL<|fP (λt:Nat=>qe h (Y _) O) (λ_=>H) _ _ (λn t h=>aah t h) h.2.1.length 0 ⟨cy _,λi x s=>(lh _ s).elim⟩ λa d=>?_;refine aH f λw f u=>?_;refine aF (List.getElem?_of_mem f) λj r=>?_;have g:=qH.mp λl=>by have:=d.1 j w (bX (et.mp r).1 l) r;rw[u]at this;exact aV this
 refine aF (wL<|ft g) λk c=>?_;refine cv aL<|fP (λt=>qe h (Y _) _) (λ_=>H) _ _ (λn t h=>aag t h) _ 0 ⟨eT<|cI g,λh=>(dk _ h).elim⟩ λb o=>cQ (cO<|bB J J)<|cD (.h _)<|q a b ⟨λe=>?_,λe=>?_⟩ ⟨λe=>o.2 e g,λe=>?_⟩;·rw[e]at d;exact U (xn c)<|d.2 k c
 ·rw[xn c]at e;exact yA λp=>by have:=d.1 0 k p c;rw[e]at this;exact aV this
 ·exact yA λp=>by have:=o.1 p;rw[e]at this;exact aV this
def Rf(d:m[i]? =Y (Y<|.f a))(b:H a=Y (.b l))(c:cP.aq H)(h:cP a=O)(q:Q (.g l) cP):aK F (.f (.z<|.d i)::rs) m (e9 P<|e7 Q E) H:=
 (tC (r:=rs) d b c h q:aK F (.f (.z<|.d i)::rs) m (e7 Q E) H)
noncomputable def N7(f e:Bool):AV:=.l [.c 0,.c 0,.l [.e f,.e e]]
def N8(g:WH h)(q:Q (.g [N7 (fF h)<|fE h]) H):aR prog (N+2) 40 [dz h,.k] Q E H:=by
 refine ct (m:=[Y _,Y .k,O,O,O,O]) V V<|tB λA B t=>eZ J V fN<|aaf g.n λa b k j=>t _ _ _ ?_;have r:ae ⟨aR prog<|N+1,[Y<|dz h,Y .k,Y _,Y<|.c b,O,O],[],H⟩ (.h .a (.d 2)<|.e<|.c 0)<|.e<|decide (a=0):=gu J aL;have v:ae ⟨aR prog<|N+1,[Y<|dz h,Y .k,Y<|.c a,Y _,O,O],[],H⟩ (.h .a (.d 3)<|.e<|.c 0)<|.e<|decide (b=0):=gu J aL;have w:decide (a=0)=!dH h.2.1:=by cases c:dH h.2.1 with
  |true=>exact decide_eq_false λe=>by rw[k.mp e]at c;exact aV c
  |false=>exact decide_eq_true<|k.mpr c
 have u:decide (b=0)=!c5 h.2.1:=by cases c:c5 h.2.1 with
  |true=>exact decide_eq_false λe=>by rw[j.mp e]at c;exact aV c
  |false=>exact decide_eq_true<|j.mpr c
 rw[w]at r;rw[u]at v;refine cg (d4 r λ_=>v) (λe=>?_) λe=>bT ?_
 ·have e:=ef.mp e;unfold fF fE at q;rw[(by exact aP (vV _)<|e.1:dH h.2.1=false),(aP (vV _)<|e.2:c5 h.2.1=false)]at q;exact cQ (tf (cJ<|cO<|bt aL<|bB aL<|cO<|bB aL aL)<|by refine(?_:1<=sz);decide)<|gP<|cD (.h _) q
 ·have i:(dH h.2.1||c5 h.2.1)=true:=by
   cases y:dH h.2.1 with
   |true=>rfl
   |false=>cases x:c5 h.2.1 with
    |true=>rfl
    |false=>rw[y,x]at e;exact aV e
  have s:ae ⟨aR prog<|N+1,[Y<|dz h,Y .k,Y<|.c a,Y<|.c b,O,O],[],H⟩ (.h .j (.g 4 0<|.d 0)<|.e<|.c 1)<|.e<|decide (h.1.1<=1):=Ek (b:=1) (ew J V) aL;have z:decide (h.1.1<=1)=fF h:=by unfold fF;refine U i<|U (vT _) ?_;exact decide_eq_decide.mpr ⟨λl=>dB l (g.f i).1,λl=>bb l⟩
  rw[z]at s;rw[(by unfold fE;exact U i (U (vT _) V):(!c5 h.2.1)=fE h)]at v;refine lD (cJ<|cO<|bt aL<|bB aL<|cO<|bB s v) (by refine(?_:1<=sz);decide) λf d=>cg (p:=true) (pw (o:=O) J) (λ_=>?_) λh=>aV h;exact Rf V (Hp.t _ _ _) (Hp.ah d _) d q
end
end
noncomputable def lw(o:List bH):Nat:=(o.map λl=>l.length+1).sum
def rB:lw (a++b)=lw a+lw b:=by unfold lw;exact U cz<|U Dj V
def nX:a.length<=lw a:=by
 induction a with
 |nil=>exact bN _
 |cons l a i=>refine(?_:a.length+1<=l.length+1+lw a);exact U (fh _ _)<|ed (cW _ _) i
def GW:(iq a).length<=lw a:=by
 induction a with
 |nil=>exact bN _
 |cons l a i=>refine(?_:(l++iq a).length<=l.length+1+lw a);exact U bZ<|ed (mg _) i
def rA:lw ((a.take p).drop d)<=lw a:=aE ((λb k=>by have:=rB (a:=b.take k) (b:=b.drop k);rw[oV]at this;refine U this<|cW _ _:∀b k,lw (b.drop k)<=lw b) _ _)<|(λb k=>by have:=rB (a:=b.take k) (b:=b.drop k);rw[oV]at this;exact U this<|bj _ _:∀b k,lw (b.take k)<=lw b) _ _
section
variable {g:Gm}{F:cF}{m m':ba}{K:FK}{H:Hp}{r b:List S}{x y z:X}{u v w:AV}{i j k l a d:Nat}{c e:AV}{l1 f:List AV}{o:List bH}
def Q8(h:ae ⟨F,m,[],H⟩ x v)(q:∀a,H a=O->aK F r ((((m.set i<|Y v).set j<|Y<|.f a).set k<|Y c).set l<|Y e) K (H.ag a<|.b [])):aK F (.d (.d [i,j,k,l]) (.q [x,.m true [],.e c,.e e])::r) m K H:=
 h _ _ ⟨cB _,λa b=>q a b⟩
def Rh(h:ae ⟨F,m,[],H⟩ x<|.c n)(q:K (.b<|.n C [.c n]) m Hp.aw):aK F (.n C x::r) m (e9 P K) H:=h _ _ q
def Rn(h:ae ⟨F,m,[],H⟩ x<|.g [v])(a:gn m t un v=Y m')(q:∀S,(∀m H,aK F r m K H->S .a m H)->(∀m H,aK F r m K H->S .d m H)->aK F b m' S H):aK F (.j t un .a [x] b::r) m K H:=
 h _ _ ⟨V,by exact U a<|q _ (λm H h=>⟨V,h⟩) λm H h=>h⟩
def tD(b:ae ⟨F,m,[],H⟩ y<|.f a)(e:ae ⟨F,m,[],H⟩ x v)(h:H a=Y (.b l1))(d:cf H v=Y f)(n:v≠.f a)(c:l1.length+f.length<=sz)(q:aK F r m K<|H.ag a<|.b<|l1++f):aK F (.e (.r .c [y,x])::r) m K H:=
 b _ _ ⟨gc a _ V h,e _ _<|w6 a v _ _ V h d n c q⟩
def zo(h:ae g x<|.g<|o.map .d)(z:(iq o).length<=sz):ae g (.r .j [.e<|.d [],x])<|.d<|iq o:=λE Q q=>⟨⟨[],V⟩,h E _ ⟨_,_,o,V,V,B9 o,z,q⟩⟩
def OD(h:ae g x<|.f a)(o:g.H a=Y (.b l1))(k:ae g y<|.g f)(z:(l1++f).length<=sz):ae g (.j .a false x y)<|.g<|l1++f:=λE Q q=>h E _<|k E _<|xV (dT o) V ⟨z,q⟩
def PS(l:List α)(h:n<=l.length):eV l (Y n) O=l.drop n:=by refine(?_:mw (eF l.length n) (nI l.length l)=_);unfold eF;exact U il<|U (if_pos<|f9 n)<|U (pa _)<|U (fB h) V
def Er{α:Type}{f}{o:List α}{n:Nat}(h:ae g x<|.g<|o.map f)(a:ae g y<|.c n)(k:n<=o.length):ae g (.w x y<|.e .k)<|.g<|(o.drop n).map f:=λE Q q=>h E _ (a E _ (by refine ou V V V (?_:Q _ g.H);refine U (PS _ (U (bx _)<|k)) (aP Dv ?_);exact q))
end
section
variable {s:List UInt8}{L:List bH}{n:Option Nat}{W:List Hk}{H:Hp}{E Q:VK}{N f:Nat}
structure lX(L:List bH)(W:List Hk):Prop where
 w:∀h∈W,WH h/\lw (cU h.2.1)<=500/\h.2.1.length<=500
 n:W.length<=60
 l:L.length<=60/\lw L<=500
noncomputable def uI(s:List UInt8)(W:List Hk)(n:Option Nat)(L:List bH)(f d:Nat)(l:Int)(i h c b e g a o:Option AV):ba:=[Y<|.d s,Y<|.g<|W.map dz,Y<|fu n,Y .k,Y<|.g<|L.map .d,Y<|.f f,Y<|.c d,Y<|.c l,i,h,c,b,e,g,a,o]
noncomputable def nk(L:List bH)(n:Option Nat)(W p q:List Hk)(d:Nat)(l:Int)(X:List bH):Prop:=(∀v,Ap L n q p.length d l X v->Ap L n W 0 0 0 [] v)/\d<=L.length/\l.natAbs<=120/\lw X<=1000*p.length
def EN(m:WH h):(gx h).natAbs<=60:=by
 have:=m.z;unfold gx;by_cases k:0<h.1.2.1;·exact U (if_pos k)<|b8 λf=>ow _ (λi d=>aJ [_,_] [] [.l 1 af<|.c<|.n 60,.l 1 (.c<|.a (.n 60) aX) aG,.e 1 aG<|.s af aM] V (nl this) f d) λi d=>aJ [_,_] [] [.l 1 (.c<|.a (.n 60) aX) aG,.e 1 aG<|.g<|.s af aM] V f d
 ·exact U (if_neg k)<|b8 λf=>aJ [_,_] [] [.l 1 af<|.c<|.n 60,.l 1 (.c<|.a (.n 60) aX) aG,.e 1 aG af] V (nl this) f<|iI<|b9 (b:=↑h.fst.fst) λj=>aJ [_] [] [.l 1 (.a af aM) bJ] V j
def Tv{a b:Int}(h:a.natAbs<=60)(k:b.natAbs<=120):(a+b).natAbs<=200:=b8 λf=>ow _ (λd z=>aJ [_,_,_] [_,_] [.l 1 af<|.c<|.n 60,.l 1 aG<|.c<|.n 120,.l 1 (.c<|.a (.n 200) aX) bf,.l 1 aI af,.l 1 bS aG,.e 1 bf<|.a aI bS] V (nl h) (nl k) f (fJ<|a) (fJ<|b) z) λd z=>aJ [_,_,_] [_,_] [.l 1 af<|.c<|.n 60,.l 1 aG<|.c<|.n 120,.l 1 (.c<|.a (.n 200) aX) bf,.l 1 (.g aI) af,.l 1 (.g bS) aG,.e 1 bf<|.g<|.a aI bS] V (nl h) (nl k) f (fK<|a) (fK<|b) z
def SW{p:Nat}{a:Int}(h:a.natAbs<=60)(k:p<=60):((p:Int)-a).natAbs<=120:=b8 λd=>ow _ (λb z=>aJ [_,_,_] [_] [.l 1 af<|.c<|.n 60,.l 1 aG<|.c<|.n 60,.l 1 (.c<|.a (.n 120) aX) bf,.l 1 (.g aI) af,.e 1 bf<|.s aG aI] V (nl h) (nl k) d (fK<|a) z) λb z=>aJ [_,_,_] [_] [.l 1 af<|.c<|.n 60,.l 1 (.c<|.a (.n 120) aX) bf,.l 1 aI af,.e 1 bf<|.g<|.s aG aI] V (nl h) d (fJ<|a) z
end
section
variable {s:List UInt8}{L X:List bH}{n:Option Nat}{W p q:List Hk}{h:Hk}{H:Hp}{E Q:VK}{N f d:Nat}{l:Int}{K S:FK}
def nk.t(f:nk L n W p (h::q) d l X)(j:WH h)(e:L.length<=60/\lw L<=500)(i:lw (cU h.2.1)<=500)(b:Bs (iA L (ck h.2.1) (cU h.2.1) (fF h) (fE h) d (gx h+l) n) (gx h+l)<|Y r):
  nk L n W (p++[h]) q (r+(ck h.2.1).length) (r-gx h) (X++(L.take r).drop d++cU h.2.1):=by
 have c:(p++[h]).length=p.length+1:=by refine U bZ ?_;rfl
 refine e8 (λv g=>f.1 v<|aO _ b<|by rw[c]at g;exact g) b.1.p.a.2 (SW (EN j)<|aE (aE (bj _ _) b.1.p.a.2) e.1) ?_;refine U c<|U rB<|U rB<|U (LX _ _) ?_;exact aE (ed (ed f.2.2.2<|aE rA e.2) i)<|U (bY _ _ _)<|bN _
def acI(A:lX L W)(e:W=p++h::q)(F:nk L n W p (h::q) d l X)
  (j:∀k,Ap L n W 0 0 0 [] (.c k)->∀m,K (.b<|.n 7 [.c k]) m Hp.aw)
  (M:∀G c y z x D B t i,nk L n W (p++[h]) q G c y->K .a (uI s W n L f G c (Y<|.c p.length) (Y<|dz h) z x D B t i) (H.ag f<|.b<|y.map .d)):
  aK (aR prog<|N+3) AQ (uI s W n L f d l (Y<|.c p.length) (Y<|dz h) z x D B t i) K (H.ag f<|.b<|X.map .d):=by
 have u:=A.w h<|e▸gI _ (gZ ..);have w:60<=sz:=by decide
 refine cv aL<|Rn (m':=uI s W n L f d l _ _ _ (Y _) (Y _) (Y<|.l [.e _,.e _]) t i) (px (bB J J) λE Q q=>N8 u.1 q) V λS P I=>?_;have g:∀r,Bs _ _ r->aK (aR prog<|N+3) (AQ.drop 2) (uI s W n L f d l _ _ (Y _) _ (Y<|.c 0) (Y<|.l [.e<|fF h,.e<|fE h]) (Y<|jL _ _)<|Y<|.c<|gx h+l) K (H.ag f _):=λr b=>by
  induction r using Option.casesOn with
  |none=>exact cg (p:=true) (pw (o:=O) J) (λ_=>Rh J<|j p.length (F.1 _<|aO O b V) _) λh=>aV h
  |some r=>
   have l1:(X.map AV.d).length+(((L.take r).drop d).map AV.d).length<=60500:=by refine U (bx _)<|U (bx _) ?_;exact ed (aE nX<|aE F.2.2.2<|j5 1000<|aE (by refine U e<|U bZ ?_;exact bj _ _) A.n)<|aE nX<|aE rA A.l.2
   refine cg (p:=false) (pw (o:=Y r) J) (λh=>aV h) λ_=>bT ?_;refine tD J (rf J J J b.1.p.a.1<|aE (bj _ _) b.1.p.a.2) (Hp.t _ _ _) V (λh=>bc.AV.noConfusion h) (aE l1<|by decide) ?_;refine U (Hp.ak _ _ _ _)<|aP cz ?_;refine tD J (ew J V) (Hp.t _ _ _) V (λh=>bc.AV.noConfusion h) ?_ ?_
   ·refine U (bx _) (U (bx _)<|U bZ ?_);rw[bx,bx]at l1;exact aE (ed l1<|aE nX u.2.1)<|by decide
   refine U (Hp.ak _ _ _ _)<|aP cz ?_;exact cv (eI J<|gj AV.d<|ew J V)<|cv (ez (c3 (c3 J<|iK J V fN λE Q q=>II q) J)<|DM _)<|bO<|M _ _ _ _ _ _ _ _ _<|F.t u.1 A.l u.2.1 b
 refine jD (cO<|bB (qY (bt J<|bB J J) λa R E Q _ q=>V5 (N:=N+1) (aE u.2.2<|by decide) q)<|ez (eA (eA (iK J V fN λE Q q=>II q) J) J)<|congrArg (·+l)<|ka<|gx h) ?_;refine fQ λT=>dP (bt J<|bt J<|bt J<|bt J<|bB J J)<|Wb (λk=>?_) ⟨A.l.1,Tv (EN u.1) F.2.2.1⟩ λr b=>?_
 ·refine(u.1.f ?_).2;unfold fF fE at k;cases v:(dH h.2.1||c5 h.2.1)with
  |true=>rfl
  |false=>rw[v]at k;exact aV k
 ·exact cg (th J) (λ_=>I _ _<|g r b) λ_=>bT<|bO<|P _ _<|g r b
def KQ(A:lX L W)(I:cR s=L)(C:s.length<sz)(a0:∀b,Ap L n W 0 0 0 [] (.d b)->Q (.d b) H)(Z:∀k,Ap L n W 0 0 0 [] (.c k)->E (.n 7 [.c k]) Hp.aw)(M:m=[Y<|.d s,Y<|.g<|W.map dz,Y<|fu n,Y .k,O,O,O,O,O,O,O,O,O,O,O,O]):
  aK (aR prog<|N+3) KM m (e7 Q E) H:=by
 refine U M ?_;refine Q8 (px (cJ J) λE Q q=>AG C<|U I<|q) λf G=>?_;refine wG dz J V (λt:(Nat×Int×List bH)×Option AV×Option AV×Option AV×Option AV×Option AV×Option AV×Option AV×Option AV=>uI s W n L f t.1.1 t.1.2.1 t.2.1 t.2.2.1 t.2.2.2.1 t.2.2.2.2.1 t.2.2.2.2.2.1 t.2.2.2.2.2.2.1 t.2.2.2.2.2.2.2.1 t.2.2.2.2.2.2.2.2) (λ_ t=>H.ag f<|.b<|t.1.2.2.map .d) (λp q t=>nk L n W p q t.1.1 t.1.2.1 t.1.2.2) ((0,0,[]),O,O,O,O,O,O,O,O) V V (e8 (λv h=>h) (cB _) (cB _)<|cB _) (λ_ _ _ _=>V)
  (λp c r t e i S j R T=>acI A e i (λk P m=>T _ _ _<|Z k P) λK g y z x D B u w h=>j ((K,g,y),_,_,z,x,D,B,u,w) h) λt i=>?_
 obtain⟨⟨d,l,X⟩,o⟩:=t;have F:lw (X++L.drop d)<=60500:=by refine U rB<|ed (aE i.2.2.2<|j5 1000 A.n)<|aE (by have:=rA (a:=L) (p:=L.length) (d:=d);rw[il]at this;exact this) A.l.2
 refine cQ (zo (by refine U cz ?_;refine OD J (Hp.t _ _ _) (Er J J i.2.1) ?_;refine aP cz (U (bx _) ?_);exact aE nX (aE F (by decide))) (aE GW (aE F (by decide)))) (cD (Hp.ah G _) (a0 _ (i.1 _ V)))
end
structure jX(S:List Nat)(C:Nat->Prop):Prop where
 a:S.Pairwise (·<·)
 b:∀a,a∈S↔C a
 l:S.length<=200
def jX.d{S}{D:Nat->Prop}(h:jX S C)(c:∀a,C a->(p a=true↔D a)):jX (S.filter p) λa=>C a/\D a:=
 ⟨h.a.filter p,λa=>Du.trans ⟨λk=>⟨(h.b a).mp k.1,(c a<|(h.b a).mp k.1).mp k.2⟩,λk=>⟨(h.b a).mpr k.1,(c a k.1).mpr k.2⟩⟩,aE (vD _ _) h.l⟩
def jX.e{S:List Nat}{C D:Nat->Prop}(h:jX S C)(c:∀a,C a↔D a):jX S D:=⟨h.a,λa=>(h.b a).trans<|c a,h.l⟩
noncomputable def m8(v:AV):ba:=[Y v,O,O,O,O,O,O,O]
section
variable {F:cF}{K:FK}{H:Hp}{r:List bc.S}{x l:X}{c:Bool}{S:List Nat}{C D:Nat->Prop}{p:Nat->Bool}
def pI(L:List Nat->ba)(m:∀S,(L S)[7]? =Y (Y<|.g<|S.map ni))(f:∀S b,(L S).set 7 (Y<|.g<|b.map ni)=L b)(h:jX S C)
  (n:ae ⟨F,L S,[],H⟩ x<|.e c) (i:c=true->∀a∈S,ae ⟨F,L S,m8<|ni a,H⟩ l<|.e<|p a) (j:c=true->∀a,C a->(p a=true↔D a)) (g:c=false->∀a,C a->D a)
  (q:∀b,jX b (λa=>C a/\D a)->aK F r (L b) K H):aK F (.g x [.d (.b 7)<|.u (.s 0) [0] false .a [.d 7] [l]] []::r) (L S) K H:=by
 refine cg n (λe=>cv (rg ni p ni (J<|m S) V (aE h.l<|by decide) λa d=>(cq _ V (i e a d) λ_=>gv V)) ?_) λe=>bT<|q S<|h.e λa=>⟨λk=>⟨k,g e a k⟩,λk=>k.1⟩;exact U (f _ _)<|bT<|q _<|h.d<|j e
end
noncomputable def jf(L:List bH)(h:Hk)(m:Int)(b:Nat)(u:Option Nat)(v w x n:Option AV)(S:Option AV):ba:=[Y<|.g<|L.map .d,Y<|dz h,Y<|.g<|(ck h.2.1).map .d,Y<|.c m,Y<|.c b,Y<|fu u,v,S,w,x,n]
def Bs.i{p:List Nat}{m:Int}{f c:Nat}(h:Bs (·∈p) m<|Y f)(d:∀a∈p,a<c):
  ((c-m).natAbs<(f-m).natAbs\/c-m=m-f->Bs (·∈p++[c]) m (Y c))/\(¬((c-m).natAbs<(f-m).natAbs\/(c:Int)-m=m-f)->Bs (·∈p++[c]) m (Y f)):=by
 have e:=d f h.1;refine⟨λk=>⟨gI _<|dm.mpr V,λa b=>?_⟩,λk=>⟨nJ _ h.1,λa b=>?_⟩⟩
 ·refine bq (fM.mp b) (λb=>?_) λb=>?_;·exact bq k (λk=>.inl<|(h.2 a b).elim (λl=>gg k l) λl=>l.1▸k) λk=>U (U k (aP (DN _)<|U (Int.neg_sub _ _) V):(c-m).natAbs=(f-m).natAbs)<|(h.2 a b).imp_right λl=>⟨l.1,cI<|d a b⟩
  ·cases dm.mp b;exact .inr ⟨V,bN _⟩
 ·refine bq (fM.mp b) (λb=>?_) λb=>?_;·exact h.2 a b
  ·cases dm.mp b;exact .inl<|by omega
section
variable {L:List bH}{h:Hk}{m:Int}{b N:Nat}{u:Option Nat}{H:Hp}{E Q:VK}{F:cF}{K:FK}{v w x n:Option AV}{S:List Nat}{C:Nat->Prop}
def Sx(j:jX S C)(q:∀r,Bs C m r->Q (fu r) H):aK F (Cn.drop 9) (jf L h m b u v w x n<|Y<|.g<|S.map ni) (e7 Q E) H:=by
 refine cv aL<|mO ni (J V) V (λt:Option Nat×Option AV=>jf L h m b u v w (Y<|fu t.1) t.2<|Y _) (λ_ _=>H) (λp _ t=>Bs (·∈p) m t.1) (O,n) V V (λa i=>dM i) (λ_ _ _ _=>V) (λp c r t e d K g=>?_) λt d=>cQ (J V)<|cD (.h _)<|q t.1 ?_
 ·obtain⟨f,o⟩:=t;induction f using Option.casesOn with
  |none=>
   have l:=List.eq_nil_iff_forall_not_mem.mpr d;exact cg (mH (q:=false) (pw (o:=O)<|J V) λh=>aV h) (λ_=>cv (J V) (bT (bO (g (Y c,_) ⟨gI _<|dm.mpr V,λa i=>by rw[l]at i;cases dm.mp i;exact .inr ⟨V,bN _⟩⟩)))) λh=>aV h
  |some f=>
   have s:=Bs.i d λa i=>(sI.mp<|e▸j.a).2.2 a i c (gZ ..);refine cg (mH (pw (o:=Y f)<|J V) λ_=>gL (e6 (tj<|c3 (J V)<|J V)<|tj<|c3 (J V)<|J V) λ_=>i6 (c3 (J V)<|J V)<|c3 (J V)<|J V) (λe=>?_) λe=>bT<|bO<|g (Y f,Y<|ni c)<|s.2 ?_
   ·have e:(decide ((c-m).natAbs<(f-m).natAbs)||decide (c-m=m-f))=true:=e;exact cv (J V)<|bT<|bO<|g (Y c,Y<|ni c)<|s.1<|(vU.mp e).imp of_decide_eq_true of_decide_eq_true
   ·have e:(decide ((c-m).natAbs<(f-m).natAbs)||decide (c-m=m-f))=false:=e;have e:=qS.mp e;exact λk=>k.elim (of_decide_eq_false e.1)<|of_decide_eq_false e.2
 ·have d:=d;have:(·∈S)=C:=funext λa=>propext<|j.b a;rw[this]at d;exact d
end
def Sg.t(s:Sg):(!decide (s.b=[45]))=s.l:=by induction s using bc.Sg.casesOn<;>decide
def Sg.z(s:Sg):(!decide (s.b=[43]))=s.n:=by induction s using bc.Sg.casesOn<;>decide
def Sd{l:Nat}:∀n,(fm n l 1).map AV.c=((fV n).map (l+·)).map ni:=λn=>by
 refine sR λi=>?_;refine U gh<|U (wQ _ _ _)<|U gh<|U gh ?_;by_cases h:i<n;·refine U (if_pos h)<|U (Mq h) ?_;rfl
 ·refine U (if_neg h)<|U (mr<|U vC<|dj.mp h) ?_;rfl
def aai{α:Type}e f p(d:s H){l:List α}:∀{a}{Q},
  (∀c∈l,∀j,j (bif p c then Y<|f c else O) H->b (e c) j H)->Q (a++(l.filter p).map f) H->f3 s b (l.map e) a Q H:=by
 induction l with
 |nil=>exact λ_ q=>⟨d,by rw[Mt,List.map_nil,gJ]at q;exact q⟩
 |cons c l i=>
  intro a Q t q;refine⟨d,t c (gZ ..) _ ?_⟩;rw[vJ]at q;cases g:p c with
  |true=>
   rw[g]at q;refine i (λc h=>t c<|lq _ h) ?_;exact U (f7 _ _ _)<|q
  |false=>rw[g]at q;exact i (λc h=>t c<|lq _ h) q
def OC{F}{l:Nat}(j:eM ⟨F,m,mc,H⟩ args [.c l,.c h])(o:(h-l).toNat=n)(f:l<=sz/\h.natAbs<=sz)(z:n<=sz)
  (t:∀k,k<n->ae ⟨F,m,m8<|.c (l+k:Nat),H⟩ a (.e<|p<|l+k)):ae ⟨F,m,mc,H⟩ (.u (.s 0) [0] false .b args [a]) (.g<|(((fV n).map (l+·)).filter p).map ni):=λE Q q=>by
 refine j _ _ ?_;have e:dX .b H [.c l,.c h]=Y (((fV n).map (l+·)).map ni):=by refine(?_:(if(l:Int).natAbs<=sz/\h.natAbs<=sz then Y _ else O)=_);refine U (if_pos ⟨f.1,f.2⟩)<|aP (Sd _) ?_;unfold hZ;exact U (if_pos<|by decide)<|U (show(h-l+1-1)/1=h-l by exact U (DT _)<|U (qQ _ _) V)<|U o V
 refine U e ?_;refine aai ni ni p trivial (λc i s b=>?_) ⟨by
  refine U (vy _) (U (bx _) ?_);exact aE (vD _ _) (by refine U (bx _) (U vC ?_);exact z),q⟩
 (refine aH (iG.mp i) λk r d=>?_;subst d)
 refine t k (mj.mp r) _ _ ?_;cases g:p _ with
 |true=>rw[g]at b;exact b
 |false=>rw[g]at b;exact b
section
variable {L:List bH}{h:Hk}{g:Int}{o N:Nat}{s:Option Nat}{H:Hp}{E Q:VK}{F:cF}
def Ej(e:m[0]? =Y (Y<|.g<|L.map .d)):ae ⟨F,m,mc,H⟩ (.r .b [.d 0])<|.c L.length:=gj AV.d<|J e
def nR(e:mc[0]? =Y (Y<|ni a)):ae ⟨F,m,mc,H⟩ (.s 0)<|.c a:=gv e
def VC(hw:WH h)(a0:L.length<=60/\o<=60)(hr:h.2.1.length<=500)(q:∀r,Bs (iA L (ck h.2.1) (cU h.2.1) (fF h) (fE h) o g s) g r->Q (fu r) H):
  aR prog (N+1) 51 [.g<|L.map .d,dz h,.g<|(ck h.2.1).map .d,.c g,.c o,fu s] Q E H:=by
 refine aH hw.n λw a4 _=>?_;have l0:=Ml a4;refine aF (wL l0) λr0 a3=>?_;obtain⟨M,I⟩:∃x,h.2.1.getLast?=some x:=⟨_,yI<|List.ne_nil_of_length_pos l0⟩;have kl:c5 h.2.1=M.1.j:=AA<|by refine aP yJ ?_;exact I
 have a1:∀{m mc},m[1]? =Y (Y<|dz h)->ae ⟨aR prog N,m,mc,H⟩ (.g 4 4 _) _:=λe=>ew (J e) V;have G:∀{m mc},m[1]? =Y _->ae ⟨aR prog N,m,mc,H⟩ _ (.d M.1.b):=λe=>qV (n:=0) (l:=[.d M.1.b,.d M.2]) (wd (f:=cV) (a1 e) I) aL V;refine ct (m:=jf L h g o s O O O O O) V V<|cv (gL (dp (zm (a1 V) (aL (v:=.c 0)) a3)<|aP (xn a3) V) λ_=>dp (mI (G V) aL)<|U (Sg.q _)<|aP kl V) ?_;have A:∀k,k<((L.length:Int)-(ck h.2.1).length+1-o).toNat->o+k+(ck h.2.1).length<=L.length:=λk F=>b8 λj=>pB ((↑L.length:Int)-(↑(ck h.snd.fst).length:Int)+1-(↑o:Int)) (λi z=>aJ [_,_,_,_,_] [] [.l 1 (.c<|.a bK aX) dA,.l 1 (.c<|.a bo aX)<|.c<|.a (.a aZ bK) bA,.e 1 dA<|.s (.a (.s af bf) aM) aG] V (nl F) j z) λi z=>aJ [_,_] [] [.l 1 (.c<|.a bo aX) aG,.e 1 aG bJ] V (nl F) z;have C:∀{m mc},m[2]? =Y (Y<|.g<|(ck h.2.1).map .d)->ae ⟨aR prog N,m,mc,H⟩ (.r .b [.d 2]) (.c (ck h.2.1).length):=λe=>gj AV.d<|J e;refine cv (OC (p:=λa=>decide ((L.take<|a+(ck h.2.1).length).drop a=ck h.2.1)) (bB J<|eA (c3 (Ej V)<|C V) aL) V ⟨aE a0.2<|by decide,aE (m:=600) (b8 λj=>ow ((↑L.length:Int)-(↑(ck h.snd.fst).length:Int)+1) (λi z=>aJ [_,_,_] [] [.l 1 af<|.c<|.n 60,.l 1 (.c<|.a (.n 600) aX) bf,.e 1 bf<|.a (.s af aG) aM] V (nl a0.1) j z) λi z=>aJ [_,_,_] [] [.l 1 aG<|.c<|.n 500,.l 1 (.c<|.a (.n 600) aX) bf,.e 1 bf<|.g<|.a (.s af aG) aM] V (nl (by exact U (bx _)<|aE (vD _ _) hr:(ck h.2.1).length<=500)) j z)<|by decide⟩ (aE (m:=61) (b8 λj=>pB ((↑L.length:Int)-(↑(ck h.snd.fst).length:Int)+1-(↑o:Int)) (λi z=>aJ [_,_,_,_] [] [.l 1 af<|.c<|.n 60,.l 1 (.c<|.a (.n 61) aX) cM,.e 1 cM<|.s (.a (.s af bf) aM) aG] V (nl a0.1) j z) λi z=>aJ [_] [] [.l 1 (.c<|.a (.n 61) aX) af,.e 1 af bJ] V j z)<|by decide)
  λk F=>Oz (rf (n:=o+k+(ck h.2.1).length) J (nR V) (eI (nR V) (C V)) (bj _ _) (A k F)) J) ?_
 have g0:jX (((fV ((L.length:Int)-(ck h.2.1).length+1-o).toNat).map (o+·)).filter λa=>decide ((L.take<|a+(ck h.2.1).length).drop a=ck h.2.1)) λa=>(o<=a/\a+(ck h.2.1).length<=L.length)/\(L.take<|a+(ck h.2.1).length).drop a=ck h.2.1:=
  jX.d ⟨Dr.mpr<|List.pairwise_lt_range.imp λl=>dR l _,λa=>iG.trans ⟨λT=>aH T λk F e=>e▸⟨bj _ _,A k<|mj.mp F⟩,λk=>aO (a-o) (mj.mpr<|b8 λj=>aJ [_,_,_,_,_,_] [] [.l 1 (.c<|.a bK bA) af,.l 1 (.c<|.a dy aX)<|.c<|.a cX aX,.e 1 (.c<|.a cX aZ) cM,.l 1 (.s (.a (.s af bf) aM) aG) jS] V (nl k.2) j (nE<|cb k.1)<|vP<|(↑L.length)-(↑(ck h.snd.fst).length)+1-(↑o))<|eT k.1⟩,by refine U (bx _)<|U vC ?_;exact b8 λj=>pB ((↑L.length:Int)-(↑(ck h.snd.fst).length:Int)+1-(↑o:Int)) (λi z=>aJ [_,_,_,_] [] [.l 1 af<|.c<|.n 60,.l 1 (.c<|.a (.n 200) aX) cM,.e 1 cM<|.s (.a (.s af bf) aM) aG] V (nl a0.1) j z) λi z=>aJ [_] [] [.l 1 (.c<|.a (.n 200) aX) af,.e 1 af bJ] V j z⟩ λa _=>decide_eq_true_iff
 refine cv (dp (rg cV (λx=>x.1.l) (λx=>.d x.2) (a1 V) V (aE hr<|by decide) λc _=>(cq _ V (dp (qZ (gv V) aL)<|U (Sg.t _) V) λ_=>gv V)) (show _=AV.g ((cU h.2.1).map .d) by refine U lr ?_;rfl)) ?_;have B:∀S:List Nat,(jf L h g o s (Y<|.e<|dH h.2.1||c5 h.2.1) (Y<|.g<|(cU h.2.1).map .d) O O<|Y<|.g<|S.map ni)[7]? =Y (Y<|.g<|S.map ni):=λ_=>V;have K:∀{S}{a},ae ⟨aR prog N,jf L h g o s (Y<|.e<|dH h.2.1||c5 h.2.1) (Y<|.g<|(cU h.2.1).map .d) O O S,m8<|ni a,H⟩ (.h .a (.j .a false (.s 0)<|.r .b [.d 2])<|.r .b [.d 0])<|.e<|decide (a+(ck h.2.1).length=L.length):=gu (eI (nR V)<|C V)<|Ej V;have en:((cU h.2.1).map AV.d).isEmpty=true->cU h.2.1=[]:=λe=>by cases W:cU h.2.1 with
  |nil=>rfl
  |cons _ _=>rw[W]at e;exact aV e
 have r1:=λS'(g1:jX S' λa=>((o<=a/\a+(ck h.2.1).length<=L.length)/\(L.take<|a+(ck h.2.1).length).drop a=ck h.2.1)/\∀l,(cU h.2.1).getLast?=some l->kL l\/a+(ck h.2.1).length=L.length)=>
  show aK (aR prog N) (Cn.drop 4) (jf L h g o s (Y<|.e<|dH h.2.1||c5 h.2.1) (Y<|.g<|(cU h.2.1).map .d) O O<|Y<|.g<|S'.map ni) (e7 Q E) H from by
  refine pI (λS=>jf L h g o s (Y<|.e<|dH h.2.1||c5 h.2.1) (Y<|.g<|(cU h.2.1).map .d) O O<|Y<|.g<|S.map ni) B (λ_ _=>V) g1 (iJ J V) (p:=λa=>decide (a=0)||xF (L.getD (a-1) [])) (D:=λa=>cU h.2.1=[]\/a=0\/∃l,L[a-1]? =Y l/\kL l) (λe a u=>?_) (λe a u=>?_) (λe a _=>.inl<|en<|by rw[vW]at e;exact e) λS2 g2=>?_
  ·refine gL (gu (b:=0) (nR V) aL) λk=>mI (v8<|pq AV.d J (ip (nR V)<|kY<|of_decide_eq_false k)<|jM (d:=[]) ?_) aL;have:=((g1.b a).mp u).1.1.2;exact bX (l9 (kY<|of_decide_eq_false k) kZ)<|aE (bj _ _) this
  ·refine U (propext vU) (U (propext decide_eq_true_iff) ?_);refine⟨λk=>.inr ?_,λk=>(k.resolve_left λk=>by rw[k]at e;exact aV e).imp_right λT=>aH T λl a2 R=>?_⟩
   ·by_cases X:a=0;·exact .inl X
    ·exact .inr ⟨_,jM (d:=[])<|bX (l9 (kY X) kZ)<|aE (bj _ _) u.1.1.2,k.resolve_left X⟩
   ·refine U j9<|U a2 ?_;exact R
  refine pI (λS=>jf L h g o s (Y<|.e<|dH h.2.1||c5 h.2.1) (Y<|.g<|(cU h.2.1).map .d) O O<|Y<|.g<|S.map ni) B (λ_ _=>V) g2 (ti J V) (p:=λa=>decide (a=g)) (D:=λa=>ck h.2.1=[]->a=g) (λe a u=>i6 (nR V) J) (λe a _=>?_) (λe a _ k=>by rw[k]at e;exact aV e) λS3 g3=>?_
  ·have on:ck h.2.1=[]:=by cases ho:ck h.2.1 with
    |nil=>rfl
    |cons _ _=>rw[ho]at e;exact aV e
   exact U (propext decide_eq_true_iff)<|⟨λk _=>k,λk=>k on⟩
  refine pI (λS=>jf L h g o s (Y<|.e<|dH h.2.1||c5 h.2.1) (Y<|.g<|(cU h.2.1).map .d) O O<|Y<|.g<|S.map ni) B (λ_ _=>V) g3 (d4 J λ_=>gu (b:=1) (ew J V) aL) (p:=λa=>decide (a=0)) (D:=λa=>fF h=true->a=0) (λe a u=>gu (b:=0) (nR V) aL) (λe a _=>by refine U (propext decide_eq_true_iff)<|⟨λk _=>k,λk=>k e⟩) (λe a _ k=>by rw[show((dH h.2.1||c5 h.2.1)&&decide (h.1.1=1))=fF h from V,k]at e;exact aV e) λS4 g4=>?_;refine pI (λS=>jf L h g o s (Y<|.e<|dH h.2.1||c5 h.2.1) (Y<|.g<|(cU h.2.1).map .d) O O<|Y<|.g<|S.map ni) B (λ_ _=>V) g4 (d4 J λ_=>dp (qZ (G V) aL)<|U (Sg.q _)<|aP kl V) (p:=λa=>decide (a+(ck h.2.1).length=L.length)) (D:=λa=>fE h=true->a+(ck h.2.1).length=L.length) (λe a u=>K) (λe a _=>by refine U (propext decide_eq_true_iff)<|⟨λk _=>k,λk=>k e⟩) (λe a _ k=>by rw[show((dH h.2.1||c5 h.2.1)&&!c5 h.2.1)=fE h from V,k]at e;exact aV e) λS5 g5=>?_;refine pI (λS=>jf L h g o s (Y<|.e<|dH h.2.1||c5 h.2.1) (Y<|.g<|(cU h.2.1).map .d) O O<|Y<|.g<|S.map ni) B (λ_ _=>V) g5 (th J) (p:=λa=>decide ((a-g).natAbs<=s.getD 0)) (D:=λa=>∀x,s=Y x->(a-g).natAbs<=x) (λe a u=>?_) (λe a _=>?_) (λe a _ x k=>by rw[k]at e;exact aV e) λS6 g6=>?_
  ·cases P:s with
   |none=>rw[P]at e;exact aV e
   |some x=>exact Ek (tj<|c3 (nR V) J) J
  ·cases P:s with
   |none=>rw[P]at e;exact aV e
   |some x=>refine U (propext decide_eq_true_iff)<|⟨λk y Z=>by(have Z:=bz Z;subst Z);exact k,λk=>k x V⟩
  exact Sx (g6.e λa=>⟨λ⟨⟨⟨⟨⟨⟨⟨a2,R⟩,k3⟩,k4⟩,k5⟩,k6⟩,k7⟩,k8⟩=>⟨⟨a2,R,k3,k4⟩,k5,k6,k7,k8⟩,λk=>⟨⟨⟨⟨⟨⟨⟨k.p.a,k.p.b⟩,k.p.c⟩,k.p.d⟩,k.o⟩,k.f⟩,k.e⟩,k.m⟩⟩) q
 cases t:(cU h.2.1).getLast? with
 |none=>
  refine pI (λS=>jf L h g o s (Y<|.e<|dH h.2.1||c5 h.2.1) (Y<|.g<|(cU h.2.1).map .d) O O<|Y<|.g<|S.map ni) B (λ_ _=>V) g0 (c:=false) (dp (d4 (q:=false) (iJ J V) λk=>by rw[AR t]at k;exact aV k)<|by refine U (AR t) ?_;rfl) (p:=λa=>decide (a+(ck h.2.1).length=L.length)) (λe=>aV e) (λe=>aV e) (λ_ a _ l k=>by rw[t]at k;exact aS k) r1
 |some l=>
  have ne:((cU h.2.1).map AV.d).isEmpty=false:=by cases W:cU h.2.1 with
   |nil=>rw[W]at t;exact aS t
   |cons _ _=>rfl
  refine pI (λS=>jf L h g o s (Y<|.e<|dH h.2.1||c5 h.2.1) (Y<|.g<|(cU h.2.1).map .d) O O<|Y<|.g<|S.map ni) B (λ_ _=>V) g0 (c:=!xF l) (dp (d4 (iJ J V) λ_=>qZ (v8<|wd (f:=AV.d) J t) aL)<|by refine U ne ?_;rfl) (p:=λa=>decide (a+(ck h.2.1).length=L.length)) (λe a u=>K) (λe a _=>?_) (λe a _ l' k=>?_) r1;·refine U (propext decide_eq_true_iff)<|⟨λk l' _=>.inr k,λk=>(k l t).resolve_left λk'=>by rw[k']at e;exact aV e⟩
  ·rw[t]at k;(have k:=bz k;subst k);rw[vW]at e;exact .inl e
end
section
variable {L n:List bH}{M:Option Nat}{l p q:List Hk}{h:Hk}{H:Hp}{E Q:VK}{N d:Nat}{I:Int}{K:FK}{s:List UInt8}
noncomputable def AS(L:List bH)(l:List Hk)(M:Option Nat)(d:Nat)(I:Int)(n:List bH)(b e c a o:Option AV):ba:=[Y<|.g<|L.map .d,Y<|.g<|l.map dz,Y<|fu M,Y<|.g<|n.map .d,Y<|.c d,Y<|.c I,b,e,c,a,o]
def EO(a:WH h):gx h=if ck h.2.1=[]then(h.1.1:Int)else h.1.1-1:=by
 unfold gx;refine U a.m ?_;by_cases k:ck h.2.1=[];·refine U (if_pos k)<|U k ?_;exact if_neg<|dk 0
 ·exact U (if_neg k)<|U (if_pos<|qL.mpr k) V
def acK(i:lX L l)(e:l=p++h::q)(t:nk L M l p (h::q) d I n)
  (E:∀v,Ap L M l 0 0 0 [] v->∀m,K (.c v) m H)
  (F:∀A g s C z j,nk L M l (p++[h]) q A g s->K .a (AS L l M A g s (Y<|.c p.length) (Y<|dz h) C z j) H):
  aK (aR prog<|N+1) HT (AS L l M d I n (Y<|.c p.length) (Y<|dz h) C z j) K H:=by
 have f:=i.w h<|e▸gI _ (gZ ..);have u:∀{m a},m[7]? =Y (Y<|dz h)->ae ⟨aR prog<|N+1,m,a,H⟩ (.g 4 4 _) _:=λe=>ew (J e) V;have B:h.2.1.length<=sz:=aE f.2.2<|by decide
 refine cv (dp (rg cV (λx=>x.1.n) (λx=>.d x.2) (u V) V B λc _=>(cq _ V (dp (qZ (gv V) aL)<|U (Sg.z _) V) λ_=>gv V)) (show _=AV.g ((ck h.2.1).map .d) by refine U lr ?_;rfl)) ?_;have y:((ck h.2.1).map AV.d).isEmpty=true↔ck h.2.1=[]:=by cases ck h.2.1 with
  |nil=>exact⟨λ_=>V,λ_=>V⟩
  |cons _ _=>exact⟨λe=>aV e,λe=>by cases e⟩
 refine cv (v:=.c<|gx h) (gM (iJ J V) (λk=>?_) λk=>?_) ?_;·refine U (EO f.1) (U (if_neg λe=>by rw[y.mpr e]at k;exact aV k) ?_);exact c3 (ew J V) aL
 ·refine U (EO f.1)<|U (if_pos<|y.mp<|aP (vW _)<|k) ?_;exact ew J V
 refine fQ λG=>dP (bt J<|bt J<|bt J<|bt (eA J J)<|bB J J)<|VC f.1 ⟨i.l.1,aE t.2.1 i.l.1⟩ f.2.2 λr b=>?_;induction r using Option.casesOn with
 |none=>exact cg (pw (o:=O) J) (λ_=>cQ J<|gP<|E _ (t.1 _<|aO O b V) _) λh=>aV h
 |some r=>
  have D:(n++(L.take r).drop d).length<=60500:=by refine U bZ<|ed (aE nX<|aE t.2.2.2<|j5 1000<|aE (by refine U e<|U bZ ?_;exact bj _ _) i.n)<|aE nX<|aE rA i.l.2
  refine cg (pw (o:=Y r) J) (λh=>aV h) λ_=>bT<|cv ?_<|jD (cO<|bB (eI J<|gj AV.d J)<|c3 J J)<|bO<|F _ _ _ _ _ _<|t.t f.1 i.l f.2.1 b;refine U cz ?_;refine mJ (dp (w:=.g _) (mJ J (rf J J J b.1.p.a.1<|aE (bj _ _) b.1.p.a.2)<|by refine aP cz<|U (bx _) ?_;exact aE D<|by decide)<|U cz V) ?_<|by refine aP cz<|U (bx _) ?_;exact aE (U bZ<|ed D (aE nX f.2.1):(n++(L.take r).drop d++cU h.2.1).length<=61000)<|by decide
  exact dp (rg cV (λx=>x.1.l) (λx=>.d x.2) (u V) V B λc _=>(cq _ V (dp (qZ (gv V) aL)<|U (Sg.t _) V) λ_=>gv V))<|by refine U lr ?_;rfl
def acJ(k:lX L l)(u:∀v,Ap L M l 0 0 0 [] v->Q v H):aR prog (N+2) 52 [.g<|L.map .d,.g<|l.map dz,fu M] Q E H:=by
 refine ct (m:=[Y _,Y _,Y _,O,O,O,O,O,O,O,O]) V V<|wB (cO<|bt qX<|bB aL aL) ?_;refine wG dz J V (λt=>AS L l M t.1.1 t.1.2.1 t.1.2.2 t.2.1 t.2.2.1 t.2.2.2.1 t.2.2.2.2.1 t.2.2.2.2.2) (λ_ _=>H) (λp q t=>nk L M l p q t.1.1 t.1.2.1 t.1.2.2) ((0,0,[]),O,O,O,O,O) V V (e8 (λv h=>h) (cB _) (cB _)<|cB _) (λ_ _ _ _=>V)
  (λp c r t e f K g w _=>acK k e f (λv y m=>w _ _ _<|cD (.h _)<|u v y) λz b i A x j h=>g ((z,b,i),_,_,A,x,j) h) λt f=>?_
 obtain⟨⟨d,I,n⟩,o⟩:=t;have s:lw (n++L.drop d)<=60500:=by refine U rB<|ed (aE f.2.2.2<|j5 1000 k.n)<|aE (by have:=rA (a:=L) (p:=L.length) (d:=d);rw[il]at this;exact this) k.l.2
 refine cQ (zo (by refine U cz ?_;refine mJ J (Er J J f.2.1) ?_;refine aP cz (U (bx _) ?_);exact aE nX (aE s (by decide))) (aE GW (aE s (by decide)))) (cD (.h _) (u _ (f.1 _ V)))
def Ap.G(h:Ap L M l k d I f v):(∃b,v=.d b)\/∃n:Nat,v=.c n:=by
 induction l generalizing k d I f with
 |nil=>exact .inl ⟨_,h⟩
 |cons x l i=>
  refine aH h λr b h=>?_;induction r using Option.casesOn with
  |none=>exact .inr ⟨_,h⟩
  |some p=>exact i h
def WL(i:lX L l)(e:cR s=L)(h:s.length<sz)(q:∀v n,Ap L M l 0 0 0 [] v->Q v n):aR prog (N+5) 53 [.d s,.g<|l.map dz,fu M] Q E H:=by
 refine ct (m:=[Y<|.d s,Y<|.g<|l.map dz,Y<|fu M,O,O]) V V<|cv aL ?_;refine(?_:aK (aR prog _) [.d _ _] [Y _,Y _,Y _,Y .k,O] (λa j H=>match a with
   |.b (.n C o)=>C=7/\aK (aR prog _) [.d _ _] _ (λa c=>e9 (λj K=>aK _ [.f _] j K) _ a _) H
   |.b _=>False
   |f=>e9 (λj K=>aK _ [.f _] j K) _ f j H) H)
 refine dP (bt J<|bB J J)<|ct V V<|KQ i e h (λb d=>?_) (λk g=>?_) V;·exact cQ J<|cD (.h _)<|q _ _ d
 ·refine⟨V,cv (ew J V)<|bO ?_⟩;exact cQ J<|cD (.h _)<|q _ _ g
end
noncomputable def tr:List fz->List fz->List fz->List fz
 |[],g,c=>g++c
 |(.o,l)::r,g,c=>tr r g<|c++[(.i,l)]
 |(.i,l)::r,g,c=>tr r (g++[(.o,l)]) c
 |(.k,l)::r,g,c=>g++c++(.k,l)::tr r [] []
def pL:ck (a++b)=ck a++ck b:=by unfold ck;exact U (vK _ _)<|U cz V
def pO:cU (a++b)=cU a++cU b:=by unfold cU;exact U (vK _ _)<|U cz V
noncomputable def hG(s:Sg)(r:List fz):Prop:=∀x∈r,x.1=s
def Ab(h:hG .i r):ck r=[]:=by unfold ck;refine U (DE.mpr λx a=>by refine U (h x a)<|vX) ?_;rfl
def Ak(h:hG .o r):cU r=[]:=by unfold cU;refine U (DE.mpr λx a=>by refine U (h x a)<|vX) ?_;rfl
def hG.b(h:hG s r):hG s<|r++[(s,l)]:=λx a=>(fM.mp a).elim (h x) λa=>by cases dm.mp a;rfl
def Ey{g c}(b:hG .o g)(a:hG .i c):ck (tr r g c)=ck g++cU r/\cU (tr r g c)=cU c++ck r:=by
 induction r generalizing g c with
 |nil=>
  refine U pL<|U pO<|U (Ab a)<|U (Ak b) ?_;exact⟨V,(gJ _).symm⟩
 |cons x r d=>
  obtain⟨s,l⟩:=x;induction s using bc.Sg.casesOn with
  |k=>
   have:=d (λ_ h=>(dM h).elim) λ_ h=>(dM h).elim;refine U pL<|U pO<|U pL<|U pO<|U (Ab a)<|U (Ak b)<|U (gJ _)<|U (vy _) ?_;exact⟨congrArg (ck g++l::·) this.1,congrArg (cU c++l::·) this.2⟩
  |o=>
   have:=d b<|a.b (l:=l);refine⟨this.1,this.2.trans ?_⟩;refine U pO<|U (f7 _ _ _) ?_;rfl
  |i=>
   have:=d (b.b (l:=l)) a;refine⟨this.1.trans ?_,this.2⟩;refine U pL<|U (f7 _ _ _) ?_;rfl
def WQ(h:a≠[]):dH (a++b)=dH a:=by induction a using List.casesOn with
 |nil=>exact(h V).elim
 |cons _ _=>rfl
def oc(d:s.j=false)(h:hG s a)(c:a≠[]):dH (a++b)=false:=by induction a using List.casesOn with
 |nil=>exact(c V).elim
 |cons x a=>refine(?_:x.1.j=false);exact U (h x (gZ ..))<|d
def O4{g c:List fz}(b:hG .o g)(d:hG .i c):(g≠[]\/c≠[]->dH (tr r g c)=false)/\(g=[]->c=[]->dH (tr r g c)=dH r):=by
 have p:∀{z},g≠[]\/c≠[]->dH (g++c++z)=false:=λh=>by
  by_cases e:g=[];·refine U e<|U (vy _) ?_;exact oc V d<|h.resolve_left λk=>k e
  ·exact U (f7 _ _ _)<|oc V b e
 induction r generalizing g c with
 |nil=>exact⟨λh=>by have:=p (z:=[]) h;rw[gJ]at this;exact this,λj m=>by refine U j<|U m ?_;rfl⟩
 |cons x r q=>
  obtain⟨s,l⟩:=x;have n:∀{a:List fz}{w:fz},a++[w]≠[]:=λh=>by cases oZ.mp h with|intro _ h=>cases h
  induction s using bc.Sg.casesOn with
  |k=>exact⟨p,λj m=>by refine U j<|U m ?_;rfl⟩
  |o=>
   have f:∀{z},g≠[]\/c++[(.i,l)]≠[]->dH (g++(c++[(.i,l)])++z)=false:=λ{z}h=>by
    by_cases e:g=[];·refine U e<|U (vy _) ?_;exact oc V d.b n
    ·exact U (f7 _ _ _)<|oc V b e
   have:=(q b d.b f).1<|.inr n;exact⟨λ_=>this,λ_ _=>this⟩
  |i=>
   have f:∀{z},g++[(.o,l)]≠[]\/c≠[]->dH (g++[(.o,l)]++c++z)=false:=λ{z}h=>by exact U (f7 _ _ _)<|oc V b.b n
   have:=(q b.b d f).1<|.inl n;exact⟨λ_=>this,λ_ _=>this⟩
def tR{b}(h:b≠[]):c5 (a++b)=c5 b:=by unfold c5;exact U Dm<|WQ λe=>h<|Dl.mp e
def AB(d:s.j=false)(h:hG s b)(c:b≠[]):c5 (a++b)=false:=by refine U (tR c) ?_;have:=oc (b:=[]) d (λx f=>h x<|sJ.mp f) λe=>c<|Dl.mp e;rw[gJ]at this;exact this
def O1(h:r≠[]\/g≠[]\/c≠[]):tr r g c≠[]:=by
 induction r generalizing g c with
 |nil=>exact λe=>by have:=oZ.mp e;exact h.elim (λk=>k V) λk=>k.elim (λk=>k this.1) λk=>k this.2
 |cons x r a=>
  obtain⟨s,l⟩:=x;induction s using bc.Sg.casesOn with
  |k=>exact λe=>by have:=(oZ.mp e).2;cases this
  |o=>exact a<|.inr (.inr λe=>by cases oZ.mp e with|intro _ h=>cases h)
  |i=>exact a<|.inr (.inl λe=>by cases oZ.mp e with|intro _ h=>cases h)
def O3{g c}(m:hG .o g)(f:hG .i c)(h:r≠[]):c5 (tr r g c)=c5 r:=by
 induction r generalizing g c with
 |nil=>exact(h V).elim
 |cons x r j=>
  obtain⟨s,l⟩:=x;by_cases d:r=[]
  ·refine U d ?_;induction s using bc.Sg.casesOn with
   |k=>exact tR<|nM _ _
   |o=>exact AB V f.b λh=>by cases oZ.mp h with|intro _ h=>cases h
   |i=>
    by_cases e:c=[];·refine U e<|(?_:c5 (g++[(.o,l)]++[])=false);refine U (gJ _)<|AB (s:=.o) V (λx n=>by cases dm.mp n;rfl)<|nM _ _
    ·exact AB V f e
  ·refine U ((λh=>tR (a:=[(s,l)]) h) d) ?_;induction s using bc.Sg.casesOn with
   |k=>
    have e:=tR (a:=g++c++[(Sg.k,l)]) (b:=tr r [] [])<|O1<|.inl d;rw[f7]at e;exact e.trans<|j (λ_ h=>(dM h).elim) (λ_ h=>(dM h).elim) d
   |o=>exact j m f.b d
   |i=>exact j m.b f d
noncomputable def rh(h:Hk):Hk:=((h.1.2.2.1,h.1.2.2.2,h.1.1,h.1.2.1),tr h.2.1 [] [],h.2.2)
section
variable {H:Hp}{N:Nat}{E Q:VK}{h:Hk}
noncomputable def jz(h:Hk)(a:Nat)(b c:Nat)(d o:Option AV):ba:=[Y<|dz h,Y<|.f a,Y<|.f b,Y<|.f c,d,o]
end
section
variable {g:Gm}{F:cF}{m:ba}{K:FK}{H:Hp}{r:List S}{x:X}{i j k a:Nat}{l:List AV}{v:AV}
def Ri(q:∀a b c,H a=O->H b=O->H c=O->a≠b->a≠c->b≠c->aK F r (((m.set i<|Y<|.f a).set j<|Y<|.f b).set k<|Y<|.f c) K (((H.ag a<|.b []).ag b<|.b []).ag c<|.b [])):aK F (.d (.d [i,j,k]) (.q [.m true [],.m true [],.m true []])::r) m K H:=
 ⟨cB _,λa n=>⟨cB _,λb d=>⟨cB _,λc h=>by
  have f:a≠b:=λe=>by rw[e,Hp.t]at d;exact aS<|cc d
  have g:b≠c:=λe=>by rw[e,Hp.t]at h;exact aS<|cc h
  have l:a≠c:=λe=>by rw[<-e,Hp.I _ _ f,Hp.t]at h;exact aS<|cc h
  exact q a b c n ((Hp.I _ _ f.symm).symm.trans d) (by rw[Hp.I _ _ g.symm,Hp.I _ _ l.symm]at h;exact h) f l g⟩⟩⟩
def Eh(h:ae g x<|.g l):ae g (.r .o [x])<|.g l:=λE Q q=>h E _ ⟨trivial,.inr ⟨_,l,V,V,q⟩⟩
def Ov(h:ae g x<|.f a)(o:g.H a=Y (.b<|l++[v])):ae g (.w x (.e .k)<|.y<|.e<|.c 1)<|.g l:=λE Q q=>h E _ (by
 have e:eV (l++[v]) O (Y<|-1)=l:=by
  have:eF (l++[v]).length (-1)=l.length:=by unfold eF;refine U (if_neg<|by decide)<|U bZ ?_;exact cN<|cA [_,_] [] af aG [.e 1 af<|.a (.n<|-1)<|.c<|.a aZ<|.n 1] V<|g7<|b9 λz=>aJ [_] [] [.l 1 (.a (.a (.n<|-1)<|.c<|.a bo<|.n 1) aM) bJ] V z
  refine(?_:mw 0 (nI (eF (l++[v]).length<|-1) _)=l);exact U this<|U vL<|U List.take_left V
 refine ou (dT o) V V ?_;exact U e<|q)
end
noncomputable def xb:AV:=.l [.d [32],.k]
structure L3(H H':Hp)(a b c:Nat)(R:List AV)(G C:List fz):Prop where
 s:H.aq H'
 n:H a=O/\H b=O/\H c=O
 e:a≠b/\a≠c/\b≠c
 f:H' a=Y (.b R)
 w:H' b=Y (.b<|G.map cV)
 u:H' c=Y (.b<|C.map cV)
section
variable {H H':Hp}{a b c:Nat}{R R':List AV}{G C:List fz}{N:Nat}{E Q:VK}{h:Hk}{F:cF}{K:FK}{d r:List fz}
def L3.q(t:L3 H H' a b c R G C):L3 H (H'.ag a<|.b R') a b c R' G C:=⟨Hp.aj t.s t.n.1 _,t.n,t.e,Hp.t _ _ _,(Hp.I _ _ t.e.1.symm).trans t.w,(Hp.I _ _ t.e.2.1.symm).trans t.u⟩
def L3.p(t:L3 H H' a b c R G C):L3 H (H'.ag b<|.b<|G'.map cV) a b c R G' C:=⟨Hp.aj t.s t.n.2.1 _,t.n,t.e,(Hp.I _ _ t.e.1).trans t.f,Hp.t _ _ _,(Hp.I _ _ t.e.2.2.symm).trans t.u⟩
def L3.o(t:L3 H H' a b c R G C):L3 H (H'.ag c<|.b<|C'.map cV) a b c R G C':=⟨Hp.aj t.s t.n.2.2 _,t.n,t.e,(Hp.I _ _ t.e.2.1).trans t.f,(Hp.I _ _ t.e.2.2).trans t.w,Hp.t _ _ _⟩
noncomputable def Cu(H:Hp)(d:List fz)(a:Nat)(p q:List AV)(t:Hp×Nat×Nat):Prop:=
 (∃R G C r,L3 H t.1 a t.2.1 t.2.2 (R.map cV) G C/\q=r.map cV++[xb]/\tr d [] []=R++tr r G C/\(hG .o G/\hG .i C)/\R.length+G.length+C.length<=p.length)\/
 (q=[]/\H.aq t.1/\t.1 a=Y (.b<|(tr d [] []).map cV++[xb]))
def OX(t:L3 H H' a b c R G C)(z:R.length+G.length+C.length<sz)(q:∀f g,H' f=O->H' g=O->f≠g->aK F rs (jz h a f g (Y s)<|Y l) K (((H'.ag a<|.b<|R++G.map cV++C.map cV++[.l [s,l]]).ag f<|.b []).ag g<|.b [])):
  aK F (.e (.r .c [.d 1,.d 2])::.e (.r .c [.d 1,.d 3])::.e (.r .a [.d 1,.q [.d 4,.d 5]])::.d (.d [2,3]) (.q [.m true [],.m true []])::rs) (jz h a b c (Y s)<|Y l) K H':=by
 refine tD J J t.f (dT t.w) (λe=>t.e.1<|by(have e:=FT e;subst e);rfl) (by refine U (bx _)<|aE (bj _ _)<|cI z) ?_;have i:=t.q (R':=R++G.map cV);refine tD J J i.f (dT i.u) (λe=>t.e.2.1<|by(have e:=FT e;subst e);rfl) (by refine U bZ<|U (bx _)<|U (bx _) ?_;exact cI z) ?_;refine U (Hp.ak _ _ _ _) ?_;refine nV J (cO<|bB J J) (Hp.t _ _ _) (by refine U bZ<|U bZ<|U (bx _)<|U (bx _) ?_;exact z) ?_;refine U (Hp.ak _ _ _ _) ?_;have u:∀{o d},(H'.ag a o) d=O->H' d=O:=λ{o d}h=>by
  by_cases e:d=a;·rw[e,Hp.t]at h;exact aS<|cc h
  ·exact(Hp.I _ _ e).symm.trans h
 exact Fs λf g j k n=>q f g (u j) (u k) n
def OS(z:p.length<=600)(hI:Cu H d a p (x::q) t)
  (hK:∀t' o4 o5,Cu H d a (p++[x]) q t'->K .a (jz h a t'.2.1 t'.2.2 o4 o5) t'.1):
  (match gn (jz h a t.2.1 t.2.2 o4 o5) [4,5] true x with|some m'=>aK F rC m' K t.1|none=>False):=by
 obtain⟨H',b,c⟩:=t;have pl:(p++[x]).length=p.length+1:=by refine U bZ ?_;rfl
 refine bq hI (λs8=>By s8 λR G C r t e1 e2 s7 lz=>bp s7 λhg hc=>?_) λsZ=>bp sZ λe1 _=>?_
 rotate_left
 ·cases e1
 have zz:(R.map cV).length+G.length+C.length<sz:=by refine U (bx _)<|cH (aE lz z)<|by decide
 have fl:∀{K'}s l,(∀eb b' c',L3 H eb a b' c' (R.map cV++G.map cV++C.map cV++[.l [s,l]]) [] []->K' .a (jz h a b' c' (Y s)<|Y l) eb)->aK F [.e _,.e _,.e _,.d _<|.q [.m true [],.m true []]] (jz h a b c (Y s)<|Y l) K' H':=λs l q=>OX t zz λb' c' xu xq ne=>
  bO (q _ b' c' ⟨Hp.aj (Hp.aj (Hp.aj t.s t.n.1 _) (Hp.al t.s xu) _) (Hp.al t.s xq) _,bW t.n.1 (Hp.al t.s xu)<|Hp.al t.s xq,bW (Hp.ne t.f xu) (Hp.ne t.f xq) ne,by exact U (Hp.I _ _<|Hp.ne t.f xq)<|U (Hp.I _ _<|Hp.ne t.f xu)<|U (Hp.t _ _ _) V,by refine U (Hp.I _ _ ne)<|U (Hp.t _ _ _) ?_;rfl,Hp.t _ _ _⟩)
 have vt:∀{s g}{l}p,decide (s=g)=p->ae ⟨F,jz h a b c (Y<|.d s)<|Y l,[],H'⟩ (.h .a (.d 4)<|.e<|.d g) (.e p):=λp e=>e▸mI J aL;induction r using List.casesOn with
 |nil=>
  refine U ((i3 e1).1) ?_;refine(?_:aK F rC (jz h a b c (Y<|.d [32])<|Y .k) K H');refine cg (vt false<|by decide) (λh=>aV h) λ_=>cg (vt false<|by decide) (λh=>aV h) λ_=>fl (.d [32]) .k λeb b' c' t'=>hK (eb,b',c') _ _<|.inr<|bW ((i3 e1).2) t'.s ?_;refine U e2<|(?_:eb a=Y (.b<|(R++(G++C)).map cV++[xb]));refine U cz<|U cz<|aP (f7 _ _ _) ?_;exact t'.f
 |cons y r=>
  obtain⟨s,l⟩:=y;have eq:=(i3 e1).2;refine U ((i3 e1).1) ?_;induction s using bc.Sg.casesOn with
  |o=>
   refine(?_:aK F rC (jz h a b c (Y<|.d [45])<|Y<|.d l) K H');refine cg (vt true<|by decide) (λ_=>?_) λh=>aV h;refine nV J (cO<|bB aL J) t.u (U (bx _)<|cH (cW _ _) zz)<|bT<|bO ?_;refine U (show C.map cV++[AV.l [.d [43],.d l]]=(C++[(Sg.i,l)]).map cV by refine U cz ?_;rfl) ?_;exact hK (H'.ag c<|.b<|(C++[(Sg.i,l)]).map cV,b,c) _ _<|.inl<|rt R G (C++[(Sg.i,l)]) r t.o eq e2 ⟨hg,hc.b⟩<|by refine U pl<|U bZ ?_;exact c7 lz
  |i=>
   refine(?_:aK F rC (jz h a b c (Y<|.d [43])<|Y<|.d l) K H');refine cg (vt false<|by decide) (λh=>aV h) λ_=>cg (vt true<|by decide) (λ_=>?_) λh=>aV h;refine nV J (cO<|bB aL J) t.w (U (bx _)<|cH (aE (cW _ _)<|bj _ _) zz)<|bT<|bT<|bO ?_;refine U (show G.map cV++[AV.l [.d [45],.d l]]=(G++[(Sg.o,l)]).map cV by refine U cz ?_;rfl) ?_;exact hK (H'.ag b<|.b<|(G++[(Sg.o,l)]).map cV,b,c) _ _<|.inl<|rt R (G++[(Sg.o,l)]) C r t.p eq e2 ⟨hg.b,hc⟩<|by refine U pl<|U bZ<|aP (bY _ _ _)<|U (cG _ _ _) ?_;exact c7 lz
  |k=>
   refine(?_:aK F rC (jz h a b c (Y<|.d [32])<|Y<|.d l) K H');refine cg (vt false<|by decide) (λh=>aV h) λ_=>cg (vt false<|by decide) (λh=>aV h) λ_=>fl (.d [32]) (.d l) λeb b' c' t'=>hK (eb,b',c') _ _<|.inl<|rt (R++G++C++[(Sg.k,l)]) [] [] r ?_ eq ?_ ⟨λ_ h=>(dM h).elim,λ_ h=>(dM h).elim⟩ ?_;·refine U cz<|U cz<|U cz ?_;exact t'
   ·refine U e2<|(?_:R++(G++C++(.k,l)::tr r [] [])=_);simp only[f7];rfl
   ·refine U pl<|U bZ<|U bZ<|U bZ ?_;exact c7 lz
def OR(z:h.2.1.length<=500)(q:Q (dz<|rh h) H):aR prog (N+2) 33 [dz h] Q E H:=by
 have d:∀{m}{H}{i}{v},m[0]? =Y (Y<|dz h)->[AV.c h.1.1,.c h.1.2.1,.c h.1.2.2.1,.c h.1.2.2.2,.g _,.d h.2.2][i]? =Y v->ae ⟨aR prog<|N+1,m,[],H⟩ (.g 4 i _) v:=λe B=>ew (J e) B;refine ct (m:=[Y _,O,O,O,O,O]) V V<|Ri λa b c y l o n u w=>?_;have A:(h.2.1.map cV++[xb]).length<=600:=by refine U bZ<|U (bx _) ?_;exact aE (c7 z)<|by decide
 refine mO (λv=>v) (mJ (d V V) (tf (cJ<|cO<|bB aL aL)<|by decide)<|aE A<|by decide) (by refine U (List.map_id' _) ?_;rfl) (λt=>jz h a t.1.2.1 t.1.2.2 t.2.1 t.2.2) (λ_ t=>t.1.1) (λp q t=>Cu H h.2.1 a p q t.1) ((((H.ag a _).ag b _).ag c _,b,c),O,O) V V
  (.inl<|rt [] [] [] h.2.1 ⟨Hp.aj (Hp.aj (Hp.ah y _) l _) o _,bW y l o,bW n u w,(Hp.I _ _ u).trans<|(Hp.I _ _ n).trans<|Hp.t _ _ _,(Hp.I _ _ w).trans<|Hp.t _ _ _,Hp.t _ _ _⟩ V V ⟨λ_ h=>(dM h).elim,λ_ h=>(dM h).elim⟩<|bN _) (λ_ _ _ _=>V)
  (λp x q t e j K f=>OS (aE (by refine U e<|U bZ ?_;exact bj _ _) A) j λF M D h=>f (F,M,D) h) λt j=>?_
 refine bq j (λg=>Bz g λR G C r t I _=>?_) λk=>dN k λ_ s e=>?_;·cases oZ.mp I.symm with|intro _ h=>cases h
 ·exact cQ (qY (bt (d V V)<|bt (d V V)<|bt (d V V)<|bt (d V V)<|bB (Ov J e)<|d V V) λa L E Q _ q=>IE q)<|cD s q
def V7(q:Q .k<|H.ag a<|.bF 5 dx [v0,v1,v2,v3,v4,v5,.g l,.m<|eH "modify",.k,.k]):aR prog (N+1) 1005 [.f a,v0,v1,v2,v3,v4,v5,.g l] Q E<|H.ag a<|.bF 5 dx []:=ct (m:=[Y _,Y v0,Y v1,Y v2,Y v3,Y v4,Y v5,Y _,Y _,Y .k,Y .k]) V V<|dF J V V<|dF J V V<|dF J V V<|dF J V V<|dF J V V<|dF J V V<|dF (Eh J) V V<|dF J V V<|dF J V V<|dF J V V<|bO<|iP (.h _) q
end
section
variable {F:cF}{m mc:ba}{K:FK}{H:Hp}{r a b:List S}{x y z:X}{xs:List X}{i:Nat}{s1 s2 k:qC}{u1 u w:AV}{E Q:VK}
def Rq(n:s1≠s2)(h:∀H,eM ⟨F,m,[],H⟩ xs [u1,u])(c:∀H,ae ⟨F,m,[],H⟩ y<|.m k)(b:∀H,ae ⟨F,m,[],H⟩ z w)(q:∀g f,H.aq g->aK F r (m.set i<|Y f) K g):aK F (.d (.b i) (.r .s [.B .s [.m s1,.m s2] xs,y,z])::r) m K H:=λa d=>
 h (H.ag a _) _ _ (by refine⟨Hp.t _ _ _,?_⟩;have e:mR .s [.m s1,.m s2] [u1,u]=Y _:=if_neg n;refine U e ?_;refine⟨⟨a,V,.inr ⟨_,_,Hp.t _ _ _⟩⟩,c _ _ _<|b ((H.ag a _).ag a _) _ _ ?_⟩;refine .inr ⟨a,k,w,_,_,V,Hp.t _ _ _,?_⟩;exact U (Hp.ak _ _ _ _)<|q _ _ (Hp.ah d _))
def Rj(h:∀E Q,(∀b,Q (.e b) H)->den F E m [] x Q H)(e:aK F a m (e9 (λf d=>aK F r f d) K) H)(q:aK F b m (e9 (λf d=>aK F r f d) K) H):aK F (.g x a b::r) m K H:=h _ _ λc=>by
 induction c using Bool.casesOn;·exact q
 ·exact e
def ZY(d:ae ⟨F,m,mc,H⟩ x<|.d s)(a:ae ⟨F,m,mc,H⟩ y<|.e q)(h:∀b,Q (.e b) H):den F E m mc (.A [.r .f [x],y]) Q H:=d _ _ ⟨⟨s,V⟩,⟨s,V,λc=>by
 induction c using Bool.casesOn;·exact a _ _<|by induction q using Bool.casesOn<;>exact h _
 ·exact h true⟩⟩
def ZI(a:ae ⟨F,m,mc,H⟩ x<|.d s)(h:∀b,Q (.d b) H):den F E m mc (.r .h [x]) Q H:=a _ _ ⟨⟨s,V⟩,⟨s,V,λc=>h c⟩⟩
def Em(h:ae g x<|.d l)(a:ae g y<|.c n):ae g (.w x (.e .k) y)<|.d<|eV l O<|Y n:=λE Q q=>h E _<|a E _<|xT V V q
def Se(n:Nat):∀c a k,(fm c a<|-1)[k]? =if k<c then Y<|a-k else O:=by
 intro c;induction c with
 |zero=>intro a k;rfl
 |succ c i=>
  intro a k;induction k using Nat.casesAuxOn with
  |zero=>exact congrArg Y (DM a).symm
  |succ k=>
   refine U (i _ _) ?_;by_cases h:k<c;·refine U (if_pos h)<|U (if_pos<|ij h) ?_;exact congrArg Y<|cA [_] [_] (.s (.a aI<|.n<|-1) af) (.s aI<|.c<|.a bo<|.n 1) [] V
   ·exact U (if_neg h)<|U (if_neg λb=>h<|oR b) V
end
section
variable {H:Hp}{N:Nat}{E Q:VK}{hs:List Hk}{v0 v1 v2 g j v5:AV}{a b:List bH}
def V6{a d}{b c v}(q:Q .k<|H.ag a<|.bF 5 d [v0,v1,v2,g,j,v5,.g l,b,c,v]):aR prog (N+1) 1005 [.f a,v0,v1,v2,g,j,v5,.g l,b,c,v] Q E<|H.ag a<|.bF 5 d []:=ct (m:=[Y _,Y v0,Y v1,Y v2,Y g,Y j,Y v5,Y _,Y b,Y c,Y v]) V V<|dF J V V<|dF J V V<|dF J V V<|dF J V V<|dF J V V<|dF J V V<|dF (Eh J) V V<|dF J V V<|dF J V V<|dF J V V<|bO<|iP (.h _) q
noncomputable def wR(v0 v1 v2 g j v5:AV)(hs:List Hk)(k:AV):AV:=.n 5 [v0,v1,v2,g,j,v5,.g<|hs.map dz,k,.k,.k]
def RZ(b:hs.length<=60/\∀h∈hs,h.2.1.length<=500)(q:∀k,Q (wR v1 v0 g v2 v5 j (hs.map rh) k) H):aR prog (N+3) 42 [wR v0 v1 v2 g j v5 hs<|.m<|eH "modify"] Q E H:=by have l:∀{m mc}{H}{i}{v},m[0]? =Y (Y<|wR v0 v1 v2 g j v5 hs<|.m<|eH "modify")->[v0,v1,v2,g,j,v5,.g _,.m _,.k,.k][i]? =Y v->ae ⟨aR prog<|N+2,m,mc,H⟩ _ v:=λe d=>ew (J e) d;refine ct (m:=[Y _,O,O]) V V<|cg (pk (p:=false) (l V V)<|by decide+kernel) (λh=>aV h) λ_=>bT<|cv (l V V)<|cg (d4 (p:=false) (q:=false) (fW J aL V) λh=>aV h) (λh=>aV h) λ_=>bT<|Rq (by decide+kernel) (λ_=>bB aL aL) (λ_=>l V V) (λ_=>l V V) λn k s=>?_;refine cQ (qY (bt (l V V)<|bt (l V V)<|bt (l V V)<|bt (l V V)<|bt (l V V)<|bt (l V V)<|bt (wg dz (λh=>dz _) (l V V) V (aE b.1<|by decide) λh c=>aO _ V<|iK (gv V) V fN λE Q q=>OR (b.2 h c) q)<|bt J<|bB (l V V) J) λa f E Q _ q=>V6 q)<|cD s ?_;have:=q k;unfold wR at this;rw[lr]at this;exact this
def WM(x:n<=a.length)(A:n<=60)(q:∀r,Q (.d r) H):aR prog (N+1) 34 [.g<|a.map .d,.c n] Q E H:=by
 refine ct (m:=[Y _,Y _,O,O]) V V ?_;refine wD (items:=(fm n (n-1)<|-1).map .c) (bt (c3 J aL)<|bB (gi aL)<|gi aL) ?_ (λt=>[Y _,Y _,t.1,t.2]) (λ_ _=>H) (λ_ _=>True) (O,O) V V trivial (λ_ _ _=>trivial) (λi v t p _ K u C=>?_) λt _=>cQ aL<|cD (.h _)<|q _
 ·refine(?_:(if((n:Int)-1).natAbs<=sz/\(-1).natAbs<=sz/\(-1).natAbs<=2/\(-1)≠0 then Y<|(hZ _ (-1)<|-1).map AV.c else O)=_);refine U (if_pos<|e8 (aE (by exact b8 λj=>ow _ (λf z=>aJ [_,_] [] [.l 1 (.c<|.a (.a bo<|.n 1) aX) aG,.e 1 aG<|.s af aM] V j z) λf z=>aJ [_,_] [] [.l 1 (.c<|.a (.a bo<|.n 1) aX) aG,.e 1 aG<|.g<|.s af aM] V j z)<|aE (c7 A)<|by decide) (by decide) (by decide)<|by decide) ?_;unfold hZ;exact U (if_neg<|by decide)<|U (show(((n:Int)-1- -1- -1-1)/(- -1)).toNat=n by refine U (show(- -1)=1 from V)<|U (DT _) ?_;exact cN<|cA [_,_] [] aG af [.e 1 aG<|.s (.s (.s (.s af aM)<|.n<|-1)<|.n<|-1) aM] V<|g7<|b9 λk=>aJ [_] [] [.l 1 (.a (.s (.s (.s (.s af aM)<|.n<|-1)<|.n<|-1) aM) aM) bJ] V k) V
 ·rw[gh,Se 0]at p;by_cases h:i<n
  ·rw[if_pos h]at p;(have p:=bz p;subst p);have D:(n:Int)-1-i=(n-1-i:Nat):=i7 (n-1) (i) (λf z=>cA [_,_,_,_] [] (.s (.s af aM) aG) bf [.e (-1) (.c<|.a bK<|.n 1) af,.e (-1) (.c<|.a bA aZ) cM] V (nE<|cb<|b8 (a:=1) (b:=n) λk=>aJ [_,_] [] [.l 1 (.c<|.a aZ aX) af,.l 1 (.c<|.a bo aX)<|.c<|.n 1] V (nl h) k) z) λf z=>fZ (λj=>aJ [_,_,_] [] [.l 1 (.c<|.a aZ aX) af,.e 1 bf bJ,.l 1 (.a (.s (.s af aM) aG) aM) bf] V (nl h) z j) λj=>aJ [_,_,_,_] [] [.e (-1) (.c<|.a bK<|.n 1) af,.l 1 cM aG,.l 1 (.a bf aM)<|.s (.s af aM) aG] V (nE<|cb<|b8 (a:=1) (b:=n) λk=>aJ [_,_] [] [.l 1 (.c<|.a aZ aX) af,.l 1 (.c<|.a bo aX)<|.c<|.n 1] V (nl h) k) f j;have w:∀{o},ae ⟨aR prog N,[Y<|.g<|a.map .d,Y<|.c n,Y<|.c<|n-1-i,o],[],H⟩ (.l (.d 0)<|.d 2)<|.d<|a.getD (n-1-i) []:=λ{o}=>pq AV.d J (ez J D)<|jM (d:=[])<|bX (by exact b8 λj=>aJ [_,_,_] [] [.l 1 (.c<|.a bo aX)<|.c<|.a aZ aX,.l 1 aG bf,.e 1 (.c<|.a bA<|.n 1) af] V j (nl<|eE (n-1)<|i)<|nE<|cb<|b8 (a:=1) (b:=n) λk=>aJ [_,_] [] [.l 1 (.c<|.a aZ aX) af,.l 1 (.c<|.a bo aX)<|.c<|.n 1] V (nl h) k) x;refine(?_:aK (aR prog N) HX [Y<|.g<|a.map .d,Y<|.c n,Y<|.c<|n-1-i,t.2] K H);refine cv (Em (n:=1) w aL)<|Rj (λy F B=>ZY J (fW J (cO<|bB aL aL) V) B) ?_<|bT<|bO<|u (_,_) trivial;exact g8 λy=>ZI (Em (n:=80) w aL) λr=>gP<|C _ _ _<|cD (.h _)<|q r
  ·rw[if_neg h]at p;exact aS p
end
noncomputable def dO(a:List bH)(i j:Nat):List bH:=(a.take j).drop i
noncomputable def xr(s:Sg)(l:List bH):List fz:=l.map λx=>(s,x)
noncomputable def jE(a b:List bH)(en:Nat):Nat->List Pt->List fz
 |t,[]=>xr .k<|dO a t en
 |t,c::g=>xr .k (dO a t c.1)++xr .o (dO a c.1<|c.1+c.2.1)++xr .i (dO b c.2.2.1<|c.2.2.1+c.2.2.2)++jE a b en (c.1+c.2.1) g
noncomputable def more(g:List Pt):Int:=(g.map λc=>(c.2.2.2:Int)-c.2.1).sum
noncomputable def sg(n:Nat):Nat:=if 0<n then 1 else 0
noncomputable def Ord(a b:List bH)(en:Nat):Nat->List Pt->Prop
 |t,[]=>t<=en/\en<=a.length
 |t,c::g=>t<=c.1/\c.1+c.2.1<=a.length/\c.2.2.1+c.2.2.2<=b.length/\Ord a b en (c.1+c.2.1) g
section
variable {g:Gm}{F:cF}{m mc:ba}{H:Hp}{x y z:X}{a b:List bH}{s:Sg}{i j:Nat}
def wa(h:ae ⟨F,m,mc,H⟩ x<|.g<|a.map .d)(e:ae ⟨F,m,mc,H⟩ y<|.c i)(d:ae ⟨F,m,mc,H⟩ z<|.c j)(l:i<=j)(k:j<=a.length)(f:a.length<=60):ae ⟨F,m,mc,H⟩ (.u (.q [.e<|.d s.b,.s 0]) [0] false .a [.w x y z] [])<|.g<|(xr s<|dO a i j).map cV:=by
 have:(xr s<|dO a i j).map cV=(dO a i j).map λl=>.l [.d s.b,.d l]:=by refine U lr ?_;rfl
 refine U this ?_;refine wg AV.d _ (rf h e d l k) V ?_ λc _=>aO _ V<|cO<|bB aL<|gv V;refine U mq<|U nK ?_;exact aE (aE (eE _ _)<|aE (j6 _ _) f)<|by decide
def i9(k:j<=a.length):(dO a i j).length=j-i:=by exact U mq<|U nK<|U (fB k) V
def s9:(xr s a).length=a.length:=by exact U (bx _) V
end
section
variable {a b:List bH}{g p q:List Pt}{c:Pt}{H:Hp}{N G C en t f:Nat}{R:List fz}{w:Int}{E Q:VK}{F:cF}{K:FK}{o9 g9 o km:Option AV}
noncomputable def Be(a b:List bH)(G C s en f t:Nat)(w:Int)(o9 g9 o km:Option AV):ba:=[Y<|.g<|a.map .d,Y<|.g<|b.map .d,Y<|.f G,Y<|.c C,Y<|.c s,Y<|.c en,Y<|.f f,Y<|.c t,Y<|.c w,o9,g9,o,km]
def Q9(h:∀H,ae ⟨F,m,[],H⟩ x v)(q:∀a,H a=O->aK F r (((m.set i<|Y<|.f a).set j<|Y v).set k<|Y e) K (H.ag a<|.b [])):aK F (.d (.d [i,j,k]) (.q [.m true [],x,.e e])::r) m K H:=
 ⟨cB _,λa b=>h (H.ag a _) _ _<|q a b⟩
def ZK(k:∀a d E Q,H a=O->Q .k (H.ag a<|.bF C d ws)->F (gS C) (.f a::vs) Q E (H.ag a<|.bF C d []))(q:Q (.n C ws) H):
  ∀a d,H a=O->F (gS C) (.f a::vs) (λr b=>(match r with|.k=>(if false=true then Q (.f a) b else kA (.f a) Q b)|_=>False)) E (H.ag a<|.bF C d []):=λa d h=>k a d E _ h (by
 exact KJ (Hp.t _ _ _)<|U (Hp.aC h _)<|q)
def ZM{m}{x n o i y j}{b v d c h u}{l}(z:ae ⟨F,m,[],H.ag f<|.b l⟩ x b)(p:ae ⟨F,m,[],H.ag f<|.b l⟩ n v)(w:ae ⟨F,m,[],H.ag f<|.b l⟩ o d)(B:ae ⟨F,m,[],H.ag f<|.b l⟩ i c)(A:m[6]? =Y (Y<|.f f))(t:H f=O)
  (s:eM ⟨F,m,[],H⟩ [y,j] [h,u]) (C:∀E Q,(∀r,Q (.d r) H)->F 34 [h,u] Q E H) (k:∀r a e E Q,H a=O->Q .k (H.ag a<|.bF 4 e [b,v,d,c,.g l,.d r])->F (gS 4) [.f a,b,v,d,c,.g l,.d r] Q E (H.ag a<|.bF 4 e [])) (q:∀r,Q (.n 4 [b,v,d,c,.g l,.d r]) H):
  den F E m [] (.E 4 false [x,n,o,i,.z<|.d 6,.p 34 [y,j]]) Q (H.ag f<|.b l):=
 z E _ (p E _ (w E _ (B E _ (J (g:=⟨F,m,[],H.ag f _⟩) A E _ (by refine I3 (Hp.t _ _ _) ?_;refine U (Hp.aC t _) ?_;exact dP s (C E _ λr=>ZK (k r) (q r)))))))
def wF(h:ae ⟨F,m,[],H.ag f<|.b<|R.map cV⟩ y<|.f f)(a:ae ⟨F,m,[],H.ag f<|.b<|R.map cV⟩ x<|.g<|R'.map cV)(z:R.length+R'.length<=sz)(q:aK F r m K<|H.ag f<|.b<|(R++R').map cV):aK F (.e (.r .c [y,x])::r) m K<|H.ag f<|.b<|R.map cV:=
 tD h a (Hp.t _ _ _) V (λe=>bc.AV.noConfusion e) (by refine U (bx _)<|U (bx _) ?_;exact z) (by refine U (Hp.ak _ _ _ _)<|aP cz ?_;exact q)
def NX{a b c:Nat}(e:c=a-b):max (0:Int) ((a:Int)-b)=c:=by
 refine U e<|bq (jv b a) (λh=>?_) λh=>?_;·refine aP (sS h)<|DP<|f9 _
 ·refine U (u7 h)<|DQ<|Int.sub_nonpos_of_le<|pb.mpr h
def NV{a b c:Nat}(h:c<=b)(d:b-c<=a):a-((b:Int)-c)=(a-(b-c):Nat):=aP (sS h)<|aP (sS d) V
def N2{a b c d}:(a+b:Nat)-a-(c+d:Nat)+c=(b:Int)-d:=by lia
def NW{a b c:Nat}(e:d=min a (b+c)):min (a:Int) (b+c)=d:=by
 refine U e<|aP (vQ _ _) ?_;refine bq (jv a<|b+c) (λh=>?_) λh=>?_;·refine U (fB h)<|yQ<|pb.mpr h
 ·refine U (ju h)<|DO<|pb.mpr h
def N1{a b c}(l:n+200<=sz)(h:a<=60)(i:b<=60)(g:c<=60):n+a<=sz/\n+a+b<=sz/\n+a+b+c<=sz/\n+a+b+c<=n+180:=
 have d:=ed (ff h _) i;have e:=ed d g;have k:=aE (ff (show 180<=200 by decide) n) l;have f:=aE (bj (n+60+60) 60) k
 (e8 (aE (ff h _)<|aE (bj _ 60) f) (aE d f) (aE e k) e)
def acz(h:Ord a b en t<|c::q)(g:a.length<=60/\b.length<=60)(l:R.length+200<=sz)
  (n:∀k,k=R++(xr .k (dO a t c.1)++xr .o (dO a c.1<|c.1+c.2.1)++xr .i (dO b c.2.2.1<|c.2.2.1+c.2.2.2))->k.length<=R.length+180->K .a (Be a b G C j en f (c.1+c.2.1) (w+(c.2.2.2-c.2.1)) (Y<|d' c) g9 o km) (H.ag f<|.b<|k.map cV)):
  aK F HW (Be a b G C j en f t w (Y<|d' c) g9 o km) K (H.ag f<|.b<|R.map cV):=by
 have d:∀{m mc}{H}{i}{v},m[9]? =Y (Y<|d' c)->[AV.c c.1,.c _,.c c.2.2.1,.c _][i]? =Y v->ae ⟨F,m,mc,H⟩ _ v:=λe p=>ew (J e) p;have z:=N1 l (by refine U s9<|U (i9<|aE (bj _ _) h.2.1) ?_;exact aE (eE _ _) (aE (bj _ _)<|aE h.2.1 g.1):(xr .k<|dO a t c.1).length<=60) (by refine U s9<|U (i9 h.2.1) ?_;exact aE (eE _ _) (aE h.2.1 g.1):(xr .o<|dO a c.1 _).length<=60) (by refine U s9<|U (i9 h.2.2.1) ?_;exact aE (eE _ _) (aE h.2.2.1 g.2):(xr .i<|dO b c.2.2.1 _).length<=60);refine wF J (wa J J (d V V) h.1 (aE (bj _ _) h.2.1) g.1) z.1 ?_;refine wF J (wa (s:=.o) J (d V V) (d V V) (bj _ _) h.2.1 g.1) (by refine U bZ<|z.2.1) ?_;refine wF J (wa (s:=.i) J (d V V) (d V V) (bj _ _) h.2.2.1 g.2) (by refine U bZ<|U bZ ?_;exact z.2.2.1) ?_;refine iN V (ez (eA (c3 (c3 (d V V)<|d V V)<|d V V)<|d V V) N2)<|cv (d V V)<|bO<|n _ (U (f7 _ _ _)<|U (f7 _ _ _)<|U (f7 _ _ _) V) ?_;refine U bZ<|U bZ<|U bZ ?_;exact z.2.2.2
def acy{x z}{nm:Nat}(D:H G=Y (.b<|g.map d'))(h0:g[0]? =Y x)(h9:g.getLast?=Y z)(es:d=x.1-C)(K:en=min a.length (z.1+z.2.1+C))(Z:Ord a b en d g)(B:a.length<=60/\b.length<=60)(P:g.length<=200)
  (a2:x.1-d<=x.2.2.1) (W:nm=en-d+more g) (M:d<=en)
  (q:∀a4,Q (dz ((d+sg (en-d),en-d,x.2.2.1-(x.1-d)+sg nm,nm),jE a b en d g,a4)) H):aR prog (N+2) 35 [.g<|a.map .d,.g<|b.map .d,.f G,.c C] Q E H:=by
 refine aF (Dw.mp h9) λg' F=>?_;have a0:∀{n}{m mc}{i}{v},n G=Y _->m[2]? =Y _->[AV.c x.1,.c _,.c x.2.2.1,.c _][i]? =Y v->ae ⟨aR prog<|N+1,m,mc,n⟩ _ v:=λhH e e'=>ew (q8 d' (J e) hH aL h0) e';refine ct (m:=[Y _,Y _,Y _,Y _,O,O,O,O,O,O,O,O,O]) V V<|cv (ez (Eg aL<|c3 (a0 D V V) J)<|NX es)<|cv (ez (zj (gj AV.d J)<|eA (ew (td J ((dT D).trans<|by refine U F<|U cz ?_;rfl)<|gi aL) V) J)<|NW K)<|Q9 (v:=.c d) (λn=>J V) λf a1=>?_;have y:∀o,(H.ag f o) G=Y _:=λo=>(Hp.I _ _<|Hp.ne D a1).trans D;refine mO d' J (dT<|y _) (λt=>Be a b G C d en f t.1.1 t.1.2.1 t.2 O O O) (λ_ t=>H.ag f<|.b<|t.1.2.2.map cV) (λp q t=>Ord a b en t.1.1 q/\jE a b en d g=t.1.2.2++jE a b en t.1.1 q/\t.1.2.1+more q=more g/\t.1.2.2.length<=180*p.length) ((d,0,[]),O) V V (e8 Z V (yL _)<|cB _) (λ_ _ _ _=>(dT<|y _).trans (dT<|y _).symm)
  (λp c q t e u K' I=>?_) λt u=>?_
 ·refine acz u.1 B (aE (hS (aE u.2.2.2<|j5 180<|aE (by refine U e<|U bZ ?_;exact bj _ _) P) 200)<|by decide) λR' S X=>I ((c.1+c.2.1,t.1.2.1+(c.2.2.2-c.2.1),R'),Y<|d' c) (e8 u.1.2.2.2 ?_ ?_ ?_);·refine U u.2.1<|U S<|U (f7 _ _ _) ?_;rfl
  ·refine aP u.2.2.1<|sV _ _ _
  ·refine U bZ<|U (Nat.mul_add _ _ _) ?_;exact aE X<|hS u.2.2.2 _
 obtain⟨⟨t,w,R⟩,o⟩:=t;refine wF J (wa (s:=.k) J J J u.1.1 u.1.2 B.1) (aE (ff (by refine U s9<|U (i9 u.1.2) ?_;exact aE (eE _ _)<|aE (K▸oQ _ _) B.1) _)<|aE (hS (aE u.2.2.2<|j5 180 P) 60)<|by decide) ?_;refine U u.2.1.symm<|U (by refine aP u.2.2.1<|(ka _).symm:w=more g) ?_;refine cv (ez (c3 (a0 (y _) V V)<|c3 (a0 (y _) V V) J)<|NV (es▸eE _ _) a2)<|jD (cO<|bB (ez (c3 J J)<|(sS M).symm)<|ez (eA (c3 J J) J) W.symm)<|g8 λE'=>?_;have L:∀{m}{n}{i j k l:Nat},m[i]? =Y (Y<|.c k)->m[j]? =Y (Y<|.c l)->ae ⟨aR prog<|N+1,m,[],n⟩ (.j .a false (.d i)<|.r .m [.h .f (.d j)<|.e<|.c 0]) (.c<|k+sg l):=λ{m n i j k l}a3 T=>by
  refine ez (eA (J a3)<|zq<|hV (b:=0) (J T) aL) ?_;unfold sg;by_cases h:0<l;·refine U (decide_eq_true h)<|U (if_pos V)<|U (if_pos h) ?_;rfl
  ·refine U (decide_eq_false h)<|U (if_neg vX)<|U (if_neg h) ?_;rfl
 have A:=aE M<|K▸oQ _ _;exact ZM (L V V) (J V) (L V V) (J V) V a1 (bB J J) (λE Q q=>WM (N:=N) A (aE A B.1) q) (λr a dx E Q _ q=>IE q) λr=>cD (.h _)<|q r
end
structure iX(fy:Nat)(gs:List<|List Pt)(cs:List Pt):Prop where
 f:gs.flatten=cs
 n:∀g∈gs,g≠[]
 s:∀(i:Nat)g1 g2,gs[i]? =Y g1->gs[i+1]? =Y g2->∃c1 c2:Pt,g1.getLast?=Y c1/\g2[0]? =Y c2/\c1.1+c1.2.1+2*fy<c2.1
structure GF(a b:List bH)(fy:Nat)(g:List Pt)(c0 c9:Pt)(st en nm:Nat):Prop where
 m:g[0]? =Y c0
 l:g.getLast?=Y c9
 n:st=c0.1-fy
 o:en=min a.length (c9.1+c9.2.1+fy)
 t:Ord a b en st g
 q:c0.1-st<=c0.2.2.1
 j:(nm:Int)=(en:Int)-st+more g
 s:st<=en
 p:g.length<=200
noncomputable def HG(a b:List bH)(c:Nat)(g:List Pt)(h:Hk):Prop:=∃d e s f n,GF a b c g d e s f n/\h.1=(s+sg (f-s),f-s,d.2.2.1-(d.1-s)+sg n,n)/\h.2.1=jE a b f s g
def iX.u(h:iX fy gs cs)(o:∀g e,gs.getLast?=Y g->g.getLast?=Y e->e.1+e.2.1+2*fy<c.1):iX fy (gs++[[c]]) (cs++[c])where
 f:=by refine U DB<|U h.f ?_;rfl
 n g d:=(fM.mp d).elim (h.n g) λd=>by cases dm.mp d;exact nM _ _
 s i g1 g2 b a:=by
  refine bq (hO (i+1) gs.length) (λl=>?_) λl=>?_;·rw[jx<|j7 l]at b;rw[jx l]at a;exact h.s i g1 g2 b a
  ·have a:=nL l▸a;have k:=yv.mp<|(et.mp a).1;rw[k]at a;(have a:=bz a;subst a);have m:=dB (qI k) l;have b:=jx (yw<|bb m)▸b;have j:=h.n g1<|mm b;exact bQ _ c (yI j) V<|o _ _ (by refine U yJ<|aP m ?_;exact b)<|yI j
def iX.t(h:iX fy (gs++[g]) cs):iX fy (gs++[g++[c]]) (cs++[c])where
 f:=by refine aP h.f<|U DB<|U DB<|U (f7 _ _ _) ?_;simp
 n x r:=(fM.mp r).elim (λk=>h.n x<|nJ _ k) λr=>by cases dm.mp r;exact λe=>by cases(oZ.mp e).2
 s i g1 g2 h1 a:=by
  refine bq (hO (i+1) gs.length) (λl=>?_) λl=>?_
  ·rw[jx<|j7 l]at h1;rw[jx l]at a;exact h.s i g1 g2 (by refine U (jx<|j7 l) ?_;exact h1)<|by refine U (jx l) ?_;exact a
  ·rw[nL l]at a;have b:=yv.mp<|(et.mp a).1;rw[b]at a;(have a:=bz a;subst a);have d:=dB (qI b) l;rw[jx<|yw<|bb d]at h1;refine cj (h.s i g1 g (by refine U (jx<|yw<|bb d) ?_;exact h1)<|by refine U (nL l)<|U b ?_;rfl) λp m j o q=>?_;exact bQ p m j (by refine U (jx<|qL.mpr<|h.n g<|gI _<|dm.mpr V) ?_;exact o) q
structure lY(H H':Hp)(w:Nat)(f:List<|Nat×List Pt):Prop where
 s:H.aq H'
 i:H w=O/\H' w=Y (.b<|f.map λp=>.f p.1)
 p:∀p∈f,(H p.1=O/\p.1≠w)/\H' p.1=Y (.b<|p.2.map d')
 d:f.Pairwise λp q=>p.1≠q.1
section
variable {H H':Hp}{w r:Nat}{f:List<|Nat×List Pt}{g:List Pt}{c:Pt}
def lY.j(h:lY H H' w f)(b:H' r=O):lY H ((H'.ag r<|.b [d' c]).ag w<|.b<|(f++[(r,[c])]).map λp=>.f p.1) w<|f++[(r,[c])]:=by
 refine⟨Hp.aj (Hp.aj h.s (Hp.al h.s b) _) h.i.1 _,⟨h.i.1,Hp.t _ _ _⟩,λp a=>?_,sI.mpr<|bW h.d (Dq _ _) λp a q e=>?_⟩
 ·refine bq (fM.mp a) (λa=>?_) λa=>?_
  ·have:=h.p p a;exact⟨this.1,by refine U (Hp.I _ _ this.1.2)<|U (Hp.I _ _<|Hp.ne this.2 b) ?_;exact this.2⟩
  ·cases dm.mp a;exact⟨⟨Hp.al h.s b,(Hp.ne h.i.2 b).symm⟩,by refine U (Hp.I _ _ (Hp.ne h.i.2 b).symm)<|U (Hp.t _ _ _) ?_;rfl⟩
 ·cases dm.mp e;exact Hp.ne (h.p p a).2 b
def lY.k(h:lY H H' w<|f++[(r,g)]):lY H (H'.ag r<|.b<|(g++[c]).map d') w<|f++[(r,g++[c])]:=by
 have b:=h.p _<|gI _<|dm.mpr V;have d:=sI.mp h.d;refine⟨Hp.aj h.s b.1.1 _,⟨h.i.1,by refine U (Hp.I _ _ b.1.2.symm)<|U h.i.2<|U cz<|U cz ?_;rfl⟩,λp a=>?_,sI.mpr (bW d.1 (Dq _ _) λp a q e=>by cases dm.mp e;exact d.2.2 p a (r,g)<|dm.mpr V)⟩;refine bq (fM.mp a) (λa=>?_) λa=>?_
 ·have:=h.p p (nJ _ a);exact⟨this.1,by exact U (Hp.I _ _<|d.2.2 p a _<|dm.mpr V)<|this.2⟩
 ·cases dm.mp a;exact⟨b.1,Hp.t _ _ _⟩
end
section
variable {F:cF}{a b:List bH}{N f lS w r:Nat}{H H':Hp}{ps:List<|Nat×List Pt}{g p e:List Pt}{c:Pt}{E Q:VK}{K:FK}{o d:Option AV}{mT u v:AV}
def Rm{u}{r}(h:∀E,den F E m [] x (λv H'=>aK F (.j t u .a [.e v] bd::r) m K H') H):aK F (.j t u .a [x] bd::r) m K H:=h _
def CP.I(h:CP R x y e x' y'):x+y+e.length<=x'+y':=by
 induction e generalizing x y with
 |nil=>cases h.1;cases h.2;exact bN _
 |cons c e i=>
  refine dN h λd g _=>aH d λk z _=>bp z λj m=>?_;refine U j8 ?_;exact b8 λf=>g.elim (λb=>aJ [_,_,_,_,_,_,_,_,_,_] [] [.l 1 (.c<|.a (.a (.a bo aZ)<|.a bA bK) cX)<|.c<|.a dy<|.v 6,.e (-1) af<|.c<|.a (.v 7)<|.v 8,.e (-1) bf<|.c<|.a (.v 9)<|.v 8,.l 1 (.c<|.a (.a dy<|.v 6) aX)<|.c<|.a (.a (.v 7)<|.v 9)<|.a cX<|.n 1,.l 1 (.c<|.a (.n 0) aX) aG] V (nl<|i h.2.2) (nE z.1) (nE z.2) f<|nl b) λb=>aJ [_,_,_,_,_,_,_,_,_,_] [] [.l 1 (.c<|.a (.a (.a bo aZ)<|.a bA bK) cX)<|.c<|.a dy<|.v 6,.e (-1) af<|.c<|.a (.v 7)<|.v 8,.e (-1) bf<|.c<|.a (.v 9)<|.v 8,.l 1 (.c<|.a (.a dy<|.v 6) aX)<|.c<|.a (.a (.v 7)<|.v 9)<|.a cX<|.n 1,.l 1 (.c<|.a (.n 0) aX) cM] V (nl<|i h.2.2) (nE z.1) (nE z.2) f<|nl b
noncomputable def t9(u v:AV)(a b:List bH)(f lS:Nat)(mT:AV)(w:Nat)(o:Option AV):ba:=[Y u,Y v,Y<|.c f,Y<|.c lS,Y mT,Y<|.g<|a.map .d,Y<|.g<|b.map .d,Y<|.f w,o]
def Rv{r}(b:ae ⟨F,m,[],H⟩ y<|.f w)(e:ae ⟨F,m,[],H⟩ x v)(h:H w=Y (.b l))(c:l.length<sz)
  (q:∀d,H d=O->aK F r m K ((H.ag d<|.b [v]).ag w<|.b<|l++[.f d])):aK F (.e (.r .a [y,.m true [x]])::r) m K H:=
 b _ _ ⟨gc w _ V h,e _ _ ⟨by refine(?_:1<=sz);decide,λd a=>by exact dG w _ l V ((Hp.I _ _ (Hp.ne h a)).trans h) c (q d a)⟩⟩
def wZ{α:Type}(l:List α):l=[]\/∃q c,l=q++[c]:=(List.eq_nil_or_concat l).imp_right λh=>h.elim λq h=>h.elim λc h=>pQ q c<|h.trans (List.concat_eq_append ..)
theorem Br:∀(a:List<|List Pt),(∀g∈a,g≠[])->a.length<=a.flatten.length
 |[],_=>bN _
 |g::a,h=>by refine U vI<|U bZ<|U j8<|U (fh _ _) ?_;exact ed (qL.mpr<|h g (gZ ..))<|Br a λx b=>h x<|lq _ b
def Xu{a:List<|List Pt}(h:g∈a):g.length<=a.flatten.length:=Mx<|Ma h
def Wj(k:lY H H' w ps)(o:iX f (ps.map (·.2)) p)(I:p.length<=60)(N:f<=60)
  (G:∀t h,lY H t w h->iX f (h.map (·.2)) (p++[c])->K .a (t9 u v a b f lS mT w<|Y<|d' c) t):
  aK F HV (t9 u v a b f lS mT w<|Y<|d' c) K H':=by
 have z:ae ⟨F,t9 u v a b f lS mT w<|Y<|d' c,[],H'⟩ (.d 7) _:=J V;have j:(∀g i,(ps.map (·.2)).getLast?=Y g->g.getLast?=Y i->i.1+i.2.1+2*f<c.1)->aK F [.e<|.r .a [.d 7,.m true [.d 8]]] _ K H':=λA=>
  Rv z J k.i.2 (U (bx _)<|cH (by have:=Br _ o.n;rw[o.f,bx]at this;exact aE this I)<|by decide) λd P=>bO (by have:=G _ _ (k.j P)<|U cz<|o.u A;rw[cz]at this;exact this)
 rcases wZ ps with rfl|⟨h,⟨r,g⟩,rfl⟩;·exact cg (d4 (q:=true) (iJ z<|dT k.i.2) λe=>aV e) (λe=>aV e) λ_=>bT<|j λg i e=>aS e
 ·have D:=gI h (dm.mpr (V:(r,g)=(r,g)));have x:g∈(h++[(r,g)]).map (·.2):=iG.mpr<|aO _ D V
  (refine gR ((wZ g).resolve_left<|o.n g x) λy i B=>?_;subst B)
  have l:=Xu x;rw[o.f]at l;have L:=td z ((dT k.i.2).trans<|by refine U cz ?_;rfl)<|gi aL;refine cg (d4 (iJ z<|dT k.i.2) λ_=>zk (c3 (ew J V)<|ew (td L ((dT<|(k.p _ D).2).trans<|by refine U cz ?_;rfl)<|gi aL) V)<|eA (zi aL J ⟨by decide,cH (N)<|by decide⟩) J) (λ_=>?_) λe=>bT<|j λR Q E m=>?_
  ·refine bT (nV L J ((k.p _ D).2) (U (bx _)<|cH (aE l I)<|by decide)<|bO ?_);have:=G _ _ (k.k)<|by rw[cz]at o |- ;exact o.t
   rw[cz]at this;exact this
  ·rw[cz]at E;cases(vE (a:=y++[i])).symm.trans E;cases(vE).symm.trans m;rw[(by refine U cz ?_;induction h using List.casesOn<;>rfl:(!(vB (λp=>AV.f p.1)<|h++[(r,y++[i])]).isEmpty)=true),vT]at e;have:=of_decide_eq_false e;exact b8 λM=>aJ [_,_,_,_,_] [] [.l 1 (.a (.a (.m 2 af) dA) aM)<|.s aG<|.c<|.a bA bK,.l 1 (.c<|.a aZ aX)<|.c<|.a (.a (.a bA bK)<|.m 2 bo) aX] V (Gw this) M
end
section
variable {a b:List bH}{N M S w r:Nat}{H H':Hp}{p P:List Pt}{E Q:VK}{R:AV}{s L:List UInt8}
noncomputable def ya(a b:List bH)(M:Nat)(e:List<|List Pt):Prop:=∀g∈e,∃d c s f n,GF a b M g d c s f n
def Wi(y:lY H H' w ps)(B:iX M (ps.map (·.2)) P)(G:P.length<=60)(j:a.length<=60/\b.length<=60)(I:ya a b M<|ps.map (·.2))
  (q:∀d:List<|List Pt×Hk,iX M (d.map (·.1)) P->(∀z∈d,HG a b M z.1 z.2)->Q (.g<|(d.map (·.2)).map dz) H):
  aK (aR prog<|N+2) [.f<|.u (.p 35 [.d 5,.d 6,.s 0,.d 2]) [0] false .a [.d 7] []] (t9 u v a b M S R w o) (e7 Q E) H':=by
 refine g8 λL=>ur (ls:=ps) (λp=>.f p.1) J (dT y.i.2) (λp i g=>g=H'/\∃d:List<|List Pt×Hk,i=(d.map (·.2)).map dz/\d.map (·.1)=p.map (·.2)/\∀z∈d,HG a b M z.1 z.2) (pR V [] V V λ_ h=>(dM h).elim) (λ_ _ _ h=>U h.1 V) (λp c q i g e r s D=>?_) λi g r=>?_
 ·(refine rQ r λk d l t x=>?_;clear r;subst k;subst l)
  have C:=e▸gI _ (gZ ..);refine YS (I c.2<|iG.mpr<|aO c C V) λA F m f n h=>?_;refine dP (bt J<|bt J<|bB (gv V) J)<|acy (y.p c C).2 h.m h.l h.n h.o h.t j h.p h.q h.j h.s λK=>D _ _<|pR V (d++[(c.2,((m+sg (f-m),f-m,A.2.2.1-(A.1-m)+sg n,n),jE a b f m c.2,K))]) ?_ ?_ λz j=>?_;·refine U cz<|U cz ?_;rfl
  ·refine U cz<|U cz<|U t ?_;rfl
  ·refine bq (fM.mp j) (λj=>?_) λj=>?_;·exact x z j
   ·cases dm.mp j;exact⟨A,F,m,f,n,h,V,V⟩
 ·(refine rQ r λk d l t x=>?_;clear r;subst k;subst l)
  refine⟨?_,cD y.s<|q d (t▸B) x⟩;have:=congrArg qM t;rw[bx,bx]at this;refine U (bx _)<|U (bx _)<|U this ?_;exact aE (by have:=Br _ B.n;rw[B.f,bx]at this;exact aE this G)<|by decide
def ZQ{F}(h:den F E m mc x (λv H'=>den F E m mc (.p f<|.e v::xs) Q H') H):den F E m mc (.p f<|x::xs) Q H:=h
def Wh(T:s.length<sz)(C:L.length<sz)(I:a=cR s)(G:b=cR L)(i:a.length+b.length<=60)(B:M<=60)(F:R∈pY)
  (D:∀A P,CO (gf a b) a.length b.length P->iX M A P->ya a b M A)
  (q:∀P(g:List<|List Pt×Hk),CO (gf a b) a.length b.length P->iX M (g.map (·.1)) P->(∀z∈g,HG a b M z.1 z.2)->Q (.g<|(g.map (·.2)).map dz) H):
  aR prog (N+7) 36 [.d s,.d L,.c M,.c S,R] Q E H:=by
 refine ct (m:=[Y _,Y _,Y _,Y _,Y R,O,O,O,O]) V V<|jD (cO<|bB (px (cJ J) λE Q q=>AG T<|I▸q)<|px (cJ J) λE Q q=>AG C<|G▸q)<|lD fN (cB _) λw v=>Rm λW=>?_;refine ZQ<|dP (bt J<|bB J J)<|aaI F i λP d=>dP (bt aL<|bB J J)<|PN i d λP d=>?_;have l:=d.elim λx d=>d.elim λy d=>d.elim λk d=>aE (aE (cW _ _) d.1.I)<|aE (ed (d.2.1.1▸bj _ _)<|d.2.1.2▸bj _ _) i;refine mO d' aL V (λt=>t9 _ _ a b M S R w t.2) (λ_ t=>t.1.1) (λp q t=>lY H t.1.1 w t.1.2/\iX M (t.1.2.map (·.2)) p) ((H.ag w _,[]),O) V V ⟨⟨Hp.ah v _,⟨v,Hp.t _ _ _⟩,λ_ h=>(dM h).elim,.nil⟩,V,λ_ h=>(dM h).elim,λ_ _ _ h=>aS h⟩ (λ_ _ _ _=>V)
  (λp c q t e f K u=>?_) λt f=>?_
 ·exact Wj f.1 f.2 (aE (by refine U e<|U bZ ?_;exact bj _ _) l) B λr n o j=>u ((r,n),_) ⟨o,j⟩
 ·exact Wi f.1 f.2 l ⟨aE (bj _ _) i,aE (cW _ _) i⟩ (D _ _ d f.2) λg o j=>q P g d o j
end
end bc
end
section
set_option backward.match.sparseCases false
namespace bc
structure HC(a b:List bH)(x y:Nat)(h:Hk)(u en B C:Nat):Prop where
 D:x<=u/\u<=en/\en<=a.length
 A:y<=B/\B<=C/\C<=b.length
 g:x<u\/u=0/\B=0
 k:dO a x u=dO b y B
 I:ck h.2.1=dO a u en
 F:cU h.2.1=dO b B C
 e:h.1=(u+sg (en-u),en-u,B+sg (C-B),C-B)
 n:∃w∈h.2.1,w.1.j=false
 z:en=a.length↔C=b.length
 t:(dH h.2.1||c5 h.2.1)=true->c5 h.2.1=false->en=a.length
noncomputable def CC(a b:List bH):Nat->Nat->List Hk->Prop
 |x,y,[]=>a.drop x=b.drop y
 |x,y,h::j=>∃u en B C,HC a b x y h u en B C/\CC a b en C j
def rm(h:i<=j)(c:j<=k)(l:k<=a.length):dO a i j++dO a j k=dO a i k:=by have e:=oV j<|a.take k;rw[(U List.take_take (U (fB c) V):(a.take k).take j=a.take j)]at e;have b:=congrArg (mw i) e;rw[List.drop_append_of_le_length<|by refine U nK<|U (fB<|aE c l) ?_;exact h]at b;exact b
def Q3:dO a 0 j=a.take j:=V
def Q2(h:i<j):dO a i j≠[]\/a.length<j:=by refine(hO a.length j).symm.imp_left λl e=>?_;have:=i9 (i:=i) l;rw[e]at this;exact dj.mpr (qI this.symm) h
def zO(h:i<j)(l:j<=a.length):(dO a i j).getLast?=a[j-1]? :=by refine U yJ<|U (i9 l) ?_;exact U sO<|U (Nat.sub_right_comm _ _ _)<|U (eT<|vk h)<|U Dx<|U (if_pos<|Nat.sub_one_lt<|ma<|cH (cB _) h) V
def FH r:r.length<=(ck r).length+(cU r).length:=by
 induction r with
 |nil=>exact bN _
 |cons x r a=>
  obtain⟨s,l⟩:=x;induction s using bc.Sg.casesOn with
  |k=>exact c7<|aE a<|hS (mg _) _
  |o=>refine(?_:r.length+1<=(ck r).length+1+(cU r).length);exact U (cG _ _ _)<|c7 a
  |i=>exact c7 a
def IU(h:dH r=true):ck r≠[]:=by
 induction r using List.casesOn with
 |nil=>exact aV h
 |cons x r=>
  obtain⟨s,l⟩:=x;induction s using bc.Sg.casesOn with
  |k=>exact nM _ _
  |o=>exact aV h
  |i=>exact aV h
def Io(h:(dH r||c5 r)=true):ck r≠[]:=(vU.mp h).elim IU λh e=>IU h<|by unfold ck at e |- ;refine U List.filter_reverse<|U sL<|U e ?_;rfl
def Ez(h:w∈g\/w∈c):w∈tr r g c:=by
 induction r generalizing g c with
 |nil=>exact fM.mpr h
 |cons x r a=>
  obtain⟨s,l⟩:=x;induction s using bc.Sg.casesOn with
  |k=>exact nJ _<|fM.mpr h
  |o=>exact a<|h.imp_right<|nJ _
  |i=>exact a<|h.imp_left<|nJ _
def O2(h:∃w∈r,w.1.j=false):∃w∈tr r g c,w.1.j=false:=by
 induction r generalizing g c with
 |nil=>exact h.elim λw h=>(dM h.1).elim
 |cons x r d=>
  obtain⟨s,l⟩:=x;induction s using bc.Sg.casesOn with
  |k=>
   refine aH h λw f a=>?_;refine aH (d (g:=[]) (c:=[])<|aO w ((gH.mp f).resolve_left λe=>(by rw[e]at a;exact aV a)) a) λj b m=>?_;exact aO j (gI _<|lq _ b) m
  |o=>exact aO (.i,l) (Ez (r:=r) (c:=c++[(.i,l)])<|.inr<|gI _<|dm.mpr V) V
  |i=>exact aO (.o,l) (Ez (r:=r) (g:=g++[(.o,l)])<|.inl<|gI _<|dm.mpr V) V
section
variable {a b:List bH}{x y u en B C k:Nat}{h:Hk}{j:List Hk}
def HC.M(c:HC a b x y h u en B C):u-x=B-y:=by have:=congrArg qM c.k;rw[i9<|aE c.D.2.1 c.D.2.2,i9<|aE c.A.2.1 c.A.2.2]at this;exact this
def nW:hG s []:=λ_ h=>(dM h).elim
def HC.H(c:HC a b x y h u en B C):HC b a y x (rh h) B C u en where
 D:=c.A
 A:=c.D
 g:=c.g.imp (λl=>vj<|c.M▸yu l) And.symm
 k:=c.k.symm
 I:=(Ey nW nW).1.trans c.F
 F:=(Ey nW nW).2.trans c.I
 e:=by unfold rh;exact U c.e V
 n:=O2 c.n
 z:=c.z.symm
 t:=by refine(?_:(dH _||c5 (tr h.2.1 [] []))=true->c5 (tr h.2.1 [] [])=false->_);refine U ((O4 nW nW).2 V V)<|U (O3 nW nW λe=>c.n.elim λw d=>by rw[e]at d;exact dM d.1) ?_;exact λf i=>c.z.mp<|c.t f i
def CC.m(c:CC a b x y j):CC b a y x<|j.map rh:=by
 induction j generalizing x y with
 |nil=>exact cc c
 |cons h j i=>
  refine rO c λu en B C d c=>?_;exact Aq B C u en d.H<|i c
def HC.E(c:HC a b x y h u en B C):(ck h.2.1).length=en-u:=U c.I<|U (i9 c.D.2.2) V
def HC.K(c:HC a b x y h u en B C):(cU h.2.1).length=C-B:=U c.F<|U (i9 c.A.2.2) V
def HC.G(c:HC a b x y h u en B C):gx h=u:=by
 unfold bc.gx;refine U c.e ?_;unfold sg;by_cases l:0<en-u;·refine U (if_pos l)<|U (if_pos l) ?_;exact qQ (u:Int) 1
 ·refine U (if_neg l)<|U (if_neg l) ?_;rfl
def HC.N(c:HC a b x y h u en B C)(l:(dH h.2.1||c5 h.2.1)=true):h.1.1=u+1:=by have:=qL.mpr<|Io l;rw[c.E]at this;refine U c.e<|(?_:u+sg _=_);unfold sg;exact U (if_pos this) V
def HC.P(c:HC a b x y h u en B C)(l:a.length<=59):WH h where
 n:=c.n
 m:=U c.E<|U c.e V
 f l:=⟨by exact U (c.N l)<|c7<|cB _,Io l⟩
 z:=by
  have:u<=59:=aE (aE c.D.2.1 c.D.2.2) l;refine U c.e<|(?_:u+sg _<=60);unfold sg;by_cases l:0<en-u;·exact U (if_pos l)<|c7 this
  ·exact U (if_neg l)<|gY this
def NY(i:en+C+q<=A)(f:r<=en-u+(C-B))(d:0<r)(h:x<=u/\u<=en)(b:y<=B/\B<=C):x+y+(q+1)<=A:=b8 λz=>aJ [_,_,_,_,_,_,_,_,_,_,_] [] [.l 1 (.c<|.a (.a bo aZ) bA) cM,.l 1 dA<|.c<|.a dy<|.v 6,.l 1 (.c<|.a (.n 0) aX) dA,.l 1 (.c<|.v 7)<|.c<|.v 8,.l 1 (.c<|.v 9)<|.c<|.v 10,.l 1 (.c<|.a bK aX)<|.c<|.a (.a (.v 7)<|.v 9)<|.a bA<|.n 1,.e 1 (.c<|.a dy<|.v 8) af,.e 1 (.c<|.a (.v 6)<|.v 10) aG] V (nl i) (nl f) (nl d) (nl h.1) (nl b.1) z (nE<|cb h.2)<|nE<|cb b.2
def CC.o(c:CC a b x y j)(f:x<=a.length)(g:y<=b.length):x+y+j.length<=a.length+b.length:=by
 induction j generalizing x y with
 |nil=>exact(ed f g:x+y<=_)
 |cons h j i=>
  refine rO c λu en B C d c=>?_;have l:=FH h.2.1;rw[d.E,d.K]at l;exact NY (i c d.D.2.2 d.A.2.2) l (d.n.elim λw e=>Ml e.1) ⟨d.D.1,d.D.2.1⟩ ⟨d.A.1,d.A.2.1⟩
def CC.p(c:CC a b x y j)(d:h∈j):∃x y u en B C,HC a b x y h u en B C:=by
 induction j generalizing x y with
 |nil=>exact(dM d).elim
 |cons f j i=>
  refine rO c λu en B C e c=>?_;rcases gH.mp d with rfl|d;·exact⟨x,y,u,en,B,C,e⟩
  ·exact i c d
def CC.q(c:CC a b 0 0 j)(l:a.length+b.length<=59)(e:lw a<=500)(f:lw b<=500):lX a j where
 w h hm:=by refine YR (c.p hm) λx y u en B C d=>?_;refine bW (d.P<|aE (bj _ _) l) (U d.F<|aE rA f)<|aE (FH _) ?_;refine U d.E<|U d.K ?_;exact aE (ed (aE (eE _ _) d.D.2.2)<|aE (eE _ _) d.A.2.2)<|aE l<|by decide
 n:=aE (aE (cW _ _)<|c.o (cB _)<|cB _)<|gY l
 l:=⟨aE (bj _ _)<|gY l,e⟩
def Bs.o{C}{t:Int}{p:Nat}(h:C p)(e:t=p):Bs C t<|Y p:=
 ⟨h,λa _=>by
  refine U e<|U (yM _) ?_;refine bq (nH ((a:Int)-p).natAbs) (λk=>?_) λk=>?_;·exact .inr ⟨k.symm,bb<|cN<|cA [_,_,_] [] bf af [.e 1 aG<|.c<|.n 0,.e (-1) aG<|.s bf af] V (nE k)<|iI<|b9 λz=>aJ [_,_,_] [] [.e 1 aG<|.c<|.n 0,.l 1 (.g<|.s bf af) aG,.l 1 (.a (.s bf af) aM) bJ] V (nE k) (fK<|↑a-↑p) z⟩
  ·exact .inl k⟩
def HC.L(c:HC a b x y h u en B C)(t:VL a)(v:VL b):iA a (ck h.2.1) (cU h.2.1) (fF h) (fE h) x u O u where
 p:=by
  have g:u+(ck h.2.1).length=en:=by exact U c.E<|eT c.D.2.1
  refine⟨⟨c.D.1,g▸c.D.2.2⟩,by refine U g<|c.I.symm,λl i=>?_,?_⟩
  ·have d:=vj (by refine aP c.K<|qL.mpr λe=>by rw[e]at i;exact aS i);rw[c.F,zO d c.A.2.2]at i;exact(v _ _ i).imp_right λe=>by exact U g<|c.z.mpr<|(cb<|cH (cB _) d).symm.trans e
  ·refine(Classical.em _).imp_right λs=>?_;have d:=vj<|aP c.K<|qL.mpr s;refine(nH u).imp_right λj=>?_;have n:=c.g.resolve_right λe=>by rw[e.1]at j;exact dk _ j
   have r:=vj<|c.M▸yu n;have e:=congrArg List.getLast? c.k;rw[zO n<|aE c.D.2.1 c.D.2.2,zO r<|aE c.A.2.1 c.A.2.2]at e;have q:B-1<b.length:=cH (eE _ _)<|bX d c.A.2.2;refine aO _ (e.trans<|hU q)<|(v _ _<|hU q).resolve_right λk=>?_;exact dj.mpr c.A.2.2<|(cb (cH (cB _) r)▸k)▸d
 o:=λ_=>V
 f:=λe=>by have e:=ef.mp e;have:=of_decide_eq_true e.2;rw[c.N e.1]at this;exact fL this
 e:=λe=>by have e:=ef.mp e;refine U c.E<|U (eT c.D.2.1) ?_;exact c.t e.1<|by have:=e.2;rw[vV]at this;exact this
 m:=λ_ h=>aS h
def CC.r(c:CC a b x y j)(e:VL a)(v:VL b):Ap a O j k x 0 (b.take y)<|.d<|iq b:=by
 induction j generalizing x y k with
 |nil=>refine(?_:_=_);exact U (c)<|U (oV _ _) V
 |cons h j i=>
  refine rO c λu en B C d c=>?_;refine aO (Y u) ?_ ?_;·exact U (U (ka _) (U d.G V):gx h+0=u)<|Bs.o (d.L e v) V
  ·refine(?_:Ap a O j _ _ _ (b.take y++dO a x u++cU h.2.1) _);refine U d.E<|U (eT d.D.2.1)<|U d.G<|U (yM _)<|U d.k<|U d.F<|aP Q3<|U (rm (cB _) d.A.1<|aE d.A.2.1 d.A.2.2)<|U (rm (cB _) d.A.2.1 d.A.2.2) ?_;exact i c
end
noncomputable def CQ(a b:List bH):Nat->Nat->List Pt->Nat->Nat->Prop
 |x,y,[],x',y'=>x=x'/\y=y'
 |x,y,c::d,x',y'=>(∃k,(c.1=x+k/\c.2.2.1=y+k)/\∀i,i<k->gf a b (x+i) (y+i))/\CQ a b (c.1+c.2.1) (c.2.2.1+c.2.2.2) d x' y'
section
variable {a b:List bH}{x y x' y' k e en:Nat}{g d:List Pt}{c f:Pt}
def CP.q(h:CP (gf a b) x y d x' y'):CQ a b x y d x' y':=by
 induction d generalizing x y with
 |nil=>exact h
 |cons c d i=>exact⟨h.1.elim λk h=>aO k h.1 h.2.2,i h.2.2⟩
def CQ.t(h:CQ a b x y (c::g) x' y')(e:c.1=x+k)j(l:j<=k):CQ a b (x+j) (y+j) (c::g) x' y':=by
 refine bp h λz m=>aH z λo d f=>?_;cases ll (d.1.symm.trans e);refine⟨(aO (k-j) ⟨?_,?_⟩ λi n=>?_),m⟩;·refine U (bY _ _ _)<|U (eT l) ?_;exact d.1
 ·refine U (bY _ _ _)<|U (eT l) ?_;exact d.2
 ·refine U (bY _ _ _)<|U (bY _ _ _) ?_;exact f _<|yC n
def CQ.s(h:CQ a b x y g x' y'):x<=x'/\y<=y':=by
 induction g generalizing x y with
 |nil=>exact⟨bb h.1,bb h.2⟩
 |cons c g i=>
  refine bp h λz e=>aH z λk d _=>?_;have:=i e;rw[d.1,d.2]at this;exact⟨aE (aE (bj _ _)<|bj _ _) this.1,aE (aE (bj _ _)<|bj _ _) this.2⟩
def CQ.u(h:CQ a b x y g x' y')(l:g.getLast?=Y f):f.1+f.2.1=x':=by
 induction g generalizing x y with
 |nil=>exact aS l
 |cons c g i=>
  induction g using List.casesOn with
  |nil=>(have l:=bz l;subst l);exact h.2.1
  |cons d g=>exact i h.2<|by rw[List.getLast?_cons_cons]at l;exact l
def CQ.w(h:CQ a b x y g x' y'):(x':Int)-x+more g=y'-y:=by
 induction g generalizing x y with
 |nil=>cases h.1;cases h.2;refine(?_:(x':Int)-x'+0=y'-y');exact cA [_,_] [] (.a (.s af af) bJ) (.s aG aG) [] V
 |cons c g d=>
  have i:=d h.2;refine aH h.1 λk z _=>bp z λf e=>?_;have i:=e▸(f▸i);refine(?_:(x':Int)-x+(((c.2.2.2:Int)-c.2.1)+bc.more g)=_);clear d h f e;exact cA [_,_,_,_,_,_,_] [_] (.a (.s af aG)<|.a (.s (.c<|.v 6) cM) aI) (.s dA jS) [.e 1 (.a (.s af<|.c<|.a (.a aZ bA) bK) aI)<|.s dA<|.c<|.a (.a dy bA)<|.v 6] V i
def CQ.A(h:CQ a b x y g x' y')(l:x'<=en/\en<=a.length)(d:y'<=b.length):Ord a b en x g:=by
 induction g generalizing x y with
 |nil=>exact⟨h.1▸l.1,l.2⟩
 |cons c g i=>
  have:=CQ.s h.2;exact e8 (h.1.elim λk h=>h.1.1▸bj _ _) (aE this.1<|aE l.1 l.2) (aE this.2 d)<|i h.2
def Fm:(dO a x j)[i]? =if x+i<j then a[x+i]? else O:=by exact U sO<|U Dx V
def wA(r:∀i,i<k->gf a b (x+i) (y+i))(c:x+k<=a.length)(l:y+k<=b.length):dO a x (x+k)=dO b y (y+k):=sR λi=>by
 refine U Fm<|U Fm ?_;by_cases h:i<k
 ·rw[if_pos<|dR h _,if_pos<|dR h _,jM<|bX (dR h _) c,jM<|bX (dR h _) l];exact congrArg Y<|r i h
 ·exact U (if_neg λk=>h<|oS k)<|U (if_neg λk=>h<|oS k) V
def Gg:ck (xr .k l)=l:=by induction l with
 |nil=>rfl
 |cons x l i=>exact congrArg _ i
def Gx:cU (xr .k l)=l:=by induction l with
 |nil=>rfl
 |cons x l i=>exact congrArg _ i
def SV:ck (xr .o l)=l:=by induction l with
 |nil=>rfl
 |cons x l i=>exact congrArg _ i
def Tu:cU (xr .i l)=l:=by induction l with
 |nil=>rfl
 |cons x l a=>exact congrArg _ a
def r5:hG s<|xr s l:=λx h=>by(refine aH (iG.mp h) λl _ e=>?_;subst e);rfl
def CQ.v(h:CQ a b x y g x' y')(d:x'+e<=a.length)(l:y'+e<=b.length)(r:∀i,i<e->gf a b (x'+i) (y'+i)):
  ck (jE a b (x'+e) x g)=dO a x (x'+e)/\cU (jE a b (x'+e) x g)=dO b y (y'+e):=by
 induction g generalizing x y with
 |nil=>
  cases h.1;cases h.2;exact⟨Gg,Gx.trans<|wA r d l⟩
 |cons c g p=>
  refine aH h.1 λk z q=>bp z λm j=>?_;have n:c.1+c.2.1<=x'+e:=aE (CQ.s h.2).1<|bj _ _;have f:c.2.2.1+c.2.2.2<=y'+e:=aE (CQ.s h.2).2<|bj _ _;refine(?_:ck (xr .k _++xr .o _++xr .i _++_)=_/\cU _=_);refine U pL<|U pL<|U pL<|U pO<|U pO<|U pO<|U Gg<|U Gx<|U SV<|U Tu<|U (Ab r5)<|U (Ak r5)<|U (p h.2).1<|U (p h.2).2<|U (gJ _)<|U (gJ _) ?_;refine⟨?_,?_⟩;·exact U (f7 _ _ _)<|U (rm (bj _ _) n d)<|U (rm (m▸bj _ _) (aE (bj _ _) n) d) V
  ·exact U (by refine U m<|U j ?_;exact wA q (m▸aE (bj _ _) (aE n d)) (j▸aE (bj _ _) (aE f l)):dO a x c.1=dO b y c.2.2.1)<|U (f7 _ _ _)<|U (rm (bj _ _) f l)<|U (rm (j▸bj _ _) (aE (bj _ _) f) l) V
def D4(h:0<l.length):xr s l≠[]:=λe=>by rw[<-s9,e]at h;exact dk _ h
def RO(h:0<c.2.1\/0<c.2.2.2)(f:c.1+c.2.1<=a.length)(e:c.2.2.1+c.2.2.2<=b.length):∃r d,jE a b en t (c::g)=xr .k (dO a t c.1)++(r++d)/\dH (r++d)=false/\∃w∈r,w.1.j=false:=by
 refine gc (xr .o _++xr .i _) (jE a b en _ g) (by refine aP (f7 _ _ _)<|aP (f7 _ _ _) ?_;rfl) ?_;have j:=i9 (i:=c.1) f;have l:=i9 (i:=c.2.2.1) e;rw[vo]at j l;refine bq (nH c.2.1) (λz=>?_) λz=>?_
 ·refine U (Mm.mp<|j.trans z) ?_;have n:=D4 (s:=.i)<|l▸(h.resolve_left<|U z<|dk _);exact tO (oc V r5 n) _ (yH n)<|by refine U (r5 _<|yH n) ?_;rfl
 ·have n:=D4 (s:=.o) (j▸z);exact tO (U (f7 _ _ _)<|oc V r5 n) _ (nJ _<|yH n)<|by refine U (r5 _<|yH n) ?_;rfl
def RN(h:CQ a b t y g x' y')(j:0<e)(l:x'+e<=a.length):c5 (jE a b (x'+e) t g)=true:=by
 induction g generalizing t y with
 |nil=>
  cases h.1;refine(?_:dH _=true);refine aP sL ?_;cases d:(dO a x' _).reverse with
  |nil=>exact(((Q2<|i0 j).resolve_right<|dj.mpr l)<|Dl.mp d).elim
  |cons _ _=>rfl
 |cons c g f=>
  have i:=f h.2;exact(tR λk=>by rw[k]at i;exact aV i).trans i
end
structure Tl(a b:List bH)(L x y k:Nat):Prop where
 r:∀i,i<k->gf a b (x+i) (y+i)
 j:x+k<=a.length
 f:y+k<=b.length
 d:(x+k=a.length/\y+k=b.length)\/2*L<k
section
variable {a b:List bH}{x y x' N k M e L:Nat}{g c:List Pt}{P d:Pt}{h:Hk}
def Tl.m(t:Tl a b L x' N M):∀i,i<min L M->gf a b (x'+i) (N+i):=λi h=>t.r i<|bX h<|j6 _ _
def Tl.l(t:Tl a b L x' N M):x'+min L M<=a.length/\N+min L M<=b.length:=
 ⟨aE (ff (j6 _ _) _) t.j,aE (ff (j6 _ _) _) t.f⟩
def zF:k-min L k=k-L:=bq (jv L k) (λh=>U (fB h) V) λh=>U (ju h)<|U (nB _)<|U (u7 h) V
def zx(h:2*L<k):L+L<k:=yr L▸h
def tq(h:2*L<k):L<k:=cH (bj _ _)<|zx h
def N0{v:Nat}{M:Int}(m:x'-u+M=N-v)(l:v<=N):(N+n-v:Nat)=(x'+n)-u+M:=by refine U (sS<|aE l<|bj _ _) ?_;lia
def NZ(l:x'+M<=n)(a:N+M<=m)(d:(x'+M=n/\N+M=m)\/2*L<M):x'+min L M=n↔N+min L M=m:=by
 rcases d with⟨rfl,rfl⟩|d;·exact⟨λh=>U (ll h) V,λh=>U (ll h) V⟩
 ·exact U (fB<|cI<|tq d)<|⟨λh=>(dk _<|bX (dR (tq d) _)<|h▸l).elim,λh=>(dk _<|bX (dR (tq d) _)<|h▸a).elim⟩
def UN(l:x'+M<=n)(d:x'+M=n\/2*L<M):x'+min L M=min n (x'+L):=by
 rcases d with rfl|d;·exact U (Nat.add_min_add_left _ _ _)<|U (Nat.min_comm _ _) V
 ·exact U (fB<|cI<|tq d)<|U (ju<|aE (ff (cI<|tq d) _) l) V
def W7(a:x=0/\y=0\/L<=k):x+(k-min L k)=x+k-L:=by refine U zF ?_;exact a.elim (λh=>U h.1<|U (cy _)<|U (cy _) V) λh=>(sE h x).symm
def W9(q:CQ a b x y (P::g) x' N)(e:P.1=x+k)(c:P.2.2.1=y+k)(h:x=0/\y=0\/L<=k)(t:Tl a b L x' N M)(lg:(P::g).length<=200)(h9:(P::g).getLast?=Y d):
  GF a b L (P::g) P d (x+(k-min L k)) (x'+min L M) (N+min L M-(y+(k-min L k)))where
 m:=V
 l:=h9
 n:=by exact U e<|W7 h
 o:=by exact U (q.u h9)<|UN t.j<|t.d.imp_left And.left
 t:=(q.t e _<|eE _ _).A ⟨bj _ _,t.l.1⟩<|aE (bj _ _) t.f
 q:=by refine U e<|U c<|U (L4 _ _ _) ?_;exact aE (eE _ _)<|cW _ _
 j:=by exact N0 ((q.t e _<|eE k _).w)<|(q.t e _<|eE k _).s.2
 s:=aE (q.t e _<|eE k _).s.1<|bj _ _
 p:=lg
def GF.i(h:GF a b L g P d st en nm)(f:GF a b L g c0' c9' zK JF Ts):P=c0'/\st=zK/\en=JF/\nm=Ts:=by cases h.m.symm.trans f.m;cases h.l.symm.trans f.l;have e:=h.n.trans f.n.symm;have c:=h.o.trans f.o.symm;subst e;subst c;exact e8 V V V<|MD<|h.j.trans f.j.symm
noncomputable def K8(L x y k e:Nat):Prop:=(x=0/\y=0/\e=0)\/(e=L/\2*L<k)
def W8(q:CQ a b x y (P::g) x' N)(u:P.1=x+k)(R:P.2.2.1=y+k)(F:∀i,i<k->gf a b (x+i) (y+i))(H:0<P.2.1\/0<P.2.2.2)(c:K8 L x y k e)(t:Tl a b L x' N M)
  (C:h.1=(x+(k-min L k)+sg (x'+min L M-(x+(k-min L k))),x'+min L M-(x+(k-min L k)),y+(k-min L k)+sg (N+min L M-(y+(k-min L k))),N+min L M-(y+(k-min L k))))
  (m:h.2.1=jE a b (x'+min L M) (x+(k-min L k)) (P::g)):
  HC a b (x+e) (y+e) h (x+(k-min L k)) (x'+min L M) (y+(k-min L k)) (N+min L M):=by
 have f:=q.t u _<|eE k<|min L k;have j:e<=k-min L k:=c.elim (λh=>h.2.2▸cB _) λh=>by refine U zF<|U h.1 ?_;exact L0<|cI<|zx h.2
 have Q:=aE (CQ.s q.2).1<|aE (bj _ _) t.j;refine xA (RO (t:=x+(k-min L k)) (en:=x'+min L M) (g:=g) H Q<|aE (CQ.s q.2).2<|aE (bj _ _) t.f) λI K v A w B D=>?_;have r:=f.v t.l.1 t.l.2 t.m;refine⟨bW (ff j _) (aE f.s.1<|bj _ _) t.l.1,bW (ff j _) (aE f.s.2<|bj _ _) t.l.2,?_,?_,by refine U m<|r.1,by refine U m<|r.2,C,aO w (by refine U m<|U v ?_;exact gI _<|nJ _ B) D,?_,λp n=>?_⟩
 ·refine bq c (λc=>?_) λc=>?_
  ·refine U c.1 (U c.2.1<|U c.2.2 ?_);refine bq (nH<|k-min L k) (λz=>?_) λz=>?_;·exact .inr ⟨by exact U z V,by exact U z V⟩
   ·exact .inl<|by refine U (cy _)<|U (cy _) ?_;exact z
  ·exact .inl<|dR (by refine U zF<|U c.1 ?_;exact Nat.lt_sub_of_add_lt<|zx c.2) _
 ·have:=wA (k:=k-min L k-e) (x:=x+e) (y:=y+e) (λi E=>by refine U (bY _ _ _)<|U (bY _ _ _) ?_;exact F _<|bX (yC E)<|eE _ _) ?_ ?_;·rw[bY,bY,eT j]at this;exact this
  ·refine U (bY _ _ _)<|U (eT j) ?_;exact aE f.s.1<|aE (bj _ _) t.j
  ·refine U (bY _ _ _)<|U (eT j) ?_;exact aE f.s.2<|aE (bj _ _) t.f
 ·exact NZ t.j t.f t.d
 ·rw[m]at p n;have o:=yA λl=>by rw[RN f l t.l.1]at n;exact aV n
  rw[n,Bool.or_false,v]at p;have G:0<L:=kY λz=>by rw[(Mm.mp (by refine U (i9<|aE (bj _ _) Q)<|U u<|U z<|U (Dc _) ?_;exact nB _):dO a _ P.1=[])]at p;exact aV<|A.symm.trans p
  have s:=(jv L M).elim (λh=>by rw[fB h]at o;exact(ma G o).elim) λh=>(ju h).symm.trans o;refine bq t.d (λd=>?_) λd=>?_;·exact U o<|aP d.1<|U s V
  ·rw[s]at d;exact(lh _ d).elim
end
section
variable {a b:List bH}{x y x' y' X a0 k k' k9 e fy:Nat}{g f:List Pt}{gs:List<|List Pt}{r c:Pt}{h:Hk}
def CP.s(h:CP R x y (g++f) X a0):∃x' y',CP R x y g x' y'/\CP R x' y' f X a0:=by
 induction g generalizing x y with
 |nil=>exact gc x y ⟨V,V⟩ h
 |cons c g a=>exact(a h.2.2).elim λx' i=>i.elim λy' i=>gc x' y' (bW h.1 h.2.1 i.1) i.2
def JK:a.drop i=dO a i a.length:=by unfold dO;exact U il V
def Tt(h:CP (gf a b) x' y' gs.flatten X a0)(t:Tl a b fy X a0 k9)(d:X+k9=a.length/\a0+k9=b.length)(u:∀g∈gs,g≠[])(p:∀f,gs[0]? =Y f->∃m,f[0]? =Y m/\x'+2*fy<m.1):
  ∃k',Tl a b fy x' y' k'/\(gs=[]->k'=k9)/\∀c k,gs.flatten[0]? =Y c->c.1=x'+k->k=k'/\2*fy<k:=by
 induction gs using List.casesOn with
 |nil=>cases h.1;cases h.2;exact(cq k9 t (λ_=>V) λc k e=>aS e)
 |cons f gs=>
  refine aH (p f V) λm i l=>?_;induction f using List.casesOn with
  |nil=>exact aS i
  |cons c f=>
   (have i:=bz i;subst i)
   refine dN h λz _ n=>cw z λr j _ q=>?_;have l:=j.1▸l;have l:=oS l;refine(cq r ⟨q,?_,?_,.inr l⟩ (λe=>(by cases e)) λs k e o=>?_);·exact aP j.1<|aE (aE (bj _ _) n.D.1)<|aE (bj _ _) t.j
   ·exact aP j.2<|aE (aE (bj _ _) n.D.2)<|aE (bj _ _) t.f
   ·(have e:=bz e;subst e)
    cases ll (o.symm.trans j.1);exact⟨V,l⟩
def W6(h:CP (gf a b) x y gs.flatten X a0)(t:Tl a b fy X a0 k9)(d:X+k9=a.length/\a0+k9=b.length)(H:∀g∈gs,g≠[])
  (P:∀i s m,gs[i]? =Y s->gs[i+1]? =Y m->∃v u,s.getLast?=Y v/\m[0]? =Y u/\v.1+v.2.1+2*fy<u.1)
  (a1:gs=[]->e<=k9) (Q:∀c k,gs.flatten[0]? =Y c->c.1=x+k->K8 fy x y k e) (R:gs.flatten.length<=200):
  ya a b fy gs/\∀j:List (List Pt×Hk),j.map (·.1)=gs->(∀z∈j,HG a b fy z.1 z.2)->CC a b (x+e) (y+e) (j.map (·.2)):=by
 induction gs generalizing x y e with
 |nil=>
  cases h.1;cases h.2;refine⟨λg f=>(dM f).elim,λj n _=>?_⟩;refine U (List.map_eq_nil_iff.mp n) ?_;refine(?_:a.drop _=b.drop _);have:=wA (x:=X+e) (y:=a0+e) (λi W=>by refine U (bY _ _ _)<|U (bY _ _ _) ?_;exact t.r _<|yC W) (by refine U (bY _ _ _)<|U (eT<|a1 V) ?_;exact t.j)<|by refine U (bY _ _ _)<|U (eT<|a1 V) ?_;exact t.f
  rw[bY,bY,eT<|a1 V,d.1,d.2]at this;refine U JK<|U JK ?_;exact this
 |cons g gs ih=>
  induction g using List.casesOn with
  |nil=>exact(H [] (gZ ..) V).elim
  |cons r g=>
   rw[vI]at h;refine fY (CP.s h) λx' y' f h=>?_;have q:=f.q;refine dN f λC K _=>cw C λk L _ hr=>bp L λp n=>?_;refine cw (Tt h t d (λg f=>H g<|lq _ f) λm o=>(P 0 _ m V o).elim λv i=>i.elim λu i=>aO u i.2.1<|aP (q.u i.1)<|i.2.2) λk' a2 hk a3=>?_;have i:=ih (e:=min fy k') h (λg f=>H g<|lq _ f) (λi s m D o=>P _ s m D o) (λe=>by refine U (hk e)<|j6 _ _) (λc k D o=>.inr (by have:=a3 c k D o;exact⟨fB (aE (by refine U (yr _)<|bj _ _) (cI (this.1▸this.2))),this.2⟩)) (aE (by refine U vI (U bZ ?_);exact cW _ _) R)
   have M:=W9 q p n ((Q r k V p).imp (λh=>⟨h.1,h.2.1⟩) λh=>cI<|cH (by refine U (yr _)<|bj _ _) h.2) a2 (aE (by refine U vI<|U bZ ?_;exact bj _ _) R)<|yI<|nM _ _;refine⟨λS l=>?_,λj G N=>?_⟩
   ·rcases gH.mp l with rfl|l;·exact⟨_,_,_,_,_,M⟩
    ·exact i.1 S l
   ·induction j using List.casesOn with
    |nil=>cases G
    |cons z j=>
     obtain⟨z1,z2⟩:=z;cases(i3 G).1;refine Bw (N _ (gZ ..)) λa4 Z st JF nm E B T=>?_
     (refine fG (M.i E) λF I w A=>?_;subst F;subst I;subst w;subst A)
     have B:=(U p (U n<|U (L4 _ _ _)<|U (sE (eE _ _) _)<|U (Nat.sub_sub_self<|eE _ _) V):r.2.2.1-(r.1-(x+(k-min fy k)))=y+(k-min fy k))▸B;exact Aq _ _ _ _ (W8 q p n hr K (Q r k V p) a2 B T)<|i.2 j (i3 G).2 λz hm=>N z<|lq _ hm
def J5(i:CO (gf a b) a.length b.length f)(c:iX fy gs f)(l:a.length+b.length<=60):ya a b fy gs/\∀g:List<|List Pt×Hk,g.map (·.1)=gs->(∀z∈g,HG a b fy z.1 z.2)->CC a b 0 0 (g.map (·.2)):=by refine ia i λX a0 k9 h d r=>?_;refine W6 (c.f▸h) ⟨r,bb d.1,bb d.2,.inl d⟩ d c.n c.s (λ_=>cB _) (λ_ _ _ _=>.inl<|bW V V V) ?_;refine U c.f ?_;exact aE (aE (cW _ _) h.I)<|aE (ed (d.1▸bj _ _)<|d.2▸bj _ _)<|aE l<|by decide
end
end bc
end
section
set_option backward.match.sparseCases false
namespace bc
open P
section
variable {N j m d w many:Nat}{H:Hp}{E Q:VK}{k:AV}{s t:List UInt8}
def IH(n:s.length<sz)(e:t.length<sz)(a:(cR s).length+(cR t).length<=60)(l:j<=60)(d:k∈pY)(q:∀c,CC (cR s) (cR t) 0 0 c->Q (.g<|c.map dz) H):
  aR prog (N+7) 36 [.d s,.d t,.c j,.c m,k] Q E H:=
 Wh n e V V a l d (λi g h b=>(J5 h b a).1) λg z h b f=>q _<|(J5 h b a).2 z V f
end
noncomputable def FG:qC:=eH "cells"
noncomputable def wH:qC:=eH "mixed"
noncomputable def fS(d w:Nat)(H:Hp):Prop:=∃(c:List Int)(m:Nat)(f:qC->Option AV),H d=Y (.e f 2)/\f FG=Y (.f w)/\f wH=Y (.c m)/\m<2147483648/\H w=Y (.b<|c.map .c)/\w≠d
section
variable {g:Gm}{F:cF}{N d w many n:Nat}{H:Hp}{E Q:VK}{x y:X}{v:AV}{f:qC->Option AV}{s:qC}{m b:ba}{r:List S}{K:FK}{l:List AV}
def v'(h:ae g x<|.f d)(o:g.H d=Y (.e f n))(e:f s=Y v):ae g (.l x<|.e<|.m s) v:=λE Q q=>h E _<|xU o<|bQ s _ V e q
def Rb(a:ae ⟨F,m,[],H⟩ x v)(h:ae ⟨F,m,[],H⟩ y<|.f d)(o:H d=Y (.e f n))(e:(f s).isSome=true)(z:n<sz)(q:aK F r m K<|H.ag d<|.e (λx=>if x=s then Y v else f x) n):aK F (.d (.e y<|.e<|.m s) x::r) m K H:=
 a _ _ (h _ _<|qg o<|jH s V e z q)
def ZJ(a:ae ⟨F,m,b,H⟩ y<|.f w)(h:H w=Y (.b<|l++[v]))(q:Q v<|H.ag w<|.b l):den F E m b (.r .l [y]) Q H:=
 a E _ ⟨gc w _ V h,dG w _ _ V h vE<|U Mv<|q⟩
def rU(h:den F E m b x (λa=>den F E m b y λv=>iw op mu a v Q) H):den F E m b (.j op mu x y) Q H:=h
def w1(a:Int)(h:0<many):∃r:Nat,a%many=r/\r<many:=have c:=MF.mpr h;have b:=Int.emod_nonneg a<|yO c;(aO (a%many).toNat (g7 b).symm<|(MA b).mpr<|Int.emod_lt_of_pos a c)
def jQ(y:fS d w H)(o:0<many)(B:many<1000)(q:∀r D,r<many->fS d w D->Q (.c r) D):aR prog (N+1) 44 [.f d,.c many] Q E H:=by
 refine lO y λn i f h b j u g a=>?_;have v:(0:Int)<many/\many<ix:=⟨MF.mpr o,Int.lt_trans (yN.mpr B)<|by decide⟩;refine ct (m:=[Y _,Y _]) V V<|cg (iJ (v' J h b)<|dT g) (λe=>?_) λe=>bT ?_
 ·(refine gR ((wZ n).resolve_left λk=>by rw[k]at e;exact aV e) λx c p=>?_;subst p)
  refine aH (w1 c o) λr t l=>?_;refine g8 λC=>rU<|ZJ (v' J h b) (cz▸g) ?_;refine eX c many V V v ?_;refine(?_:e7 Q E (.c _) [] _);refine U t ?_;exact cD (.h _)<|q r _ l<|lJ x i f ((Hp.I _ _ a.symm).trans h) b j u (Hp.t _ _ _) a
 ·refine aH (w1 _<|by decide) λk z A=>Rb (ez (wb (eA (zi (v' J h j) aL<|⟨gg (u)<|by decide,by decide⟩) aL) aL<|by decide) z) J h (show(f wH).isSome=true by refine U j ?_;rfl) (by decide) ?_;refine aH (w1 (k/64) o) λr t l=>?_;exact cQ (ez (wb (zt (v' (s:=wH) J (Hp.t _ _ _)<|if_pos V) aL<|by decide) J v) t)<|cD (.h _)<|q r _ l<|lJ n k _ (Hp.t _ _ _) ((if_neg<|by decide+kernel).trans b) (if_pos V) (lj A) ((Hp.I _ _ a).trans g) a
end
noncomputable def Tx(n:Nat)(z:List bH):Prop:=z.length<=n/\∀l∈z,l.length<=2
section
variable {g:Gm}{F:cF}{N d w many n k i j:Nat}{H:Hp}{E Q:VK}{x y A:X}{v:AV}{m B:ba}{r b:List S}{K:FK}{l:List AV}{z:List bH}{op:Bi}{t:List Nat}{u:Bool}{a:gV}{c xs:List X}
def ZU(h:den F E m B x (λo H=>jF op H o/\gC op [o] Q H) H):den F E m B (.r op [x]) Q H:=h
def Aj(z:vs.length<=sz)(q:Q (.g vs) H):iR false vs Q H:=⟨z,q⟩
def JT(h:den F E m B x (λv H=>iR false [v] Q H) H):den F E m B (.m false [x]) Q H:=h
def ZO(h:den F E m B x (λv b=>den F E m B (.u A t u a [.e v] c) Q b) H):den F E m B (.u A t u a [x] c) Q H:=h
def Fv(h:∀E,den F E m [] x (λv c=>aK F (.j t u a [.e v] b::r) m K c) H):aK F (.j t u a [x] b::r) m K H:=h _
def ZP(r:n<=sz)(I:Nat->List AV->Hp->Prop)(g:I 0 [] H)
  (t:∀k a v,k<n->I k a v->∀x:Option AV->Hp->Prop,(∀u b,I (k+1) (a++[u]) b->x (Y u) b)->den F (λ_ _=>False) m ((dC 8 O).set i<|Y<|.c k) A (λu=>x<|Y u) v)
  (q:∀a v,I n a v->a.length<=sz/\Q (.g a) v):den F E m B (.u A [i] false .b [.e<|.c n] []) Q H:=by
 refine(?_:(match dX .b H [.c n]with|some w=>f3 (λv=>eg .b H v [.c n]) _ w [] (λl H=>l.length<=sz/\Q _ H) H|aY=>False));have e:dX .b H [.c n]=Y ((fm n (0:Nat) 1).map .c):=by refine(?_:(if(n:Int).natAbs<=sz then Y _ else O)=_);have:=wO 0 n;rw[cy]at this;exact(if_pos<|r).trans<|congrArg (λl=>Y _) this
 refine U e ?_;have d:∀s,(∀k K v,den F (λ_ _=>False) m ((dC 8 O).set i<|Y<|.c k) A (λu=>K<|Y u) v->s (.c k) K v)->
   ∀p k a v,k+p=n->I k a v->f3 (λv=>eg .b H v [.c n]) s ((fm p k 1).map .c) a (λl H=>l.length<=sz/\Q (.g l) H) v:=by
  intro s hs p;induction p with
  |zero=>exact λk a v e f=>⟨trivial,q a v<|e▸f⟩
  |succ p j=>exact λk a v e f=>⟨trivial,hs k _ v<|t k a v (e▸i0 (fU _)) f (λo v=>f3 _ s ((fm p _ 1).map .c) (match o with|some u=>a++[u]|aY=>a) _ v) λu b c=>j _ _ b ((cG k 1 p).trans e) c⟩
 exact d _ (λ_ _ _ h=>h) n 0 [] H (cy _) g
def za{α:Type}{f}{z:List α}(h:ae g x<|.g<|z.map f)(a:ae g y<|.c n)(k:n<=z.length):ae g (.w x (.e .k) y)<|.g<|(z.take n).map f:=λE Q q=>h E _ (a E _ (by
 refine ou V V V (?_:Q (.g<|eV _ O<|Y n) g.H);have:eV (z.map f) O (Y n)=(z.take n).map f:=by refine(?_:mw 0 (nI (eF _ n) _)=_);unfold eF;refine U (if_pos<|f9 n)<|U (pa _)<|U (bx _)<|U (fB k)<|U vA ?_;rfl
 refine U this<|q))
def Ep{α:Type}{f}{z:List α}(h:ae g x<|.g<|z.map f)(a:ae g y<|.c n):ae g (.w x y<|.e .k)<|.g<|(z.drop n).map f:=λE Q q=>h E _ (a E _ (by
 refine ou V V V (?_:Q (.g<|eV _ (Y n) O) g.H);have:eV (z.map f) (Y n) O=(z.drop n).map f:=by refine(?_:mw (eF (z.map f).length n) (nI (z.map f).length _)=_);unfold eF;refine U (if_pos<|f9 n)<|U (pa _)<|U il<|U Dv ?_;exact bq (jv n (z.map f).length) (λl=>U (fB l) V) λl=>U (ju l)<|U vM<|U (List.drop_eq_nil_of_le l) V
 refine U this<|q))
def G9(b:fS d w H)(q:∀(l:bH)a,l.length=2->fS d w a->Q (.d l) a):aR prog (N+2) 45 [.f d] Q E H:=by refine ct (m:=[Y _]) V V<|g8 λf=>rU<|ZU<|JT<|rU<|dP (bB J aL)<|jQ b (by decide) (by decide) λr a e h=>?_;exact rZ ⟨by refine(?_:1<=sz);decide,trivial,cq _ V (i5 (b9 λz=>aJ [_] [] [.l 1 (.a (.a (.n 97) af) aM) bJ] V z) (fR λz=>aJ [_] [] [.l 1 (.c<|.a bo aX)<|.c<|.n 4,.l 1 (.n 256)<|.a (.n 97) af] V (nl e) z):0<=97+(r:Int)/\97+(r:Int)<256)<|.inr<|.inl<|eX _ _ V V (by refine(?_:2<=sz);decide)<|cD (.h _)<|q [_,_] _ V h⟩
def O7(s:fS d w H)(q:∀z A,Tx 7 z->fS d w A->Q (.g<|z.map .d) A):aR prog (N+3) 46 [.f d] Q E H:=by
 refine ct (m:=[Y _]) V V<|g8 λu=>ZO<|dP (bB J aL)<|jQ s (by decide) (by decide) λr v n i=>?_;refine ZP (aE (cI n)<|by decide) (λk a A=>fS d w A/\∃z:List bH,a=z.map .d/\z.length=k/\∀l∈z,l.length<=2) (pR i [] V V λ_ h=>(dM h).elim) (λk a A y g C t=>?_) λa A g=>?_
 ·(refine rQ g λc z b e j=>?_;clear g;subst b)
  exact dP (cJ J)<|G9 c λl o p f=>t _ _ (pR f (z++[l]) (by refine U cz ?_;rfl) (by refine U bZ<|U e ?_;rfl) λx B=>(fM.mp B).elim (j x) λB=>by refine U (dm.mp B)<|U p ?_;exact bN _)
 ·(refine rQ g λc z b e j=>?_;clear g;subst b)
  refine⟨?_,cD (.h _)<|q z _ ⟨?_,j⟩ c⟩;·refine U (bx _)<|U e ?_;exact aE (cI n)<|by decide
  ·exact U e<|f6 n
def JU(e:m[i]? =Y (Y<|.g<|z.map .d))(c:m[j]? =Y (Y<|.c k))(t:m[0]? =Y (Y<|.f d))(y:k<=z.length)(h:Tx n z)(u:n<=100)(v:fS d w H)
  (q:∀a A,Tx (n+1) a->fS d w A->Q (.g<|a.map .d) A):den (aR prog<|N+2) E m [] (.j .a false (.j .a false (.w (.d i) (.e .k)<|.d j)<|.m false [.p 45 [.d 0]])<|.w (.d i) (.d j)<|.e .k) Q H:=by
 refine rU<|rU<|za (g:=⟨_,m,[],H⟩) (J e) (J c) y E _<|JT<|dP (cJ<|J t)<|G9 v λl A s b=>?_;have p:(z.take k++[l]++z.drop k).length=z.length+1:=by refine U bZ<|U bZ<|U (cG _ _ _)<|aP bZ<|U (oV _ _) ?_;rfl
 have r:(z.take k++[l]++z.drop k).map AV.d=(z.take k).map AV.d++[AV.d l]++(z.drop k).map AV.d:=by refine U cz<|U cz ?_;rfl
 have o:(z.take k++[l]++z.drop k).length<=101:=by refine U p<|c7<|aE h.1 u
 refine Aj (by refine(?_:1<=sz);decide) ?_;refine(?_:iw .a false _ _ _ A);refine xV V V<|Aj ?_ ?_
 rotate_left
 refine Ep (g:=⟨_,m,[],A⟩) (J e) (J c) E _ ?_;refine(?_:iw .a false (.g _) _ _ A);refine xV V V<|Aj ?_ ?_
 rotate_left 2
 ·have:((z.take k).map AV.d++[AV.d l]).length<=(z.take k++[l]++z.drop k).length:=by refine U bZ<|U (bx _)<|U bZ<|U bZ ?_;exact bj _ _
  exact aE this<|aE o<|by decide
 ·refine aP r<|U (bx _) ?_;exact aE o<|by decide
 ·refine aP r<|q _ _ ⟨by refine U p<|c7 h.1,λx f=>?_⟩ b;refine bq (fM.mp f) (λf=>?_) λf=>?_
  ·refine bq (fM.mp f) (λf=>?_) λf=>?_;·exact h.2 x<|vz f
   ·refine U (dm.mp f)<|U s ?_;exact bN _
  ·exact h.2 x<|Me f
end
section
variable {g:Gm}{F:cF}{N d w many n k i j f:Nat}{H:Hp}{E Q:VK}{x y:X}{v:AV}{m l:ba}{r a b:List S}{K:FK}{ls:List bH}{xs:List X}{o:List AV}{p:Hp->Prop}
def ZZ(d:eM ⟨F,m,l,H⟩ xs o)(h:∀a,(∀r g,p g->a (.c r) g)->F f o a E H)(q:∀b g,p g->Q (.e b) g):mW F E m l true [.h .f (.p f xs)<|.e<|.c 0] Q H:=
 d E _ (h _ λr g c=>by
  refine(?_:(if decide (0<r)=true then Q _ g else Q (.e<|decide (0<r)) g));by_cases e:decide (0<r)=true;·exact U (if_pos e)<|q _ _ c
  ·exact U (if_neg e)<|q _ _ c)
def Rk(i:eM ⟨F,m,[],H⟩ xs o)(h:∀E Q,(∀r k,p k->Q (.c r) k)->F f o Q E H)(q:∀k,p k->aK F a m (e9 (λl c=>aK F r l c) K) k)(j:∀k,p k->aK F b m (e9 (λl c=>aK F r l c) K) k):
  aK F (.g (.h .a (.p f xs)<|.e<|.c 0) a b::r) m K H:=
 i _ _ (h _ _ λd k g=>by
  refine(?_:(if decide (d=0)=true then aK F a m _ else aK F b m _) k);by_cases e:decide (d=0)=true;·exact U (if_pos e)<|q _ g
  ·exact U (if_neg e)<|j _ g)
def ZL(d:eM ⟨F,m,l,H⟩ xs o)(h:∀a,(∀r g,p g->a (.c r) g)->F f o a E H)(q:∀g,p g->den F E m l x Q g)(e:∀g,p g->den F E m l y Q g):
  den F E m l (.D (.h .a (.p f xs)<|.e<|.c 0) x y) Q H:=
 d _ _ (h _ λb g c=>by
  refine(?_:(match AV.e (decide (b=0))with|.e true=>den F E m l x Q g|.e false=>den F E m l y Q g|_=>False));cases decide (b=0);·exact e _ c
  ·exact q _ c)
def BN(a:fS d w H)(c:0<many)(b:many<1000)Q(q:∀r e,fS d w e->Q (.c r) e):aR prog (N+1) 44 [.f d,.c many] Q E H:=jQ a c b λr e _ h=>q r e h
def Tx.c(h:Tx n ls)(l:n<=k):Tx k ls:=⟨aE h.1 l,h.2⟩
noncomputable def O6(d:Nat)(u:AV)(ls:List bH)(a o:Option AV):ba:=[Y<|.f d,Y u,Y<|.g<|ls.map .d,a,o]
def OQ(T:fS d w H)(K:Tx 7 ls)(q:∀g H',Tx 9 g->fS d w H'->Q (.g<|g.map .d) H'):aR prog (N+3) 47 [.f d,.g<|ls.map .d] Q E H:=by
 refine ct (m:=[Y _,Y _,O,O,O]) V V<|fQ λa3=>?_;refine ur AV.d (ls:=ls) J V (λp n H'=>fS d w H'/\∃f:List bH,n=f.map .d/\f.length<=p.length/\∀l∈f,l.length<=2) (pR T [] V (bN _) λ_ h=>(dM h).elim) (λ_ _ _ _=>V) (λp c q' n H' e a a4 I=>?_) λn H' a=>?_
 ·(refine rQ a λB f j o s=>?_;clear a;subst j)
  refine ZZ (bB J aL) (BN B (by decide)<|by decide) λb a1 i=>?_;induction b using Bool.casesOn;·exact I O _<|pR i f V (U bZ<|aE o<|bj _ _) s
  ·exact I _ _<|pR i (f++[c]) (by refine U cz ?_;rfl) (by refine U bZ<|U bZ ?_;exact hS o _) λx hx=>(fM.mp hx).elim (s x) λhx=>by refine U (dm.mp hx)<|K.2 c<|e▸gI _ (gZ ..)
 (refine rQ a λC f j o s=>?_;clear a;subst j)
 have F:Tx 7 f:=⟨aE o K.1,s⟩;refine⟨by refine U (bx _)<|aE F.1<|by decide,Fv λX=>dP (bB J aL)<|jQ C (by decide) (by decide) λr L A z=>?_⟩;refine zT aL (aE (cI A)<|by decide) (λt=>O6 d (.g _) t.1.1 t.2.1 t.2.2) (λ_ t=>t.1.2) (λk t=>fS d w t.1.2/\Tx (7+k) t.1.1) ((f,L),O,O) V V ⟨z,F⟩ (λk t M a a0 v _=>?_) λt a=>?_
 ·have G:7+k<=100:=aE (ff (cI<|gg M A) 7) (by decide);refine fQ λW=>dP (bB J<|eI (gj AV.d J) aL)<|jQ a.1 (fU _) (cH (c7<|aE a.2.1 G)<|by decide) λD Z R y=>?_;exact fQ λa2=>JU V V V (f6 R) a.2 G y λg S P u=>bO<|v ((g,S),_,_) ⟨u,P⟩
 ·exact cQ J<|cD (.h _)<|q _ _ (a.2.c<|ff (f6 A) 7) a.1
noncomputable def GG(d:Nat)(ls:List bH)(o a:Option AV):ba:=[Y<|.f d,Y<|.g<|ls.map .d,o,a]
def UJ(R:fS d w H)(l:Tx 7 ls)(q:∀p a,Tx 10 p->fS d w a->Q (.g<|p.map .d) a):aR prog (N+3) 48 [.f d,.g<|ls.map .d] Q E H:=by
 refine ct (m:=[Y _,Y _,O,O]) V V<|Fv λS=>dP (bB J aL)<|jQ R (by decide) (by decide) λr L B v=>?_;refine zT aL (aE (cI B)<|by decide) (λt=>GG d t.1.1 t.2.1 t.2.2) (λ_ t=>t.1.2) (λk t=>fS d w t.1.2/\Tx (7+k) t.1.1) ((ls,L),O,O) V V ⟨v,l⟩ (λk t M o Z u _=>?_) λt o=>?_
 ·have A:7+k<=100:=aE (ff (cI<|gg M B) 7) (by decide);refine fQ λW=>dP (bB J<|eI (gj AV.d J) aL)<|jQ o.1 (fU _) (cH (c7<|aE o.2.1 A)<|by decide) λj X G y=>?_;refine Rk (bB J aL) (λE=>BN y (by decide)<|by decide) (λC s=>?_) λC s=>?_;·exact fQ λT=>JU V V V (f6 G) o.2 A s λp P K D=>bO<|u ((p,P),_,_) ⟨D,K⟩
  ·have e:(t.1.1.take j++t.1.1.drop (j+1)).length<=t.1.1.length:=by
    refine U bZ<|U nK<|U mq ?_;exact b8 λf=>i7 _ _ (λF z=>aJ [_,_,_,_] [] [.l 1 (.c<|.a aZ aX)<|.c<|.a bA bK,.l 1 bf af,.e 1 (.c<|.a bK<|.a bo<|.n 1) aG] V f (nl<|oQ (j) _) z) λF z=>aJ [_,_,_] [] [.l 1 (.c<|.a bo aX)<|.c<|.a aZ bA,.l 1 aG af,.e 1 bf bJ] V f (nl<|j6 (j) _) z
   have I:=mJ (za (g:=⟨aR prog<|N+2,GG d t.1.1 (Y<|.c k)<|Y _,[],C⟩) (J (i:=1) V) (J (i:=3) V)<|f6 G) (Ep (n:=j+1) (J (i:=1) V)<|eI (b:=1) (mu:=false) (J (i:=3) V) aL) (by refine aP cz (U (bx _) ?_);exact aE e (aE o.2.1 (aE A (by decide))))
   rw[<-cz]at I;exact cv I<|bO<|u ((_,C),_,_)<|bW s (aE e<|aE o.2.1<|mg _) λx c=>(fM.mp c).elim (λh=>o.2.2 x<|vz h) λh=>o.2.2 x<|Me h
 ·exact cQ J<|cD (.h _)<|q _ _ (o.2.c<|ff (f6 B) 7) o.1
end
section
variable {g:Gm}{F:cF}{N d w many n k i j f:Nat}{H:Hp}{E Q:VK}{x y:X}{v:AV}{m e:ba}{r a b:List S}{K:FK}{o:List bH}{xs:List X}{c:List AV}{p:Hp->Prop}{s t:List UInt8}
def OA(h:ae g x<|.d s)n(a:ae g y<|.c n):ae g (.w x (.e .k) y)<|.d<|eV s O<|Y n:=λE Q q=>h E _<|a E _<|xT V V q
def PQ n:(eV s O<|Y n).length<=s.length:=by refine(?_:(mw 0<|nI _ s).length<=_);refine U vL<|U nK ?_;exact j6 _ _
def AX(h:Tx n o):(iq o).length<=2*n:=by
 have:∀o:List bH,(∀l∈o,l.length<=2)->(iq o).length<=2*o.length:=by
  intro o;induction o with
  |nil=>exact λ_=>bN _
  |cons l o i=>
   intro h;refine(?_:(l++iq o).length<=_);refine U bZ<|U j8<|U (LX _ _)<|U (fh _ _) ?_;exact ed (i λx a=>h x<|lq _ a)<|h l (gZ ..)
 exact aE (this o h.2)<|j5 2 h.1
def Ac(c:fS d w H)(a:Tx n o)(e:n<=10)(q:∀s f,s.length<=2*n->fS d w f->Q (.d s) f):aR prog (N+2) 49 [.f d,.g<|o.map .d] Q E H:=by refine ct (m:=[Y _,Y _,O]) V V<|cv (zo J<|aE (AX a)<|aE (j5 2 e)<|by decide)<|g8 λb=>?_;exact ZL (bB J aL) (BN c (by decide)<|by decide) (λf h=>OA (g:=⟨aR prog<|N+1,[Y _,Y _,Y _],[],f⟩) J (-1) (gi aL) b _<|cD (.h _)<|q _ _ (aE (PQ<|-1)<|AX a) h) λf h=>J (g:=⟨aR prog<|N+1,[Y _,Y _,Y _],[],f⟩) V b _<|cD (.h _)<|q _ _ (AX a) h
def Ec(h:ae g x<|.d s)(z:s.length<sz):ae g (.r .g [x,.e<|.d [10]])<|.g<|(dD s).map .d:=λE Q q=>h E _ ⟨⟨s,V⟩,⟨s,V,z,q⟩⟩
noncomputable def lL(s:List UInt8):List bH:=match(dD s).getLast? with
 |some []=>[]
 |some l=>[l]
 |none=>[]
def wx s:dD s≠[]:=by
 induction s using List.casesOn with
 |nil=>exact nM _ _
 |cons c r=>
  unfold dD;by_cases h:c=10;·exact U (if_pos h)<|nM _ _
  ·refine U (if_neg h) ?_;cases dD r<;>exact nM _ _
def AF s:cR s=(dD s).dropLast.map (·++[10])++lL s:=by
 induction s with
 |nil=>rfl
 |cons c r i=>
  unfold cR;by_cases h:c=10
  ·refine U (if_pos h) (U h<|U i ?_);have e:dD (10::r)=[]::dD r:=if_pos V;cases a:dD r with
   |nil=>exact((wx r) a).elim
   |cons p t=>
    unfold lL;refine U e<|U a ?_;rfl
  ·refine U (if_neg h) (U i ?_);have e:dD (c::r)=(match dD r with|p::t=>(c::p)::t|[]=>[[c]]):=if_neg h;cases a:dD r with
   |nil=>exact((wx r) a).elim
   |cons p t=>
    rw[a]at e;unfold lL;refine U e<|U a ?_;induction t using List.casesOn with
    |nil=>induction p using List.casesOn<;>rfl
    |cons b t=>rfl
def VH(z:s.length<sz)(q:Q (.g<|(lL s).map .d) H):aR prog (N+1) 50 [.d s] Q E H:=by
 refine gR ((wZ _).resolve_left<|wx s) λt p e=>?_;have a:(dD s).getLast?=Y p:=by refine U e<|vE
 refine ct (m:=[Y _,O]) V V<|cv (wd (Ec J z) a)<|cQ (gM (fW J aL V) (λh=>?_) λh=>?_)<|cD (.h _) q
 ·have:lL s=[p]:=by
   unfold lL;refine U a ?_;induction p using List.casesOn with
   |nil=>exact aV h
   |cons _ _=>rfl
  refine U this<|tf (cJ J)<|by refine(?_:1<=sz);decide
 ·have:lL s=[]:=by
   unfold lL;refine U a ?_;induction p using List.casesOn with
   |nil=>rfl
   |cons _ _=>exact aV h
  exact U this<|qX
end
section
variable {g:Gm}{F:cF}{N d w n:Nat}{H:Hp}{E Q:VK}{x y:X}{m i:ba}{v:List Int}{s1 s2:qC}{u:AV}{l:List AV}
def Oe{α:Type}{f}{b:List α}(h:ae g x<|.g<|b.map f)(a:ae g y<|.c n):ae g (.w x (.e .k) y)<|.g<|(b.take n).map f:=by
 refine bq (jv n b.length) (λl=>?_) λl=>?_;·exact za h a l
 ·refine λE Q q=>h E _ (a E _ ?_);refine ou V V V (?_:Q (.g _) g.H);have:eV (b.map f) O (Y n)=(b.take n).map f:=by
   refine(?_:mw 0 (nI (eF _ n) _)=_);unfold eF;refine U (if_pos<|f9 n)<|U (pa _)<|U (bx _)<|U (ju l)<|aP vA<|U il<|U (vu l) ?_;rfl
  exact U this<|q
def ZN(f:s1≠s2)(k:∀H,ae ⟨F,m,i,H⟩ x<|.g l)(h:∀H,ae ⟨F,m,i,H⟩ y u)(c:l.length<=sz)
  (q:∀a b j,b≠a->j b=Y (.b l.reverse)->j a=Y (.e (λx=>if x=s1 then Y<|.f b else if x=s2 then Y u else aY) 2)->Q (.f a) j):den F E m i (.B .s [.m s1,.m s2] [.K true x,y]) Q H:=λa g=>
 k (H.ag a _) E _ ⟨l,V,by refine U yE<|c,λb d=>h ((H.ag a _).ag b _) E _ (by have n:=Hp.ne (Hp.t _ _ _) d;refine⟨(Hp.I _ _ n).trans<|Hp.t _ _ _,?_⟩;have e:mR .s [.m s1,.m s2] [.f b,u]=Y _:=if_neg f;refine U e ?_;exact q a b _ n.symm ((Hp.I _ _ n.symm).trans (Hp.t _ _ _)) (Hp.t _ _ _))⟩
noncomputable def Zv(v c:List Int)(m:Nat)(o:Option AV):ba:=[Y<|.g<|v.map .c,Y<|.g<|c.map .c,Y<|.c m,o]
def ZG(q:∀d w x,fS d w x->Q (.f d) x):aR prog (N+1) 43 [.g<|v.map .c] Q E H:=by
 have g:(v.take 48).length<=48:=by exact U nK<|oQ _ _
 refine ct (m:=[Y _,O,O,O]) V V<|jD (cO<|bB (wg AV.c AV.c (Oe (n:=48) J aL) V (aE g<|by decide) λc _=>(aO _ V λE Q q=>⟨trivial,.inl ⟨c,V,q⟩⟩)) aL) ?_;refine mO AV.c (l:=v.take 48) J V (λt=>Zv v _ t.1 t.2) (λ_ _=>H) (λ_ _ t=>t.1<1000003) (7,O) V V (by decide) (λ_ _ _ _=>V) (λp c y t e f K h=>?_) λt f=>?_;·exact aH (w1 _<|by decide) λk j r=>cv (ez (wb (eA (zi J aL<|⟨gg (f)<|by decide,by decide⟩) J) aL<|by decide) j)<|bO<|h (k,_) r
 ·exact g8 λu=>ZN (s1:=FG) (s2:=wH) (by decide+kernel) (λH=>J V) (λH=>J V) (U (bx _)<|aE g<|by decide) λa b x o s i=>cD (.h _)<|q a b x<|lJ (v.take 48).reverse t.1 _ i (if_pos V) ((if_neg<|by decide+kernel).trans<|if_pos V) (gg f<|by decide) (U sL<|s) o
end
section
variable {g:Gm}{F:cF}{N d w n C i f:Nat}{H:Hp}{E Q:VK}{x y z x4 p:X}{m c:ba}{s t:List UInt8}{u v:AV}{l h:List AV}{K:FK}{j:List Hk}{L a b:List bH}{e:Option Nat}{k q:Nat}{o:Int}{A:List bH}
def JR(h:den F E m c x (λv=>den F E m c y λu=>Q<|.l [v,u]) H):den F E m c (.q [x,y]) Q H:=h
def ZV(h:den F E m c x (λv=>ov C i v Q) H):den F E m c (.g C i x) Q H:=h
def ZR(d:ae ⟨F,m,c,H⟩ x v)(a:ae ⟨F,m,c,H⟩ y u)(h:den F E m c z (λb e=>den F E m c (.p f [.e v,.e u,.e b,x4,p]) Q e) H):den F E m c (.p f [x,y,z,x4,p]) Q H:=d E _<|a E _ h
def ZS(a:ae ⟨F,m,c,H⟩ x v)(h:den F E m c y (λu b=>den F E m c (.p f [.e v,.e u]) Q b) H):den F E m c (.p f [x,y]) Q H:=a E _ h
def F8{r:Nat}(e:l[r]? =Y v)(q:Q v H):mM (.g l) (.c r) Q H:=wk V (tK (et.mp e).1) e q
def JS(a:ae ⟨F,m,c,H⟩ x<|.g l)(h:den F E m c y (λu b=>mM (.g l) u Q b) H):den F E m c (.l x y) Q H:=a E _ h
def AH s:(cR s).length<=s.length:=by
 induction s with
 |nil=>exact bN _
 |cons c r i=>
  unfold cR;by_cases h:c=10;·exact U (if_pos h)<|c7 i
  ·refine U (if_neg h) ?_;cases a:cR r with
   |nil=>exact c7<|cB _
   |cons p t=>rw[a]at i;exact gY i
def U4:lw a=(iq a).length+a.length:=by
 induction a with
 |nil=>rfl
 |cons l a i=>
  refine(?_:l.length+1+lw a=(l++iq a).length+(a.length+1));refine U bZ<|U i ?_;exact dB (aW [_,_,_] (.a (.a (.v 0)<|.n 1)<|.a (.v 1)<|.v 2) (.a (.a (.v 0)<|.v 1)<|.a (.v 2)<|.n 1) [] V)<|aW [_,_,_] (.a (.a (.v 0)<|.v 1)<|.a (.v 2)<|.n 1) (.a (.a (.v 0)<|.n 1)<|.a (.v 1)<|.v 2) [] V
def nZ(h:s.length<=n):(cR s).length<=n/\lw (cR s)<=2*n:=by have:=AH s;refine⟨aE this h,?_⟩;refine U U4<|U (AY _)<|U (yr _) ?_;exact ed h<|aE this h
def Ap.P{r:Nat}(h:Ap L e j k q o A<|.c r):r<=k+j.length:=by
 induction j generalizing k q o A with
 |nil=>cases(show AV.c r=.d _ from h)
 |cons x j i=>
  refine aH h λp _ h=>?_;induction p using Option.casesOn with
  |none=>
   exact U (MD<|rG h)<|bj _ _
  |some p=>
   have:=i h;exact U j8<|aW [_,_,_] (.v 0) (.a (.v 1)<|.a (.v 2)<|.n 1) [(.v 0,.a (.a (.v 1)<|.n 1)<|.v 2)] V this
def Ap.D(h:Ap L e j 0 0 0 [] v)(z:j.length<=60):kh v:=by
 rcases h.G with⟨b,rfl⟩|⟨r,rfl⟩;·trivial
 ·have:=h.P;rw[cy]at this;exact cH (aE this z)<|by decide
def KR(c:CC (cR s) (cR t) 0 0 j)(e:lX (cR s) j)(h:s.length<sz)(q:Q (.d t) H):aR prog (N+4) 41 [.d s,.g<|j.map dz] Q E H:=by
 have a:Ap (cR s) O j 0 0 0 []<|.d t:=by have:=c.r (k:=0) (G8 s)<|G8 t;rw[AY]at this;exact this
 exact ct V V<|KQ e V h (λb f=>by cases f.B a;exact q) (λk d=>by cases d.B a) V
def Ef(h:ae g x<|.d s)(k:ae g y<|.d s):ae g (.h .c x y)<|.e false:=fW h k (by refine(?_:Y (!decide (s=s))=_);refine U (decide_eq_true V) ?_;rfl)
def UK(h:r<5):∃e,[AV.k,.k,.c 0,.c 1,.c 2][r]? =Y (fu e):=by
 match r,h with
 |0,_=>exact⟨O,V⟩
 |1,_=>exact⟨O,V⟩
 |2,_=>exact⟨Y 0,V⟩
 |3,_=>exact⟨Y 1,V⟩
 |4,_=>exact⟨Y 2,V⟩
def OF(h:ae g x<|.d s)(k:ae g y<|.d t)(z:(s++t).length<=sz):ae g (.j .a false x y)<|.d<|s++t:=λE Q q=>h E _<|k E _<|.inr<|.inl<|eX s t V V z q
def OE{α:Type}{f:α->AV}{l:List α}(h:ae g x<|.g<|l.map f)(d:l≠[]):ae g (.w x (.e .k)<|.y<|.e<|.c 1)<|.g<|l.dropLast.map f:=λE Q q=>h E _ (by
 refine ou V V V (?_:Q _ g.H);have:eV (l.map f) O (Y<|-1)=l.dropLast.map f:=by refine(?_:mw 0 (nI (eF _<|-1) _)=_);unfold eF;refine U (if_neg<|by decide)<|U (bx _)<|U yK<|U vA<|U vL ?_;congr 1;have:=qL.mpr d;exact cN<|cA [_,_,_] [] aG bf [.e 1 aG<|.a (.n<|-1) af,.e (-1) (.c<|.a bA<|.n 1) af] V (g7<|b9 λz=>aJ [_] [] [.l 1 (.c<|.a (.n 0) aX) af,.l 1 (.a (.a (.n<|-1) af) aM) bJ] V (nl this) z)<|nE<|cb this
 exact U this<|q)
def Oo(h:ae g x<|.d s)(a:s.length<=100)(i:ae g y<|.g<|(lL s).map .d):
  ae g (.j .a false (.u (.j .a false (.s 0)<|.e<|.d [10]) [0] false .a [.w (.r .g [x,.e<|.d [10]]) (.e .k)<|.y<|.e<|.c 1] []) y) (.g<|(cR s).map .d):=by
 have b:((dD s).dropLast.map (·++[10])).length<=100:=by have:=AH s;rw[AF s,bZ]at this;exact aE (bj _ _)<|aE this a
 have e:(cR s).map AV.d=(dD s).dropLast.map (λl=>AV.d<|l++[10])++(lL s).map .d:=by refine U (AF s)<|U cz<|U lr ?_;rfl
 refine U e ?_;rw[bx]at b;refine mJ (wg AV.d (λl=>AV.d _) (OE (Ec h<|cH a<|by decide)<|wx s) V (aE b<|by decide) λc d=>aO _ V<|OF (gv V) aL ?_) i ?_
 ·have:=Mx (Ma (U (AF s)<|nJ _ (iG.mpr<|aO c d V):c++[10]∈cR s));have f:(cR s).flatten=s:=AY s;rw[f]at this;exact aE this<|aE a<|by decide
 ·refine aP e<|U (bx _) ?_;exact aE (AH s)<|aE a<|by decide
end
section
variable {N d w:Nat}{H:Hp}{E Q:VK}{s t:List UInt8}{X:AV}{sc:List Int}{W Z:List bH}{n lS:Nat}{o9 g9:Option AV}{hs:List Hk}
noncomputable def GX(sc:List Int)(d:Nat)(W Z:List bH)(s t:List UInt8)(n lS:Nat)(X:AV)(o9 g9 o a b:Option AV):ba:=
 [Y<|.g<|sc.map .c,Y<|.f d,Y<|.g<|W.map .d,Y<|.g<|Z.map .d,Y<|.d s,Y<|.d t,Y<|.c n,Y<|.c lS,Y X,o9,g9,o,a,b]
structure TZ(s t:List UInt8)(W:List bH):Prop where
 b:s.length<=14
 a:t.length<=18
 g:Tx 7 W
def TZ.z(h:TZ s t W):(cR s).length+(cR t).length<=59:=aE (ed (nZ h.b).1 (nZ h.a).1)<|by decide
def TZ.e(h:TZ s t W)(c:CC (cR s) (cR t) 0 0 hs):lX (cR s) hs:=c.q h.z (aE (nZ h.b).2<|by decide)<|aE (nZ h.a).2<|by decide
def TZ.f(h:TZ s t W)(c:CC (cR s) (cR t) 0 0 hs):lX (cR t)<|hs.map rh:=c.m.q (fh _ _▸h.z) (aE (nZ h.a).2<|by decide)<|aE (nZ h.b).2<|by decide
def small(h:s.length<=n)(l:n<=100):s.length<sz:=cH (aE h l)<|by decide
def VF(A:fS d w H)(b:TZ s t W)(x:X∈pY)(m:∀H,Q (.e true) H):aK (aR prog<|N+7) (Co.drop 9) (GX sc d W Z s t n lS X o9 g9 O O O) (e7 Q E) H:=by refine fQ λL=>ZR J J<|rU<|dP (bB J aL)<|jQ A (by decide) (by decide) λr P y j=>rZ ?_;refine dP (bt aL<|bt aL<|bt (aL)<|bB (aL) J)<|IH (small b.b<|by decide) (small b.a<|by decide) (gY b.z) (aW [_] (.a (.n 1)<|.v 0) (.n 60) [(.a (.v 0)<|.n 1,.n 3)] V y) x λhs c=>?_;refine fQ λS=>ZS J<|dP (bB J J)<|UJ j b.g λC M B g=>dP (bB aL aL)<|Ac g B (bN _) λo T e k=>?_;refine fQ λK=>JS (tf (bt aL<|bt aL<|bt aL<|bB aL aL)<|by decide)<|dP (bB J aL)<|jQ k (by decide) (by decide) λD F l p=>?_;refine aF (UK l) λa u=>?_;refine F8 u ?_;have h:lX _ hs:=⟨(b.e c).w,(b.e c).n,aE (nZ e).1<|by decide,aE (nZ e).2<|by decide⟩;refine fQ λR=>dP (bt (Oo J (aE e<|by decide)<|px (cJ J) λE Q q=>VH (small e<|by decide) q)<|bB J J)<|acJ h λv f=>?_;refine g8 λz=>dP (bt J<|bB J J)<|WL h V (small e<|by decide) λG I i=>?_;cases f.B i;exact e8 (f.D h.n) (f.D h.n) V<|cD (.h _)<|m _
def VG(i:fS d w H)(b:TZ s t W)(f:X∈pY)(j:n<=60)(g:∀H,Q (.e true) H):aK (aR prog<|N+7) (Co.drop 6) (GX sc d W Z s t n lS X O O O O O) (e7 Q E) H:=by refine fQ λl=>dP (bt J<|bt J<|bt J<|bB J J)<|IH (small b.b<|by decide) (small b.a<|by decide) (gY b.z) j f λhs c=>?_;refine fQ λm=>ZV<|dP (cJ<|qY (bt aL<|bt aL<|bt aL<|bt aL<|bt aL<|bB aL J) λa o E Q _ q=>V7 q)<|RZ ⟨(b.e c).n,λh f=>((b.e c).w h f).2.2⟩ λk=>bQ _ _ (.inl V) V ?_;refine cg (gL (Ef (px (bB J J) λE Q q=>KR c (b.e c) (small b.b<|by decide) q) J) λ_=>Ef (px (bB J J) λE Q q=>KR c.m (b.f c) (small b.a<|by decide) q) J) (λe=>aV e) λ_=>bT ?_;exact VF i b f g
def Ws(h:r<3):∃v,pY[r]? =Y v/\v∈pY:=aO _ (hU h)<|vF h
def VD(u:∀H,Q (.e true) H):aR prog (N+8) 54 [.g<|sc.map .c] Q E H:=by refine ct (m:=[Y _,O,O,O,O,O,O,O,O,O,O,O,O,O]) V V ?_;refine fQ λI=>dP (cJ J)<|ZG λd w L a=>?_;refine fQ λa2=>dP (cJ J)<|O7 a λW a3 z i=>?_;refine fQ λG=>dP (bB J J)<|OQ i z λZ F q e=>?_;refine tB λT P x=>JR<|dP (bB J J)<|Ac e z (by decide) λs a1 p j=>dP (bB J J)<|Ac j q (by decide) λt C v f=>x _ _ _ ?_;refine tB λK S n=>JR<|dP (bB J aL)<|jQ f (by decide) (by decide) λc B o h=>dP (bB J aL)<|jQ (many:=3) h (by decide) (by decide) λb M D g=>n _ _ _ ?_;refine fQ λa0=>JS (tf (bt aL<|bB aL aL)<|by decide)<|dP (bB J aL)<|jQ (many:=3) g (by decide) (by decide) λr R y k=>?_;refine aH (Ws y) λX l A=>?_;exact F8 l<|VG k ⟨p,v,z⟩ A (aE (cI o)<|by decide) u
end
end bc
end
section
set_option Elab.async false
open PySem PySem.W PyProof.Rows
namespace bc
def acP(o:cK.y)(b:cK.K=Hd.KF cK.w.params)(a:cK.T=P.tu):lV cK P.ad (aR P.prog 8) 9:=by exact KW o (Pa<|by refine U a<|U b ?_;exact P.Pd _) (YO o (by refine U a<|U b ?_;exact P.YM _) (by refine U a ?_;rfl)<|by refine U a<|U b ?_;exact P.YI _) (λf c h=>by exact U b<|ef.mp<|P.acQ _ h) 8
def V0{w:el}{s:List Int}(x:WellAll w.params h vs<|s.map .int):bk bc.P.tu o h (s.map .c) vs:=by
 induction s generalizing vs with
 |nil=>cases x;trivial
 |cons i r d=>
  refine cj (wellAll_cons_inv x) λv c e a b=>?_;exact U e ⟨Value.isInt_shape ((encInt LG w).is a).1,d b⟩
def Q4{w:el}(g:nA.row.toRowW.claim.pre args=true)(k:WellAll w.params h gK args):
  ∃s:List Int,∃a c,args=[.list<|s.map .int]/\gK=[.ref a]/\h.PlainList a c/\bk bc.P.tu (aU (λ_=>False) Hp.aw) h (s.map .c) c.toList/\s.length<=63:=by
 have g:=g;refine bp (ef.mp g) λi f=>?_;induction args using List.casesOn with
 |nil=>exact aV i
 |cons x n=>
  refine bp (ef.mp (show(WShape.has [] x _&&WShape.hasAll [] n [])=true from i)) λj m=>?_;have r:n=[]:=by induction n using List.casesOn with
   |nil=>rfl
   |cons _ _=>exact aV m
  (refine aH (hasW_list j) λl e q=>?_;subst e)
  (refine aF (items_int q) λd e=>?_;subst e)
  subst r;cases k with
  |cons a b=>
   cases b;cases a with
   |list o p=>
    refine pP d _ _ V V ⟨_,o⟩ (V0 p) ?_;refine dj.mp λl=>?_;have f:(match(LD (.int 63)<|.int _).map C2 with|some (.bool b)=>(match(match Y (C2<|!b)with|some (.bool false)=>Y (C2 false)|some (.bool true)=>Y (.bool true)|_=>O)with|some (.bool true)=>true|_=>false)|_=>false)=true:=f;exact aV<|((show LD (.int 63) (.int _)=Y _ from V).trans<|congrArg Y<|decide_eq_true (by exact U (bx _)<|fR λz=>aJ [_] [] [.l 1 (.c<|.a (.n 63) aX) af,.l 1 af<|.n 63] V (nl l) z:(63<((d.map WData.int).length:Int))))▸f
def Gq:¬aU (λ_=>False) Hp.aw x:=λh=>h.elim (λh=>h.elim λo e=>aS e) λh=>h.elim (λh=>h.elim λa h=>h.elim λC h=>h.elim λv e=>aS e) id
def Xa T prog w K h mb:bu {T:=T,p:=prog,w:=w,K:=K,r:=h,z:=mb} Hp.aw h:=
 ⟨λ_ _ e=>e,λ_ _ _=>Gq,⟨λ_ _ e=>aS e,λ_ _ _ _ _ _ _ e=>aS e,λ_ _ _ _ e=>aS e,λ_ e=>e.elim,λ_ e=>e.elim⟩⟩
def acH:Ar W Hp.aw h callerA [] 9:=⟨⟨by decide,by decide⟩,V,V,λ_ h=>(dM h).elim⟩
def holds:nA.Holds:=Hd.head λw x s R mb G a0 a o a2 L A a3 X a4 M S B q i args N Q j u y d a1=>by
 (refine lP (Q4 j d) λC b g k m H F D=>?_;subst k;subst m)
 have c:Wd.y {T:=P.tu,p:=nA.row.toRowW.prog,w:=w,K:=Hd.KF w.params,r:=s.heap,z:=mb}:=⟨kIn_of a0,G.T.b,G.T.builtins,G.T.nolimit,by
  refine aH (G.T.seer<|by rfl).mods λW l _=>gA l λo _ _ h _=>?_;exact⟨o,h⟩⟩
 have E:a=P.ad 54:=by
  have t:Y (kU a)=Y (.ref<|P.ad 54):=q.symm.trans<|mg_of (kIn_of a0) G.T.g<|by kernel_rfl
  (have t:=u0<|bz t;subst t);rfl
 refine U E ?_;refine qq<|uW (acP c V V _ (.d _) callerA [] Hp.aw s 54 [.g _] [.ref b] (λv _=>v=.e true) (λ_ _=>False) (VD λ_=>V) (Xa _ _ _ _ _ _) acH ⟨kr b g V Gq H F<|U (bx _)<|aE D<|by decide,trivial⟩) λr s' z=>?_;induction r using Except.casesOn with
 |error e=>exact z.elim λI z=>z.1.elim
 |ok f=>
  induction f using PySem.Flow.casesOn with
  |ret v=>
   refine cj z λI Z n p e=>?_;have p:=e▸p;refine U p ?_;exact e8 (.inl<|pP _ _ [] V (λ_=>V) (.bool true) (by kernel_rfl) λ_=>⟨List.nodup_nil,λ_ h=>(dM h).elim⟩) (.of_keep n.i.D) n.K<|.of_eq<|n.y.trans i
  |_=>exact z.elim
end bc
end
end
theorem PySem.Challenge.cw_nt0300_01_holds : PySem.Challenge.rw_nt0300_01.Holds :=
 bc.holds
