import PyProof.Rows.All
import PyProof.FactsBase
import PyProof.TableTree
import PyProof.FactsTree
import PyProof.AttrMiss
import PyProof.AutoSeq1
import PyProof.ExcClass2
import PyProof.ExcBaseAll.Exception
import PyProof.WalksPairs
import PyProof.WalksEnum
import OpenK.KMake
import KE.KBytesWalk
import KE.KLam
import Wide.FinOn
import OpenK.AllK
import Wide.All
import Lean
import PySem.Challenge.RW_og0268_01
open And renaming intro→ak,left→DH
open Array renaming getElem?_setIfInBounds_self→DI,getElem?_eq_getElem→DJ,getElem?_eq_some_iff→Iz,length_toList→DK,getElem?_toList→IA,getElem?_eq_none_iff→PR,toList_push→IB,getElem_mem_toList→PS,getElem_toList→PT,toList→IC,any_toList→PU,toList_inj→PV
open Bool renaming false→ae,true→af,and_eq_true_iff→ct,false_ne_true→dO,or_eq_false_iff→lq,not_eq_eq_eq_not→l2,or_eq_true_iff→th,and_false→rK,noConfusion→xn,or_true→va,or_false→xo,eq_false_iff→DL,and_eq_false_iff→ID,eq_iff_iff→DM,not_not→z7,false_eq_true→IE,false_or→DN,and_eq_true→IF,false_and→IG,and_true→IH,true_and→II,not_true→IJ,true_or→PW
open Decidable renaming decide→a9
open Exists renaming imp→gb,elim→xp
open False renaming elim→qr
open ForIn renaming forIn→ti
open ForInStep renaming yield→DO
open Inhabited renaming default→tj
open Int renaming natCast_nonneg→gY,ofNat_lt→h7,toNat_natCast→ol,le_trans→qt,not_lt→ph,ofNat_inj→vb,natCast_mul→z8,lt_of_le_of_lt→DP,eq_ofNat_of_zero_le→IK,ofNat_le→xq,natCast_add→DQ,natCast_sub→DR,mul_comm→z9,fdiv_eq_ediv_of_nonneg→PX,fmod_eq_emod_of_nonneg→PY,le_refl→Aa,le_of_eq→DS,add_le_add_right→PZ,not_le→DT,lt_of_lt_of_le→P1,zero_add→IL,mul_one→IM,natCast_pos→P2,add_nonneg→P4,mul_nonneg→P5,ofNat→IN,toNat_lt→P6,lt_trans→P7,lt_succ→P8
open LawfulBEq renaming eq_of_beq→c9
open LawfulMonad renaming pure_bind→IP
open List renaming length_append→cG,length_map→cH,mem_singleton→df,size_toArray→dD,append_assoc→dE,mem_cons→cV,getElem?_eq_some_iff→gc,forall_mem_cons→fa,append_nil→en,getElem?_eq_getElem→hQ,map_append→eS,mem_append_right→ho,mem_of_getElem?→gZ,getElem?_append_left→jC,mem_append→fE,getElem?_map→gP,all_eq_true→gy,length_cons→iO,map_cons→h8,isEmpty_iff→ks,mem_append_left→mE,length_filterMap_le→pj,mem_map→h9,range→g0,length_filter_le→pk,not_mem_nil→mF,mem_of_find?_eq_some→tl,nodup_cons→mG,getElem?_toArray→rL,filter_cons→om,mem_filterMap→rM,getD_eq_getElem?_getD→xr,length_set→pl,any_eq_true→qu,lookup_cons→qv,length_range→rN,flatMap_cons→rO,getElem?_append_right→Ab,replicate→qw,append_toArray→vc,filterMap_cons→vd,prefix_refl→tm,pairwise_cons→ve,contains_cons→vf,cons_ne_nil→tn,toArray→pm,foldl_cons→tp,mem_filter→tq,mem_map_of_mem→xs,length_reverse→xt,length_take→vg,append_ne_nil_of_right_ne_nil→IQ,contains_append→Ac,reverse_cons→xu,drop_eq_nil_iff→Ad,length_drop→xv,getElem?_set_self→DU,take_of_length_le→DV,find?_cons→xw,find?_some→xx,contains_iff_mem→DW,cons_lt_cons_iff→DX,nodup_append→Ae,any_eq_false→Af,length→tr,getElem?_set_ne→DY,mem_of_mem_take→DZ,mem_range→xy,mem_toArray→Ag,map_map→vh,drop_eq_getElem_cons→IR,replicate_succ→D6,all_cons→xz,nil_append→Ah,find?_eq_none→Ea,findIdx?_cons→Eb,zip_cons_cons→Ec,length_eq_zero_iff→IS,range'→vi,flatten_cons→Ed,drop_zero→Ai,push_toArray→Ef,length_eq_one_iff→IT,pairwise_map→Eg,lookup_cons_self→IU,map_reverse→Eh,getElem_map→Ei,cons_append→Ej,any_cons→Aj,range_eq_range'→IV,eq_nil_of_length_eq_zero→P9,set_append_left→IW,flatMap_append→IX,map_congr_left→IY,take→vj,isPrefixOf_iff_prefix→Qa,nodup_nil→Ek,getElem?_inj→IZ,find?_range_eq_some→Qb,range'_succ→I0,mem_reverse→I1,le_antisymm→I2,take_length→I3,any_map→El,map_id'→Em,forIn_cons→I4,of_mem_zip→I5,length_nil→I6,mem_iff_getElem?→Qc,getElem?_eq_none→Qd,length_singleton→Qe,set_getElem_self→Qf,drop_take→I7,not_lt→En,mapM_cons→I8,find?_map→I9,replicate_zero→Qg,filter_sublist→Qh,mapM_nil→Jc,mem_replicate→Qi,find?_toArray→Qj,getElem?_drop→Qk,length_zipIdx→Ql,map_filterMap→Qm,mem_cons_self→Qn,map_nil→Jd,mapM_toArray→Qo,all_map→Je,take_add_one→Qp,foldl_append→Qr,zipIdx_cons→Qs,getElem_mem→Qt,take_left'→Qu,any_append→Qv,zip_append→Qw,foldl→Jf,tail_drop→Qx,take_zero→Qy,drop_left→Qz,drop_nil→QA,sum_cons→QB,map→Jg,lookup→QC,drop→QD,tail→QE,rec→QF,set→QG
open List.cons renaming inj→xA
open Nat renaming le_trans→ao,le_refl→a8,add_le_add_right→dR,add_le_add_left→eH,succ_le_succ→d8,le_add_right→ed,lt_of_le_of_lt→e6,add_le_add→eZ,mul_le_mul_left→hR,le_of_eq→eT,add_assoc→gd,add_comm→fQ,le_add_left→kt,le_of_lt→ir,zero_add→iP,le_succ_of_le→mH,le_succ→iQ,zero_le→jD,mod_lt→jW,lt_trans→l3,lt_of_lt_of_le→ts,lt_succ_self→rP,not_lt→mI,div_lt_of_lt_mul→xB,lt_of_succ_lt_succ→Ak,ne_of_lt→rQ,lt_add_of_pos_right→Eo,succ_ne_zero→xC,succ_pos→tt,mul_succ→tu,le_of_ble_eq_true→Ep,le_of_lt_succ→Al,le_of_not_lt→Am,le_antisymm→An,add_sub_cancel_left→Jh,sub_self→xD,le_of_succ_le_succ→Ji,ne_of_gt→xE,le_of_sub_eq_zero→Jj,sub_eq_zero_of_le→Jk,lt_irrefl→Ao,mul_le_mul_right→Jl,not_lt_zero→Er,add_lt_add_left→Jm,sub_le→xF,lt_of_le_of_ne→Jn,sub_lt_left_of_lt_add→QH,le_of_succ_le→Jo,lt_succ_of_le→Jp,succ_add_eq_add_succ→QI,min_le_right→Jq,mod_eq_of_lt→Jr,min_eq_left→Js,add_lt_add_right→QJ,not_succ_le_self→QK,add_right_comm→QL,lt_succ_of_lt→QM,ble→xG,lt_of_not_le→QN,succ_ne_self→QO,strongRecOn→QP,div_add_mod→QQ,add_zero→QR,mod_mul→QS,mod_le→QT,blt→Jt
open Nat.succ renaming inj→qx
open Ne renaming symm→rR
open Option renaming some→B,none→ab,isSome_iff_exists→iR,map_eq_some_iff→iu,bind_eq_some_iff→i6,isNone_iff_eq_none→l4,ite_none_right_eq_some→rS,isSome_map→vk,bind→rT,isSome_eq_false_iff→Ju,isSome_some→Es,ite_none_left_eq_some→QU,map_map→Et,any_eq_true→Jv,map→Ap,map_eq_none_iff→QV,map_some→QW,some_get→QX
open Option.some renaming inj→bo
open Prod renaming snd→i7,fst→lr,ext→Jw
open Prod.mk renaming inj→Aq
open Pure renaming pure→bV
open PyProof.Rows renaming slot_tuple_getitem→Eu,subscriptTail→Ar,assign_Name→Jx,entry_list_sort→QY,isnot_none_gen→B',getItem_tuple→C',slicePart_none→QZ,pairsOf_toList→Q0,args_list_sort→Q1,slot_list_sort→Q2,nat_or_add_and→Q3,neg_int→Q4,is_none_gen→D',truthy_int→E',bitAnd_pp→Jy,len_tuple→F',eq_bool→G',ne_bool→H',KeyKind→I',eq_int→L',ne_int→N',eq_str→O',ne_str→P',gt_int→Q',lt_int→S',ge_int→T',le_int→U',News→tv
open PySem renaming wpAny_bind→aX,Value→au,wpAny_pure→cq,Shared→a3,builtinLookup_eq_fast→fF,Addr→aC,wpAny_of_eq→du,model→bB,typeLookup_type→fG,wpAny→bM,Around→dc,Str→aO,Expr→b7,builtinType_eq_fast→nx,Heap→b8,isSubtype_type→kS,call→cY,mainGlobals→i8,recursionLimit→mJ,wpAny_newObj_type→pn,DictEntry→iS,Scope→dU,entryFor_of_tree→qy,builtinsNs→lu,FuncData→i9,wpAny_holding→pq,call_meetsIn→oo,builtinType→ny,typeLookup→mK,mem_of_lookup→qz,wpAny_loadPart_at→vl,wpAny_specialOf→tw,sizeLine→kT,entryFor→kU,compareOp→mL,wpAny_rule→oq,call_gives→ot,clipAt→ia,wpAny_mono→ou,compEnvC→lw,letOwnedTupleGo→vm,wpAny_truthy_bool→xH,standAt→ku,signature?_of→tx,comprehension→tA,plainObj_wpAny_Assign_Attribute→Jz,holding→kV,wpAny_isInstance→xI,argsOk→ja,checkBuiltinCall→xJ,wpAny_field→rU,excClassObj→rV,plainId_quiet→vn,typeIs_str→rW,wpAny_load→rX,wpAny_seqItems→xK,Program→mM,wpAny_call_entry→As,spliced→mN,typeOf→kW,arm_eval_Call_Name'→Ev,wpAny_isSubtype_exc→Ew,World→iT,Comprehension→xL,codeAny_builtin→At,leftWithCleanup→Au,typeIs_int→tB,table→jb,sizeLine_eq→vo,Tok→dv,Result→l5,rawInt→l6,wpAny_typeOf→xM,foldedSetIterable→Ex,Stmt→gQ,assignEach→vp,Sem→dM,codeAny→ps,codeAny_call_builtin→JA,wpAny_richCompare_same_room→Q5,leaving→qA,BindsTo→qB,Arguments→vq,cellsFrom→vr,callWith→vt,PlainAttrs→xN,wpAny_setField→Ey,Obj→ee,cLine→l7,slot_list_getitem→JB,wpAny_mkInt→Av,wpAny_attempt→Ez,wpAny_getItem_list_slice→Q6,swappedStores→EA,wpAny_mkBytes→EB,Slot→kv,wpAny_list_append_plain→Q7,exec→jc,swapsWith→xO,setFlight→xP,wpAny_lookBehind→JC,wpAny_execs_cons→JD,outcomeOf→xQ,Env→eo,isInstance→Aw,sysModules→Ax,stored→EC,closureFor→Ay,wpAny_execs_nil→JE,importedModules→JF,wpAny_notOrdered_dict→Q8,wpAny_loadName_local→Q9,constantsAlone→JG,binaryOp→xR,wpAny_letTemporaryGo→Ra,markedBehindIn→JH,NameKind→xS,wpAny_newFunctionEnv→Rb,newFunctionEnv→JI,interactive→ED,bindArgs→xT,bm_if_false→EE,wpAny_loadPart→JJ,denote→rY,noteFrame→Az,wpAny_dictSet_pairs→Rc,wpAt_of_wpAny→Rd,foldedForSure→JK,without→JL,Meets→pu,again→pv,execs→pw,wpAny_newList→JM,call_meets→EF,nsFind→tC,wpAny_keeperOf_exc→Re,pyIter→tD,pyNext→tE,assign→tF,sub_AttributeError→Rf,getattributeRaised→Rg,wpAny_call→EG,refuseLoop→EH,CmpOp→qC,valueAt→xU,wpAny_mkText→JN,evalArgs→AA,keeperOf→AB,merged→JO,wpAny_pyIter_list→Rh,wpAny_pyIter_enum→Ri,assignStores→JP,wpAny_collect_seq→Rj,isSame→vu,storeName→EI,wpAny_askSetting→Rk,wpAny_comp_letGo→Rl,pastItsLine_dict→Rm,codeAny_call_def→Rn,wpAny_madeBy_exc→Ro,richCompare→JQ,unsupported→JR,wpAny_ite_split→Rp,wpAny_dropValue→Rq,codeAny_of_tree→Rr,updateBytearray→Rs,wpAt_bind→Rt,Keyword→AC,classAt→AD,Pos→ib,firstArgMember→Ru,raiseErrorMade→Rv,fastLookup→JS,starEach→EJ,isTrue→xV,methodCallForm→Rw,handleBy→EK,withoutEnding?→Rx,callType_codes→Ry,clipAt_nat→JT,Thread→xW,methodCallPos→Rz,assignInOrder→RA,ExceptHandler→RB,call_list_seq→RC,isSubtype→JU,Model→vv,clausesOf→JV,compStart→JW,codeAmong→JX,pyHash→RD,operate→EL,Code→qD,unaryOp→EM,getItem→EN,relabel→EO,newList→EP,callEnv→EQ,bindName→JY,FuncBody→JZ,cellOf→ER,truthy→ES,IsPart→ET,Flow→tG,DefRec→EU,Walks→AE
open PySem.Around renaming under_plainId→vw,frames_deeper→J0
open PySem.AutoSeq1 renaming list_extend_list_list_0→V'
open PySem.BoolOp renaming And→xX
open PySem.Builtin renaming bitAnd→hE,bitOr→jE,bitNot→qE
open PySem.Builtin.Bytes renaming occurrences→px,between→xY,tooLong→AF,joined→AG,containsIn→EV,checkResize→J1,find?→EW,write→EX,slotIsOwn→J2,buffer?→J3,takeBufferQuiet?→RE,order→J4,ownRelease→RF,bytesLike→RG,joinItems→RH,exportsOf→RI,payload→RJ,rfind?→RK,decodersThatHold→W',bindOptional→X',takeBuffer?→Y',searchArgs→Z',tailMatchM→aaa,joinLetGo→aab,byteValue→aac,exported→aad,replaceM→aae,payload?→aaf,searchM→aag,window→aah,splitM→aai,joinM→aaj
open PySem.Builtin.Bytes.Kind renaming bytes→J5,new→RL,same→aak
open PySem.Builtin.Bytes.exported renaming _sparseCasesOn_1→aal,match_1→aam
open PySem.Builtin.Dict renaming updateFrom→RM,dictSlotArgs→aan,selfAndRest→aao,pairItems→aap
open PySem.Builtin.List renaming listFitsIndex→aaq,listTooLong→aar
open PySem.Builtin.ObjectAttr renaming storeInDict→RN,storeInOwnDict→aas,newKeyGuard→aat,storeTaker?→aau
open PySem.Builtin.Range renaming rangeSize→RO
open PySem.Builtin.Slice renaming slicePlaces→EY,sliceAdjust→J6,slicePartIndex→aav,sliceApplied→aaw,sliceFields→aax
open PySem.Builtin.Tuple renaming tupleIsExact→aay,tupleItemsOf→aaz,tupleExact→aaA
open PySem.Calls renaming Name_function_global→J7,loadGlobal_global→RP
open PySem.Challenge renaming rw_og0268_01→aaB
open PySem.Code renaming quiet_builtin→J8,compLoop→RQ,builtin→RR
open PySem.Data renaming noConfusion→qF,seq→RS
open PySem.EntryCells renaming newEntry→RT
open PySem.Env renaming kindOf→xZ
open PySem.ExcName renaming means→J9
open PySem.F renaming slot_list_getattribute→EZ,excBase_Exception→Ka,slot_str_eq_refl→E0,sub_NoneType_bytes→Kb,slot_NoneType_eq_refl→RU,args_dict_pop_3→RV,entry_dict_pop→RW,args_str_eq_2→Kd,sub_int_bytes→Ke,sub_str_bytes→Kf,slot_dict_pop→RX,args_NoneType_eq_2→RY,entry_str_eq→Kg,slot_dict_eq→RZ,entry_NoneType_eq→R0,slot_NoneType_eq→R1,slot_int_eq_refl→R3,bm_called→Kh,args_int_eq_2→R4,sub_bytes_int→R5,slot_int_rmul→R6,entry_int_eq→R7,slot_list_eq→R8,slot_list_ne→R9,sub_str_dict→Sa,slot_int_eq→Sb,slot_str_eq→Sd
open PySem.Flow renaming next→Ki
open PySem.Heap renaming get?_push_size→ic,get?_push_of_some→lx,SameBut→hq,get?_none_of_le→rZ,get?_update_self→x1,lt_size→py,get?_update_other→AH,NewAttrErr→Kj,get?_update_ne→Se,size_push→Sf
open PySem.Heap.DictOf renaming new→aaC
open PySem.Heap.IsSliceOf renaming new→Sg
open PySem.Heap.SameBut renaming update→aaD
open PySem.IsL renaming update→Sh
open PySem.Manifest renaming owners→Kk
open PySem.MeetsSeq3 renaming plain_eq_loop→x2,entry_eq_loop→Kl
open PySem.NameKind renaming free→pz,cell→r0
open PySem.Obj renaming mapFields→ov,data_mapFields→vx,isFreed_of_fields→E1,cls_mapFields→Km,mapBytearray→Kn,putName→Ko,mapSeq→Kp
open PySem.PyData renaming keyHash→nz
open PySem.Sem renaming wp_mono→AI
open PySem.SeqAt renaming rc_eq_decline_or→vy,EqAt→jX,RcAt→pA
open PySem.SeqAt.EqAt renaming same→Kq
open PySem.SeqAt.RcAt renaming none_none→Si
open PySem.SeqAt.RcNeAt renaming none_none→Sj
open PySem.SeqRoads2 renaming notIn_meets→Sk,in_meets→Sl
open PySem.Str renaming ofString→ly
open PySem.Value renaming ref→hr,none→iU,noConfusion→vz,type→tH,str→x3,bytes→Ks,bool→Sm,int→Sn
open PySem.Value.ref renaming inj→tI
open PySem.W renaming typeIs_bytes→gf,emptyDict→lz,instObj→mO,SharedT→ow,Frag→kx,looks_findIn→Kt,opening→x4,looks_clsIn→Ku,defOf→r1,makesIn→AJ,absHeap→AK,findIn→x5,codeHdIn→E2,CodeHd→AL,typeIn→E3,stepT→AM
open PySem.W.FB renaming slot_bytes_eq→vA,args_bytes_eq_2→x6,entry_bytes_eq→x7,args_bytes_contains_2→E4,entry_bytes_contains→E5,slot_bytes_contains→E6,slot_bytes_getitem→Kv
open PySem.W.KBy renaming buffer_eq→vB,special_eq→AN,look_buffer→E7,own_buffer→So
open PySem.W.WData renaming layableAll→Sp
open PySem.W.X renaming tableObj→vC
open Std.Legacy.Range renaming forIn_eq_forIn_range'→aaE,size→aaF
open String renaming ofList→Kw
open ToString renaming toString→AO
open UInt8 renaming ofNat_toNat→Kx,ofNat→E8,not_lt→Sq
open _root_ renaming List→J,UInt8→am,Option→ax,congrArg→bl,of_decide_eq_true→dg,Nat→ah,if_neg→bL,False→bt,decide_eq_true→eO,if_pos→b3,trivial→cy,Bool→aZ,absurd→cr,Int→aq,beq_self_eq_true→ie,beq_eq_false_iff_ne→jY,cond→bD,decide_eq_false→jZ,Array→dn,bne_eq_false_iff_eq→qG,of_decide_eq_false→r2,String→gg,bne_self_eq_false→tJ,decide_eq_decide→x8,beq_iff_eq→qH,bne_iff_ne→r3,True→g4,Unit→g5,beq_false_of_ne→Ky,if_false→AP,DecidableEq→Kz,dif_neg→AQ,funext→x9,if_true→E9,congrFun→KA,or_false→KC
open PySem PySem.Calls PyProof.Rows PySem.W PySem.W.X
set_option Elab.async false
set_option autoImplicit true
set_option tactic.hygienic false
set_option linter.all false
set_option maxRecDepth 100000
set_option genSizeOf false
set_option genSizeOfSpec false
set_option genInjectivity false
set_option bootstrap.genMatcherCode false
noncomputable section
namespace Internal
section
open PySem.SeqAt
set_option genInjectivity true
theorem nb {P:Prop}(h:ae=af):P:=cr h dO
theorem iV {P:Prop}(h:af=ae):P:=cr h.symm dO
theorem nn {α:Type _}{a:α}{P:Prop}(h:ab=B a):P:=nomatch h
theorem sn {α:Type _}{a:α}{P:Prop}(h:B a=ab):P:=nomatch h
theorem dz {α:Type _}{a:α}{P:Prop}(h:a∈([]:J α)):P:=cr h mF
theorem vD {α:Type _}{a:α}{l:J α}{P:Prop}(h:a::l=[]):P:=nomatch h
theorem aaG {α:Type _}{a:α}{l:J α}{P:Prop}(h:[]=a::l):P:=nomatch h
@[elab_as_elim] theorem Y {α:Sort _} {a b:α} {P:α→Prop} (h:a=b) (p:P b):P a:=h.symm▸p
@[elab_as_elim] theorem cN {α:Sort _} {a b:α} {P:α→Prop} (h:b=a) (p:P b):P a:=h▸p
theorem pB {a b k n:ah}(h:b≤k):a+b+k *n≤a+k *(n+1):=gd a b _▸eH (fQ b _▸eH h _) _
inductive bf where
 |aK|ac (i:aq)|V (b:J am)|aF (x:aO)
 deriving Kz
theorem ya (eI:∀s:a3,s.TypeIs y T)(aG:JU (.type T) (.type "bytes")=bV ae):
  Gives (Builtin.«bytes.__eq__» ⟨[.bytes b t,y],[]⟩) (.val .notImplemented):=by
 refine .of_wp fun M A E s Q bH=>?_
 show bM M A (Aw y (.type "bytes")>>=fun r=>_) _ E s
 refine aX (xI (eI s) aG ?_)
 exact aX (oq (aX (cq (cq ⟨_,rfl,bH⟩))))
theorem Sr (b:dn am)(u:dv):Gives (Builtin.«NoneType.__eq__» ⟨[.none,.bytes b u],[]⟩) (.val .notImplemented):=
 .of_wp fun M A E s Q h=>by obtain⟨hp,g,d,tk,os⟩:=s;wp_walk;exact⟨_,rfl,h⟩
theorem Ss (i:aq)(t:dv)(b:dn am)(u:dv):Gives (Builtin.«int.__eq__» ⟨[.int i t,.bytes b u],[]⟩) (.val .notImplemented):=
 .of_wp fun M A E s Q h=>by obtain⟨hp,g,d,tk,os⟩:=s;wp_walk;exact⟨_,rfl,h⟩
theorem Su (x:aO)(t:dv)(b:dn am)(u:dv):Gives (Builtin.«str.__eq__» ⟨[.str x t,.bytes b u],[]⟩) (.val .notImplemented):=
 .of_wp fun M A E s Q h=>by obtain⟨hp,g,d,tk,os⟩:=s;wp_walk;exact⟨_,rfl,h⟩
theorem yb (hS:∀b t,u≠.float b t)(ne:(u==v)=ae)(rc:pA A s u v ae):jX A s u v ae:=fun prog w E Q h=>by
 have k:bM (bB prog w) A (JQ .Eq u v>>=truthOfDropped) Q E s:=aX (rc prog w E _ (xH h))
 unfold eqBool
 refine pq (Rp (fun vE=>cr vE (ne▸dO:¬ (u==v)=af)) fun I=>?_)
 cases u<;>first|exact k|exact cr rfl (hS _ _)
theorem yc:kv "bytes" (cmpInfo .Eq).2.2 "bytes.__eq__":=vA
theorem RcAt.Fa (b:dn am)(u:dv):pA A s .none (.bytes b u) ae:=fun prog w E Q h=>
 vy (k:=ae) (rfl) (gf s b u) (by decide) F.sub_bytes_NoneType R1 yc
  (fun I bH=>ot R1 (rfl) R0 (RY _ _) (Sr b u) bH)
  (fun I bH=>ot yc (gf s b u) x7 (x6 _ _) (ya (T:="NoneType") (fun I=>rfl) Kb) bH)
  (fun I bH=>du (rfl:vu .none (.bytes b u)=bV ae) bH) (.inl rfl) h
theorem EqAt.Fa (b:dn am)(u:dv):jX A s .none (.bytes b u) ae:=yb (fun I I e=>vz e) rfl (RcAt.Fa b u)
theorem RcAt.KD (b:dn am)(u:dv):pA A s (.bytes b u) .none ae:=fun prog w E Q h=>
 vy (k:=ae) (gf s b u) (rfl) (by decide) Kb vA RU
  (fun I bH=>ot vA (gf s b u) x7 (x6 _ _) (ya (T:="NoneType") (fun I=>rfl) Kb) bH)
  (fun I bH=>ot RU (rfl) R0 (RY _ _) (Sr b u) bH)
  (fun I bH=>du (rfl:vu (.bytes b u) .none=bV ae) bH) (.inl rfl) h
theorem EqAt.KD (b:dn am)(u:dv):jX A s (.bytes b u) .none ae:=yb (fun I I e=>vz e) rfl (RcAt.KD b u)
theorem RcAt.KG (i:aq)(t:dv)(b:dn am)(u:dv):pA A s (.int i t) (.bytes b u) ae:=fun prog w E Q h=>
 vy (k:=ae) (tB s i t) (gf s b u) (by decide) R5 Sb yc
  (fun I bH=>ot Sb (tB s i t) R7 (R4 _ _) (Ss i t b u) bH)
  (fun I bH=>ot yc (gf s b u) x7 (x6 _ _) (ya (T:="int") (fun s=>tB s _ _) Ke) bH)
  (fun I bH=>du (rfl:vu (.int i t) (.bytes b u)=bV ae) bH) (.inl rfl) h
theorem EqAt.KG (i:aq)(t:dv)(b:dn am)(u:dv):jX A s (.int i t) (.bytes b u) ae:=yb (fun I I e=>vz e) rfl (RcAt.KG i t b u)
theorem RcAt.KH (b:dn am)(u:dv)(i:aq)(t:dv):pA A s (.bytes b u) (.int i t) ae:=fun prog w E Q h=>
 vy (k:=ae) (gf s b u) (tB s i t) (by decide) Ke vA R3
  (fun I bH=>ot vA (gf s b u) x7 (x6 _ _) (ya (T:="int") (fun s=>tB s _ _) Ke) bH)
  (fun I bH=>ot R3 (tB s i t) R7 (R4 _ _) (Ss i t b u) bH)
  (fun I bH=>du (rfl:vu (.bytes b u) (.int i t)=bV ae) bH) (.inl rfl) h
theorem EqAt.KH (b:dn am)(u:dv)(i:aq)(t:dv):jX A s (.bytes b u) (.int i t) ae:=yb (fun I I e=>vz e) rfl (RcAt.KH b u i t)
theorem RcAt.KI (x:aO)(t:dv)(b:dn am)(u:dv):pA A s (.str x t) (.bytes b u) ae:=fun prog w E Q h=>
 vy (k:=ae) (rW s x t) (gf s b u) (by decide) F.sub_bytes_str Sd yc
  (fun I bH=>ot Sd (rW s x t) Kg (Kd _ _) (Su x t b u) bH)
  (fun I bH=>ot yc (gf s b u) x7 (x6 _ _) (ya (T:="str") (fun s=>rW s _ _) Kf) bH)
  (fun I bH=>du (rfl:vu (.str x t) (.bytes b u)=bV ae) bH) (.inl rfl) h
theorem EqAt.KI (x:aO)(t:dv)(b:dn am)(u:dv):jX A s (.str x t) (.bytes b u) ae:=yb (fun I I e=>vz e) rfl (RcAt.KI x t b u)
theorem RcAt.Fb (b:dn am)(u:dv)(x:aO)(t:dv):pA A s (.bytes b u) (.str x t) ae:=fun prog w E Q h=>
 vy (k:=ae) (gf s b u) (rW s x t) (by decide) Kf vA E0
  (fun I bH=>ot vA (gf s b u) x7 (x6 _ _) (ya (T:="str") (fun s=>rW s _ _) Kf) bH)
  (fun I bH=>ot E0 (rW s x t) Kg (Kd _ _) (Su x t b u) bH)
  (fun I bH=>du (rfl:vu (.bytes b u) (.str x t)=bV ae) bH) (.inl rfl) h
theorem EqAt.Fb (b:dn am)(u:dv)(x:aO)(t:dv):jX A s (.bytes b u) (.str x t) ae:=yb (fun I I e=>vz e) rfl (RcAt.Fb b u x t)
theorem EqAt.AS (b c:dn am)(t u:dv):jX A s (.bytes b t) (.bytes c u) (a9 (b.toList=c.toList)):=fun I I I I h=>eqBool_bytes h
noncomputable def Sv:au→ax bf
 | .none=>B .aK
 | .int j _=>B (.ac j)
 | .bytes c _=>B (.V c.toList)
 | .str y _=>B (.aF y)
 |_=>ab
noncomputable def bf.is (k:bf)(v:au):aZ:=a9 (Sv v=B k)
theorem bf.r4 {P:bf→au→Prop}(h0:P .aK .none)(aY:∀i t,P (.ac i) (.int i t))(bu:∀b t,P (.V b) (.bytes b.toArray t))(cu:∀x t,P (.aF x) (.str x t))(h:k.is v=af):P k v:=by
 have h:Sv v=B k:=dg h
 have n:(ab:ax bf)=B k→P k v:=fun e=>nn e
 cases v<;>first|exact n h|skip
 ·exact bo h▸h0
 ·exact bo h▸aY _ _
 ·exact bo h▸cu _ _
 ·exact bo h▸bu _ _
theorem Fc {α d0:Type} [Kz α] [Kz d0]{f:α→d0}(i:∀a b,f a=f b→a=b)(a b:α):a9 (f a=f b)=(a==b):=by
 rw[DM,decide_eq_true_iff,qH];exact⟨i a b,bl f⟩
noncomputable def bf.KJ (w:iT):bf→aq
 | .aK=>0xFCA86420
 | .ac i=>hashInt i
 | .V b=>hashW w.params (.bytes b)
 | .aF x=>hashStr w x
theorem aaH {prog:mM}{w:iT}{E:au→a3→Prop}{Q:aZ→a3→Prop}{a b:bf}(bP:a.is u=af)(av:b.is v=af):jX A s u v (a9 (a=b)):=by
 refine bf.r4 (P:=fun a u=>jX A s u v (a9 (a=b))) ?_ (fun i t=>?_) (fun i t=>?_) (fun i t=>?_) bP
 ·exact bf.r4 (P:=fun b v=>jX A s .none v (a9 (bf.aK=b))) (Kq _) (fun i t=>EqAt.none_int i t) (fun i t=>EqAt.Fa _ t) (fun i t=>EqAt.none_str i t) av
 ·exact bf.r4 (P:=fun b v=>jX A s (.int i t) v (a9 (bf.ac i=b))) (EqAt.int_none _ _) (fun j u=>Fc (fun I I=>bf.ac.inj) i j▸EqAt.int_int i t j u) (fun j u=>EqAt.KG _ _ _ u) (fun j u=>EqAt.int_str _ _ _ u) av
 ·exact bf.r4 (P:=fun b v=>jX A s (.bytes i.toArray t) v (a9 (bf.V i=b))) (EqAt.KD _ _) (fun j u=>EqAt.KH _ _ _ _) (fun j u=>(Fc (fun I I=>bf.V.inj) i j).trans rfl▸EqAt.AS i.toArray j.toArray t u) (fun j u=>EqAt.Fb _ _ _ u) av
 ·exact bf.r4 (P:=fun b v=>jX A s (.str i t) v (a9 (bf.aF i=b))) (EqAt.str_none _ _) (fun j u=>EqAt.str_int _ _ _ u) (fun j u=>EqAt.KI _ _ _ u) (fun j u=>Fc (fun I I=>bf.aF.inj) i j▸EqAt.str_str i t j u) av
theorem aaI {k:bf}(av:k.is v=af)(h:Q (k.KJ w) {s with toks:=s.toks+1}):bM (bB prog w) A (RD v) Q E s:=by
 revert h
 refine bf.r4 (P:=fun k v=>Q (bf.KJ w k) {s with toks:=s.toks+1}→bM (bB prog w) A (RD v) Q E s) ?_ ?_ ?_ ?_ av
 ·intro h
  refine pyHash_slot (T:="NoneType") rfl F.slot_NoneType_hash F.entry_NoneType_hash (F.args_NoneType_hash_1 _) (beq_builtin_none _) (.inl rfl) ?_
  obtain⟨hp,g,d,tk,os⟩:=s
  wp_walk
  exact⟨_,_,rfl,h⟩
 ·exact fun i t h=>(intKind prog w).pyHash (k:=i) (ie i) h
 ·exact fun b t h=>(bytesKind prog w).pyHash (k:=b) (ie b) h
 ·exact fun x t h=>(PySem.strKind prog w).pyHash (k:=x) (ie x) h
noncomputable def hF (prog:mM)(w:iT):KeyKind prog w bf where
 is:=bf.is
 hash:=bf.KJ w
 inj v a b b0 ay:=bo ((dg b0).symm.trans (dg ay))
 byValue k v h:=bf.r4 (P:=fun I v=>carriedByValue v=af) rfl (fun I I=>rfl) (fun I I=>rfl) (fun I I=>rfl) h
 pyHash:=fun av h=>aaI av h
 eqBool:=fun {A E s a b u v Q} bP av h=>aaH (prog:=prog) (w:=w) (E:=E) (Q:=Q) bP av prog w E Q h
 «strs» k x t v h:=by
  cases bo (dg h)
  cases v<;>first|rfl|exact Fc (f:=fun y=>B (bf.aF y)) (fun a b e=>bf.aF.inj (bo e)) _ _
end
section
open Sem (wp)
noncomputable def r5:J gg:=W'++["bytearray.__contains__","bytearray.__mod__","bytearray.__rmod__","_struct.pack_into.held","bytearray.find.held"]
noncomputable def vF:qD→aZ
 | .builtin id _=>!r5.contains id
 |_=>af
def AT (l:J (qD×ib)):Prop:=∀c∈l,vF c.1=af
structure yd (d9:Ctx):Prop where
 dj:vF d9.code=af
 Sw:AT d9.below
def bK (M:vv)(A:dc)(t:dM α)(Q:α→a3→Prop)(E:au→a3→Prop)(s:a3):Prop:=
 ∀d9 p,d9.In A→yd d9→wp M d9 t (fun a I ar=>Q a ar) (fun e I ar=>E e ar) p s
def g6 (M:vv)(A:dc)(c:qD)(R:l5→a3→Prop)(s:a3):Prop:=
 ∀d9 p,d9.code=c→d9.Below A→AT d9.below→wpCode M d9 R p s
theorem bK.of (h:bM M A t Q E s):bK M A t Q E s:=fun d9 p g7 I=>h d9 p g7
theorem cs (h:Q a s):bK M A (bV a) Q E s:=fun I I I I=>h
theorem ew (h:bK M A t Q E s)(dJ:∀a s,Q a s→Fd a s)(r6:∀e s,E e s→mP e s):bK M A t Fd mP s:=
 fun d9 p g7 aw=>AI M d9 t (fun a I s=>dJ a s) (fun e I s=>r6 e s) p s (h d9 p g7 aw)
theorem cc (h:bK M A m (fun a ar=>bK M A (f a) Q E ar) E s):bK M A (m>>=f) Q E s:=fun d9 p g7 aw=>by
 exact Y (Sem.wp_bind' ..) (AI M d9 m (fun a d5 ar aj=>aj d9 d5 g7 aw) (fun I I I aj=>aj) p s (h d9 p g7 aw))
theorem r7 (h:bK M A m Q (fun e ar=>bK M A (k e) (fun I iv=>E e iv) E ar) s):bK M A (m.onRaise k) Q E s:=fun d9 p g7 aw=>by
 exact Y (Sem.wp_onRaise ..) (AI M d9 m (fun I I I aj=>aj) (fun e d5 ar aj=>aj d9 d5 g7 aw) p s (h d9 p g7 aw))
theorem Sx {Q:Except au α→a3→Prop}(h:bK M A m (fun a=>Q (.ok a)) (fun e=>Q (.error e)) s):bK M A m.attempt Q E s:=fun d9 p g7 aw=>Y (Sem.wp_attempt ..) (h d9 p g7 aw)
theorem fi (h:bK M A m Q E s):bK M A (kV vs m) Q E s:=fun d9 p g7 aw=>by rw[Sem.wp_holding];exact h d9 p g7 aw
theorem KL (h:bK M A m Q E s):bK M A (EL vs m) Q E s:=fun d9 p g7 aw=>by rw[Sem.wp_operate];exact h d9 p g7 aw
theorem aaJ (h:bK M A m Q E s):bK M A (m.keep vs) Q E s:=fun d9 p g7 aw=>by rw[Sem.wp_keep];exact h d9 p g7 aw
theorem Fe (h:Q () s):bK M A (ku pos) Q E s:=fun I I I I=>h
theorem KN (h:Q () s):bK M A point Q E s:=fun I I I I=>h
theorem KO (h:Q () s):bK M A (rule tag) Q E s:=fun I I I I=>h
theorem nA (h:bK M A (f ()) Q E s):bK M A (ku pos>>=f) Q E s:=cc (Fe h)
theorem KP (e:t=bV a)(h:Q a s):bK M A t Q E s:=e▸cs h
theorem d1 (h:bM M A m (fun a ar=>bK M A (f a) Q E ar) E s):bK M A (m>>=f) Q E s:=cc (.of h)
theorem Sy (h:Q () s):bK M A (release vs keep) Q E s:=fun d9 p g7 aw=>by rw[Sem.wp_release];exact h
theorem yd.AU (h:yd d9)(c:qD)(hd:ax au)(p:ib):AT (d9.enter c hd p).below:=fun x m=>by
 refine(cV.mp m).elim (fun e=>?_) fun m=>?_
 ·exact e▸h.dj
 ·exact h.Sw x m
theorem KQ (hc:g6 M (A.mark h) c (fun r ar=>match r with| .ok f=>Q f ar| .error e=>E e ar) s)(aaK:h≠B byPass):bK M A (run c h) Q E s:=
 fun d9 p g7 aw=>Y (Sem.wp_run ..) (hc _ p rfl (g7.enter c h p aaK) (aw.AU c h p))
theorem aaL (hc:g6 M A c (fun r ar=>match r with| .ok (.ret v)=>Q v ar| .ok _=>bt| .error e=>E e ar) s):bK M A (runValue c) Q E s:=
 fun d9 p g7 aw=>Y (Sem.wp_runValue ..) (hc _ p rfl (g7.enter c ab p (by intro x;exact nn x)) (aw.AU c ab p))
theorem AV (hc:g6 M A (.call f ⟨pos,kw⟩) (fun r ar=>match r with| .ok (.ret v)=>Q v ar| .ok _=>bt| .error e=>E e ar) s):bK M A (cY f pos kw) Q E s:=aaL hc
theorem Sz (h:g6 M A c R s)(l8:∀r s,R r s→R' r s):g6 M A c R' s:=fun d9 p hc g7 aw=>wpCode_mono l8 (h d9 p hc g7 aw)
theorem qI (hc:vF c=af)(h:bK M (A.under c) (M.den c) (fun fin ar=>match fin with| .done f=>R (.ok f) ar| .again dh=>dh.quiet=af∧g6 M A dh R ar) (fun e ar=>R (.error e) ar) s):g6 M A c R s:=fun d9 p tK g7 aw=>by
 rw[wpCode_iff_wp,tK]
 refine AI M d9 _ (fun fin d5 ar aj=>?_) (fun I I I aj=>aj) p s (h d9 p (tK▸g7.in) ⟨tK▸hc,aw⟩)
 cases fin with
 |done f=>exact aj
 |again dh=>exact⟨aj.1,aj.2 (d9.goto dh) d5 rfl (g7.goto dh) aw⟩
theorem SA (cL:vF c=af)(bH:c.quiet=af)(aD:ah→a3→Prop)(turn:∀n s,aD n s→bK M (A.under c) (M.den c)
   (fun fin ar=>match fin with
    | .done f=>R (.ok f) ar
    | .again dh=>(dh=c∧∃m,m < n∧aD m ar)∨(dh.quiet=af∧g6 M A dh R ar)) (fun e ar=>R (.error e) ar) s) (n:ah) (h:aD n s):g6 M A c R s:=by
 induction n using QP generalizing s with
 |ind n az=>
  refine qI cL (ew (turn n s h) (fun fin ar hf=>?_) fun I I aj=>aj)
  cases fin with
  |done f=>exact hf
  |again dh=>
   rcases hf with⟨rfl,m,bZ,r8⟩|hf
   ·exact⟨bH,az m bZ r8⟩
   ·exact hf
theorem SD (hf:∀c,vF c.1=af→f c=ae):∀{l:J (qD×ib)},AT l→l.any f=ae
 | [],_=>rfl
 |x::l,h=>by refine Y Aj (Y (SD hf fun c m=>h c (.tail _ m)) (Y (hf x (h x (.head _))) ?_));rfl
theorem yd.hT (h:yd d9)(p:ib):AT ((d9.code,p)::d9.below):=fun c m=>by
 refine(cV.mp m).elim (fun e=>?_) fun m=>?_
 ·exact e▸h.dj
 ·exact h.Sw c m
theorem SE (h:Q ae s):bK M A (aad self) Q E s:=fun d9 p g7 aw=>by
 show Q (((d9.code,p)::d9.below).any _) s
 refine(SD (f:=_) (fun c hx=>?_) (aw.hT p)).symm▸h
 induction c with|mk cd d5=>
 induction cd with
 |builtin id args=>
  have no:r5.contains id=ae:=l2.mp hx
  have ne:∀x,r5.contains x=af→¬ id=x:=fun x hx e=>dO (no.symm.trans (e▸hx))
  delta aam
  delta aal
  dsimp only
  refine(AQ (ne "bytearray.__contains__" (by decide+kernel))).trans ?_
  refine(AQ (ne "bytearray.__mod__" (by decide+kernel))).trans ?_
  refine(AQ (ne "bytearray.__rmod__" (by decide+kernel))).trans ?_
  refine(AQ (ne "_struct.pack_into.held" (by decide+kernel))).trans ?_
  refine(AQ (ne "bytearray.find.held" (by decide+kernel))).trans ?_
  induction args with|mk pos kw=>
  induction pos with
  |nil=>rfl
  |cons v r=>
   unfold r5 at no
   rw[Ac] at no
   exact ID.mpr (.inr (lq.mp no).1)
 |_=>rfl
end
theorem gz {α:Type _}{a:α}{P:Prop}(e:ab=B a):P:=nn e
structure ci where
 w:iT
 p:mM
 b:b8
set_option genCtorIdx false in
inductive D where
 |aK|be (b:aZ)|ac (i:aq)|V (b:J am)|aF (x:aO)
 |aW (l:J D)|aP (l:J D)|a5 (l:J (bf×D))|cO (c:ah)(l:J D)|bb (a:ah)
set_option genCtorIdx false in
inductive ap where
 |br (l:J D)|bv (l:J (bf×D))|er (b:J am)
noncomputable abbrev KR:aC:=421
noncomputable abbrev KS:aC:=454
abbrev nB (g:ci)(h:b8)(p:aC)(kvs:J (bf×au)):Prop:=h.DictOf (hF g.p g.w) p kvs
noncomputable def pC:ah→aC
 |0=>132
 |_=>209
noncomputable def tL:ah→J aO
 |0=>["kind","scope","first","bounds"]
 |_=>["table","scope","parent","values"]
noncomputable abbrev l9:J aC:=[Ax,KR,KS]
structure hs (N O:J aC)(p:aC):Prop where
 r:p∉N
 n:p∉O
 s:p∉l9
noncomputable abbrev hU (T:gg)(vs:J au)(n:ah):ee:=⟨.type T,ab,.seq vs.toArray n, #[]⟩
inductive tM {SF:Type}(f:SF→au):au→Prop
 |mk (t:SF):tM f (f t)
inductive f0 (F W:aC→Prop):au→Prop
 |mk {p:aC}(hp:F p)(hw:W p):f0 F W (.ref p)
inductive kz (T:gg)(h:b8)(p:aC)(P:J au→Prop):Prop
 |mk {vs:J au}{n:ah}(aV:h.get? p=B (hU T vs n))(aL:P vs)
inductive jd (g:ci)(h:b8)(p:aC)(P:J (bf×au)→Prop):Prop
 |mk {kvs:J (bf×au)}(hd:nB g h p kvs)(aL:P kvs)
inductive lA (w:iT):J iS→J aO→Prop
 |fj:lA w [] []
 |dN {e:iS}{es:J iS}{x:aO}{dp:J aO}{t:dv}(bU:e.hash=hashStr w x)(hk:e.key=.str x t)(aL:lA w es dp):lA w (e::es) (x::dp)
inductive aaM (w:iT)(h:b8)(F:aC→Prop)(c:ah)(p:aC)(P:J au→Prop):Prop
 |mk {q:aC}{es:J iS}{n:ah}{ch:dn (ax au)}(bH:F q)(aV:h.get? p=B ⟨.ref (pC c),B q,.plain, #[]⟩)
   (hd:h.get? q=B ⟨.type "dict",ab,.dict es.toArray n,ch⟩) (hk:lA w es (tL c)) (aL:P (es.map (·.val)))
inductive mQ {α:Type}(P:α→Prop)(Q:J α→Prop):J α→Prop
 |mk {v:α}{vs:J α}(av:P v)(aL:Q vs):mQ P Q (v::vs)
inductive vG (k:bf)(P:au→Prop):bf×au→Prop
 |mk {v:au}(av:P v):vG k P (k,v)
inductive j0 {α:Type}:J α→Prop
 |mk:j0 []
mutual
def aE (g:ci)(h:b8)(N O:J aC):D→au→Prop
 | .aK=>tM fun I:g5=>.none
 | .be b=>tM fun I:g5=>.bool b
 | .ac i=>tM (Sn i)
 | .V b=>tM (Ks b.toArray)
 | .aF x=>tM (x3 x)
 | .aW l=>f0 (hs N O) fun p=>kz "tuple" h p (cp g h N O l)
 | .aP l=>f0 (hs N O) fun p=>kz "list" h p (cp g h N O l)
 | .a5 l=>f0 (hs N O) fun p=>jd g h p (dA g h N O l)
 | .cO c l=>f0 (hs N O) fun p=>aaM g.w h (hs N O) c p (cp g h N O l)
 | .bb i=>f0 (fun p=>N[i]?=B p) fun I=>g4
def cp (g:ci)(h:b8)(N O:J aC):J D→J au→Prop
 | []=>j0
 |d::l=>mQ (aE g h N O d) (cp g h N O l)
def dA (g:ci)(h:b8)(N O:J aC):J (bf×D)→J (bf×au)→Prop
 | []=>j0
 | (k,d)::l=>mQ (vG k (aE g h N O d)) (dA g h N O l)
end
mutual
def je (G:ah→Prop):D→Prop
 | .aW l=>kA G l
 | .aP l=>kA G l
 | .a5 l=>j1 G l
 | .cO _ l=>kA G l
 | .bb a=>G a
 | .aK=>g4
 | .be _=>g4
 | .ac _=>g4
 | .V _=>g4
 | .aF _=>g4
def kA (G:ah→Prop):J D→Prop
 | []=>g4
 |d::l=>je G d∧kA G l
def j1 (G:ah→Prop):J (bf×D)→Prop
 | []=>g4
 | (_,d)::l=>je G d∧j1 G l
end
theorem D.hT {P:D→Prop}{Q:J D→Prop}{S:J (bf×D)→Prop}(r9:P .aK)(a1:∀b,P (.be b))(a2:∀b,P (.ac b))(AW:∀b,P (.V b))(KU:∀b,P (.aF b))(KV:∀l,Q l→P (.aW l))(aaN:∀l,Q l→P (.aP l))
  (aaO:∀l,S l→P (.a5 l)) (Ff:∀c l,Q l→P (.cO c l)) (aaP:∀i,P (.bb i)) (pD:Q []) (jf:∀d l,P d→Q l→Q (d::l)) (Fg:S []) (iW:∀(x:bf×D) l,P x.2→S l→S (x::l)):(∀d,P d)∧(∀l,Q l)∧∀l,S l:=
 have p:=@D.rec P Q S (fun x=>P x.2) r9 a1 a2 AW KU KV aaN aaO Ff aaP pD jf Fg iW fun I I p=>p
 ⟨p,QF pD fun d l q=>jf d l (p d) q,QF Fg fun d l q=>iW d l (p d.2) q⟩
abbrev jF (o:ee):Prop:=∀vs,o.data≠.fields vs
def cv (o:ee):Prop:=jF o∨o.cls=.type "code"
section
variable {h aj:b8}{N bw O cF:J aC}{G:ah→Prop}{mR:ee→Prop}
abbrev aaQ (mR:ee→Prop)(N:J aC)(O:J aC)(h:b8)(aj:b8):Prop:=∀b o,mR o→h.get? b=B o→hs N O b→aj.get? b=B o
abbrev aaR (N:J aC)(bw:J aC)(G:ah→Prop):Prop:=∀(i:ah) (p:aC),G i→N[i]?=B p→bw[i]?=B p
structure hG (mR:ee→Prop)(N O bw cF:J aC)(h aj:b8)(G:ah→Prop):Prop where
 cO:∀o,cv o→mR o
 cw:aaQ mR N O h aj
 nC:∀b o,mR o→h.get? b=B o→hs N O b→hs bw cF b
 fv:aaR N bw G
theorem f0.g8 (k:∀p,F p→W p→lB p∧vH p):f0 F W v→f0 lB vH v
 | .mk a b=>.mk (k _ a b).1 (k _ a b).2
theorem kz.g8 (x:kz T h p P)(e:∀o,cv o→h.get? p=B o→aj.get? p=B o)(k:∀vs,P vs→Q vs):kz T aj p Q:=by
 induction x with|mk a b=>exact .mk (e _ (.inl fun I q=>qF q) a) (k _ b)
theorem nB.hS (a:nB g h p kvs)(q:h.get? p=B o):jF o:=a.elim fun I z=>z.elim fun I z=>z.elim fun I z I r=>by have r:=z.2.2.1▸((bo (q.symm.trans z.1))▸r);cases r
theorem jd.g8 (x:jd g h p P)(e:∀o,cv o→h.get? p=B o→aj.get? p=B o)(k:∀vs,P vs→Q vs):jd g aj p Q:=by
 induction x with|mk a b=>exact .mk (a.at fun o q=>e o (.inl (nB.hS a q)) q) (k _ b)
theorem kz.ey (x:kz T h p P):∃o,h.get? p=B o∧jF o:=by induction x with|mk a _=>exact⟨_,a,fun I q=>qF q⟩
theorem jd.ey (x:jd g h p P):∃o,h.get? p=B o∧jF o:=by induction x with|mk a _=>exact a.imp fun o z=>z.elim fun I z=>z.elim fun I z=>⟨z.1,fun I q=>nomatch z.2.2.1.symm.trans q⟩
theorem mQ.g8 (aY:∀v,P v→vI v)(bu:∀v,Q v→Fd v):mQ P Q vs→mQ vI Fd vs
 | .mk a b=>.mk (aY _ a) (bu _ b)
theorem vG.g8 (aY:∀v,P v→vI v):vG k P x→vG k vI x
 | .mk a=>.mk (aY _ a)
theorem aE.hT (M:hG mR N O bw cF h aj G):(∀d,je G d→∀v,aE g h N O d v→aE g aj bw cF d v)∧(∀l,kA G l→∀v,cp g h N O l v→cp g aj bw cF l v)∧∀l,j1 G l→∀v,dA g h N O l v→dA g aj bw cF l v:=by
 have at_:∀{W vH:aC→Prop},(∀p,W p→∃o,h.get? p=B o∧jF o)→(∀p,hs N O p→W p→vH p)→∀v,f0 (hs N O) W v→f0 (hs bw cF) vH v:=fun l k I=>f0.g8 fun p a b=>⟨(l p b).elim fun o e=>M.nC p o (M.cO o (.inl e.2)) e.1 a,k p a b⟩
 have jg:∀p,hs N O p→∀o,cv o→h.get? p=B o→aj.get? p=B o:=fun p a o n e=>M.cw p o (M.cO o n) e a
 refine D.hT (fun I I x=>x) (fun I I I x=>x) (fun I I I x=>x) (fun I I I x=>x) (fun I I I x=>x) (fun I q a=>at_ (fun I=>kz.ey) fun p f w=>w.g8 (jg p f) (q a)) (fun I q a=>at_ (fun I=>kz.ey) fun p f w=>w.g8 (jg p f) (q a))
  (fun I q a=>at_ (fun I=>jd.ey) fun p f w=>w.g8 (jg p f) (q a)) (fun c I q a=>at_ (fun I w=>by induction w with|mk _ e=>exact⟨_,e,fun I q=>qF q⟩) fun p f w=>by induction w with|mk bH aV hd hk aL=>exact .mk (M.nC _ _ (M.cO _ (.inl fun I q=>qF q)) hd bH) (jg p f _ (.inl fun I q=>qF q) aV) (jg _ bH _ (.inl fun I q=>qF q) hd) hk (q a _ aL))
  (fun i a I=>f0.g8 fun p e I=>⟨M.fv i p a e,cy⟩) (fun I I x=>x) (fun I I p q a I=>mQ.g8 (p a.1) (q a.2)) (fun I I x=>x) fun I I p q a I=>mQ.g8 (fun I=>vG.g8 (p a.1)) (q a.2)
theorem je.t:(∀d,je (fun I=>g4) d)∧(∀l,kA (fun I=>g4) l)∧∀l,j1 (fun I=>g4) l:=
 D.hT cy (fun I=>cy) (fun I=>cy) (fun I=>cy) (fun I=>cy) (fun I q=>q) (fun I q=>q) (fun I q=>q) (fun I I q=>q) (fun I=>cy) cy (fun I I p q=>⟨p,q⟩) cy fun I I p q=>⟨p,q⟩
theorem aE.nD:(∀d v,aE g h N O d v→je (· < N.length) d)∧(∀l v,cp g h N O l v→kA (· < N.length) l)∧∀l v,dA g h N O l v→j1 (· < N.length) l:=by
 refine D.hT (fun I I=>cy) (fun I I I=>cy) (fun I I I=>cy) (fun I I I=>cy) (fun I I I=>cy) (fun I q I x=>?_) (fun I q I x=>?_) (fun I q I x=>?_) (fun I I q I x=>?_) (fun I I x=>?_) (fun I I=>cy) (fun I I p q I x=>?_) (fun I I=>cy) fun I I p q I x=>?_
 ·induction x with|mk _ w=>induction w with|mk _ r=>exact q _ r
 ·induction x with|mk _ w=>induction w with|mk _ r=>exact q _ r
 ·induction x with|mk _ w=>induction w with|mk _ r=>exact q _ r
 ·induction x with|mk _ w=>induction w with|mk _ _ _ _ r=>exact q _ r
 ·induction x with|mk e=>exact(gc.mp e).1
 ·induction x with|mk a b=>exact⟨p _ a,q _ b⟩
 ·induction x with|mk a b=>induction a with|mk a=>exact⟨p _ a,q _ b⟩
abbrev cz (N O bw cF:J aC)(h aj:b8):Prop:=hG (fun I=>g4) N O bw cF h aj fun I=>g4
theorem cz.pE (k:∀b o,h.get? b=B o→hs N O b→aj.get? b=B o)(f:∀b o,h.get? b=B o→hs N O b→hs bw cF b)(i:∀(i:ah) (p:aC),N[i]?=B p→bw[i]?=B p):cz N O bw cF h aj:=⟨fun I I=>cy,fun b o I=>k b o,fun b o I=>f b o,fun j p I=>i j p⟩
theorem hG.v (M:hG mR N O bw cF h aj fun I=>g4){v:au}(x:aE g h N O d v):aE g aj bw cF d v:=(aE.hT M).1 d (je.t.1 d) v x
theorem hG.vs (M:hG mR N O bw cF h aj fun I=>g4){v:J au}(x:cp g h N O d v):cp g aj bw cF d v:=(aE.hT M).2.1 d (je.t.2.1 d) v x
theorem hG.aI (M:hG mR N O bw cF h aj fun I=>g4){v:J (bf×au)}(x:dA g h N O d v):dA g aj bw cF d v:=(aE.hT M).2.2 d (je.t.2.2 d) v x
theorem cp.ind {P:J D→J au→Prop}(n:P [] [])(c:∀d v l vs,aE g h N O d v→cp g h N O l vs→P l vs→P (d::l) (v::vs)):∀{vs:J au},cp g h N O l vs→P l vs:=by
 induction l with
 |nil=>exact fun x=>by induction x;exact n
 |cons d l az=>exact fun x=>by induction x with|mk a r=>exact c _ _ _ _ a r (az r)
theorem dA.ind {P:J (bf×D)→J (bf×au)→Prop}(n:P [] [])(c:∀k d v l vs,aE g h N O d v→dA g h N O l vs→P l vs→P ((k,d)::l) ((k,v)::vs)):∀{vs:J (bf×au)},dA g h N O l vs→P l vs:=by
 induction l with
 |nil=>exact fun x=>by induction x;exact n
 |cons d l az=>exact fun x=>by induction x with|mk a r=>induction a with|mk a=>exact c _ _ _ _ _ a r (az r)
theorem cp.bJ (x:cp g h N O l vs):vs.length=l.length:=x.ind (P:=fun l vs=>vs.length=l.length) rfl fun I I I I I I e=>bl (·+1) e
theorem dA.bJ (x:dA g h N O l vs):vs.length=l.length:=x.ind (P:=fun l vs=>vs.length=l.length) rfl fun I I I I I I I e=>bl (·+1) e
theorem dA.oy (x:dA g h N O l vs):vs.map (·.1)=l.map (·.1):=x.ind (P:=fun l vs=>vs.map (·.1)=l.map (·.1)) rfl fun I I I I I I I e=>bl (_::·) e
theorem cp.app (x:cp g h N O l vs)(y:cp g h N O m us):cp g h N O (l++m) (vs++us):=x.ind (P:=fun l vs=>cp g h N O (l++m) (vs++us)) y fun I I I I a I r=>.mk a r
inductive cQ {α:Type}(o:ax α)(P:α→Prop):Prop
 |mk {a:α}(e:o=B a)(k:P a)
theorem cp.fv (x:cp g h N O l vs):∀{i:ah} {d:D},l[i]?=B d→cQ vs[i]? (aE g h N O d):=x.ind (P:=fun l vs=>∀{i:ah} {d:D},l[i]?=B d→cQ vs[i]? (aE g h N O d)) (fun e=>nn e) fun d v l vs a I az i u e=>by
 induction i with
 |zero=>exact .mk rfl (bo e▸a)
 |succ i=>induction az (i:=i) e with|mk e k=>exact .mk e k
end
def ht (g:ci)(h:b8)(N O:J aC)(p:aC):ap→Prop
 | .br l=>kz "list" h p (cp g h N O l)
 | .bv l=>jd g h p (dA g h N O l)
 | .er b=>h.get? p=B ⟨.type "bytearray",ab,.bytearray b.toArray 0, #[]⟩
inductive ye (h:b8)(N O:J aC):au→Prop
 |mk {a:aC}{od:ax aC}{vs:dn au}{ch:dn (ax au)}{q:aO}{t:dv}(bC:hs N O a)(aV:h.get? a=B ⟨.type "code",od,.fields vs,ch⟩)(bH:vs[1]?=B (.str q t)):ye h N O (.ref a)
noncomputable def vJ (dB:J (ah×ah×au)):J au:=dB.flatMap fun t=>[l6 t.1,l6 t.2.1,t.2.2]
def Fh (h:b8)(N O:J aC)(t:aC):Prop:=∃vs dB,h.get? t=B (vC vs)∧vs.toList=vJ dB∧∀x∈dB,ye h N O x.2.2
noncomputable abbrev gh:J aC:=[KR,KS]
abbrev aaS (g:ci)(h:b8)(N:J aC)(O:J aC)(hp:J ap):Prop:=∀(i:ah) (p:aC) (o:ap),N[i]?=B p→hp[i]?=B o→ht g h N O p o
structure aR (g:ci)(h:b8)(N O:J aC)(hp:J ap):Prop where
 cw:∀b o,g.b.get? b=B o→b∉gh→h.get? b=B o
 AX:∀t∈gh,Fh h N O t
 pF:∀t∈l9,∃o,g.b.get? t=B o
 bY:N.Nodup
 lo:∀p∈N,g.b.get? p=ab∧p∉O
 gi:∀p∈O,g.b.get? p=ab∧∃o,h.get? p=B o
 bJ:hp.length=N.length
 pG:aaS g h N O hp
theorem fb {h:b8}(z:h.get? p=ab)(e:h.get? p=B o):bt:=nomatch z.symm.trans e
theorem ye.dw (M:hG mR N O bw cF h aj G):ye h N O v→ye aj bw cF v
 | .mk a b c=>.mk (M.nC _ _ (M.cO _ (.inr rfl)) b a) (M.cw _ _ (M.cO _ (.inr rfl)) b a) c
theorem Fh.dw (M:hG mR N O bw cF h aj G)(x:Fh h N O t)(e:∀o,h.get? t=B o→aj.get? t=B o):Fh aj bw cF t:=
 x.imp fun I=>gb fun I y=>⟨e _ y.1,y.2.1,fun t m=>(y.2.2 t m).dw M⟩
theorem ht.SG (M:hG mR N O bw cF h aj fun I=>g4)(e:∀cO,cv cO→h.get? p=B cO→aj.get? p=B cO):ht g h N O p o→ht g aj bw cF p o:=by
 induction o with
 |br l=>exact fun x=>x.g8 e fun I=>M.vs
 |bv l=>exact fun x=>x.g8 e fun I=>M.aI
 |er b=>exact e _ (.inl fun I q=>qF q)
theorem ht.dw (M:cz N O bw cF h aj)(e:∀cO,h.get? p=B cO→aj.get? p=B cO):ht g h N O p o→ht g aj bw cF p o:=.SG M fun cO I=>e cO
theorem ht.ey:ht g h N O p o→∃cO,h.get? p=B cO∧jF cO:=by
 induction o with
 |br l=>exact kz.ey
 |bv l=>exact jd.ey
 |er b=>exact fun x=>⟨_,x,fun I q=>qF q⟩
theorem aR.ey (H:aR g h N O hp)(m:p∈N):∃o,h.get? p=B o∧jF o:=
 have⟨i,e⟩:=Qc.mp m
 have l:i < hp.length:=H.bJ.symm▸(gc.mp e).1
 (H.pG i p hp[i] e (hQ l)).ey
theorem aR.KW (H:aR g h N O hp)(e:g.b.get? p=B o):∃o,h.get? p=B o:=by
 by_cases m:p∈gh
 ·exact(H.AX p m).elim fun I y=>y.elim fun I y=>⟨_,y.1⟩
 ·exact⟨o,H.cw p o e m⟩
theorem aR.sa (H:aR g h N O hp)(e:h.get? p=ab):g.b.get? p=ab:=by
 induction q:g.b.get? p with
 |none=>rfl
 |some o=>exact(H.KW q).elim fun I z=>(fb e z).elim
theorem aR.Fi (H:aR g h N O hp)(e:g.b.get? p=ab):p∉l9:=fun m=>(H.pF p m).elim fun I z=>fb e z
theorem aR.ma (H:aR g h N O hp)(z:h.get? p=ab):hs N O p:=
 ⟨fun m=>(H.ey m).elim fun I e=>fb z e.1,fun m=>(H.gi _ m).2.elim fun I e=>fb z e,H.Fi (H.sa z)⟩
theorem vK (m:t∈gh):t∈l9:=.tail _ m
theorem aR.to (H:aR g h N O hp)(M:hG mR N O bw cF h aj G)(kb:∀b o,g.b.get? b=B o→∀cO,h.get? b=B cO→aj.get? b=B cO)(bY:bw.Nodup)(lo:∀p∈bw,g.b.get? p=ab∧p∉cF)(gi:∀p∈cF,g.b.get? p=ab∧∃o,aj.get? p=B o)
  (len:bq.length=bw.length) (obj:∀(i:ah) (p:aC) (o:ap),bw[i]?=B p→bq[i]?=B o→ht g aj bw cF p o):aR g aj bw cF bq:=
 ⟨fun b o e n=>kb b o e o (H.cw b o e n),fun t m=>(H.AX t m).dw M ((H.pF t (vK m)).elim fun o e=>kb t o e),H.pF,bY,lo,gi,len,obj⟩
theorem aR.e7 (H:aR g h N O hp)(k:∀b o,h.get? b=B o→aj.get? b=B o)(tN:∀p∈cF,p∈O∨h.get? p=ab)(gl:∀p∈cF,∃o,aj.get? p=B o):aR g aj N cF hp:=
 have nn:∀{p o},h.get? p=B o→p∉O→p∉cF:=fun e n m=>(tN _ m).elim n fun z=>fb z e
 have M:cz N O N cF h aj:=.pE (fun b o e I=>k b o e) (fun I I e o=>⟨o.r,nn e o.n,o.s⟩) fun I I e=>e
 H.to M (fun b I I=>k b) H.bY (fun p m=>⟨(H.lo p m).1,(H.ey m).elim fun I e=>nn e.1 (H.lo p m).2⟩) (fun p m=>⟨(tN p m).elim (fun z=>(H.gi p z).1) H.sa,gl p m⟩) H.bJ fun i p o aT aN=>(H.pG i p o aT aN).dw M (k p)
theorem aR.tO (H:aR g h N O hp)(k:∀b o,h.get? b=B o→aj.get? b=B o):aR g aj N O hp:=
 H.e7 k (fun I m=>.inl m) fun p m=>(H.gi p m).2.imp fun o=>k p o
theorem aR.j3 (H:aR g h N O hp)(o:ee):aR g (h.push o) N O hp:=H.tO fun I I e=>lx _ e
theorem aR.hH (H:aR g h N O hp)(aG:∀a∈cF,a∈O):aR g h N cF hp:=H.e7 (fun I I e=>e) (fun p m=>.inl (aG p m)) fun p m=>(H.gi p (aG p m)).2
theorem cz.at (aG:hq a h aj)(m:¬ hs N O a):cz N O N O h aj:=.pE (fun b o e f=>(aG.2 b fun q=>m (q▸f)).trans e) (fun I I I o=>o) fun I I e=>e
theorem Fj (aG:hq a h aj)(aw:∃o,aj.get? a=B o)(b:aC)(o:ee)(e:h.get? b=B o):∃o',aj.get? b=B o':=by
 by_cases q:b=a
 ·exact q▸aw
 ·exact⟨o,(aG.2 b q).trans e⟩
theorem aR.nE (H:aR g h N O hp)(b0:a∈O)(aG:hq a h aj)(aw:∃o,aj.get? a=B o):aR g aj N O hp:=
 have M:cz N O N O h aj:=.at aG fun o=>o.n b0
 H.to M (fun b o e cO q=>(aG.2 b fun z=>fb (H.gi a b0).1 (z▸e)).trans q) H.bY H.lo (fun p m=>⟨(H.gi p m).1,(H.gi p m).2.elim (Fj aG aw p)⟩) H.bJ
  fun i p o aT aN=>(H.pG i p o aT aN).dw M fun cO q=>(aG.2 p fun z=>(H.lo p (gZ aT)).2 (z▸b0)).trans q
theorem aR.fq (H:aR g h N O hp)(b0:N[i]?=B a)(aG:hq a h aj)(bC:ht g aj N O a o):aR g aj N O (hp.set i o):=by
 have bZ:=gZ b0
 have M:cz N O N O h aj:=.at aG fun o=>o.r bZ
 have aw:=(gc.mp b0).1
 refine H.to M (fun b o e cO q=>(aG.2 b fun z=>fb (H.lo a bZ).1 (z▸e)).trans q) H.bY H.lo (fun p m=>⟨(H.gi p m).1,(H.gi p m).2.elim (Fj aG (bC.ey.imp fun I z=>z.1) p)⟩) (by refine pl.symm▸?_;exact H.bJ) fun j p o' aT aN=>?_
 by_cases da:i=j
 ·subst da
  rw[DU (H.bJ.symm▸aw)] at aN
  exact bo aN▸bo (b0.symm.trans aT)▸bC
 ·rw[DY da] at aN
  exact(H.pG j p o' aT aN).dw M fun cO q=>(aG.2 p fun z=>da ((IZ aw H.bY).mp (b0.trans (z▸aT).symm))).trans q
theorem cz.app (b0:h.get? a=ab)(k:∀b o,h.get? b=B o→aj.get? b=B o):cz N O (N++[a]) O h aj:=
 .pE (fun b o e I=>k b o e) (fun b I e o=>⟨fun m=>(fE.mp m).elim o.r fun q=>fb b0 (df.mp q▸e),o.n,o.s⟩) fun i p e=>by refine(jC (gc.mp e).1)▸?_;exact e
theorem aR.yf (H:aR g h N O hp)(M:cz N O (N++[a]) cF h aj)(kb:∀b o,g.b.get? b=B o→∀cO,h.get? b=B cO→aj.get? b=B cO)(j4:a∉N)(ba:g.b.get? a=ab)(na:a∉cF)(sub:∀p∈cF,p∈O)(aaT:∀p∈N,∀o,h.get? p=B o→aj.get? p=B o)(lv:∀p∈cF,∀o,h.get? p=B o→aj.get? p=B o)(bC:ht g aj (N++[a]) cF a o):aR g aj (N++[a]) cF (hp++[o]):=by
 refine H.to M kb (Ae.mpr ⟨H.bY,by simp,fun x hx y eI q=>j4 (df.mp eI▸q▸hx)⟩) (fun p m=>?_) (fun p m=>⟨(H.gi p (sub p m)).1,(H.gi p (sub p m)).2.imp fun o=>lv p m o⟩) (by refine cG.symm▸cG.symm▸H.bJ.symm▸?_;rfl) fun i p o' aT aN=>?_
 ·rcases fE.mp m with m|m
  ·exact⟨(H.lo p m).1,fun q=>(H.lo p m).2 (sub p q)⟩
  ·exact(df.mp m)▸(⟨ba,na⟩)
 ·by_cases hi:i < N.length
  ·rw[jC hi] at aT
   rw[jC (H.bJ.symm▸hi)] at aN
   exact(H.pG i p o' aT aN).dw M (aaT p (gZ aT))
  ·have ea:i=N.length:=by have:=(gc.mp aT).1;rw[cG] at this;exact An (Nat.lt_succ_iff.mp this) (Am hi)
   subst ea
   rw[Ab (a8 _),xD] at aT
   rw[←H.bJ,Ab (a8 _),xD] at aN
   exact bo aT▸bo aN▸bC
theorem aR.KX (H:aR g h N O hp)(k:∀b o,h.get? b=B o→aj.get? b=B o)(b0:h.get? a=ab)(bC:ht g aj (N++[a]) O a o):aR g aj (N++[a]) O (hp++[o]):=
 H.yf (.app b0 k) (fun b I I=>k b) (H.ma b0).r (H.sa b0) (H.ma b0).n (fun I=>id) (fun p I=>k p) (fun p I=>k p) bC
noncomputable def fH (A:dc):J aC:=(A.frames.getD []).filterMap (·.frame)
def qJ (fw:J aC)(aj:b8)(b:aC)(o:ee):Prop:=∃ch,aj.get? b=B {o with slots:=ch}∧(b∈fw∨ch=o.slots)
abbrev aaU (ex:J aC)(aS:J aC)(fw:J aC)(h:b8)(aj:b8):Prop:=∀b o,h.get? b=B o→b∉ex→b∉aS→b∉gh→qJ fw aj b o
structure nF (ex aS fw:J aC)(h aj:b8):Prop where
 ey:∀b o,h.get? b=B o→∃o',aj.get? b=B o'
 cw:aaU ex aS fw h aj
def hu (h:b8)(N bw:J aC):Prop:=∀p∈bw,p∈N∨h.get? p=ab
abbrev StepZ_nf (aS:J aC)(s:a3)(ar:a3):Prop:=∀a∈aS,∀o o',s.heap.get? a=B o→ar.heap.get? a=B o'→jF o→jF o'
structure b9 (A:dc)(aS N:J aC)(s:a3)(bw:J aC)(ar:a3):Prop where
 e8:nF N aS (fH A) s.heap ar.heap
 hS:StepZ_nf aS s ar
 mS:N <+:bw
 e0:hu s.heap N bw
 hv:ar.gens=s.gens∧ar.drawn=s.drawn∧ar.os=s.os
section
variable {h cM fR aj:b8}
theorem qJ.qK (e:h.get? b=B o):qJ fw h b o:=⟨o.slots,e,.inr (Eq.refl _)⟩
theorem qJ.eJ (x:qJ fw cM b o)(y:∀o',cM.get? b=B o'→qJ φ' fR b o')(hy:b∈φ'→b∈fw):qJ fw fR b o:=
 x.elim fun I e=>(y _ e.1).imp fun I z=>⟨z.1,e.2.elim .inl fun q=>z.2.imp hy fun lC=>lC.trans q⟩
theorem qJ.pH (x:qJ fw h b o)(n:b∉fw):h.get? b=B o:=x.elim fun I y=>by have e:=y.1;rw[y.2.resolve_left n] at e;exact e
theorem pI (aw:∀b o,h.get? b=B o→∃o',aj.get? b=B o')(z:aj.get? p=ab):h.get? p=ab:=
 Option.eq_none_iff_forall_ne_some.mpr fun o e=>(aw p o e).elim fun I=>fb z
theorem hu.iX (h:b8)(N:J aC):hu h N N:=fun I=>.inl
theorem hu.eJ (x:hu h N bj)(aw:∀b o,h.get? b=B o→∃o',cM.get? b=B o')(y:hu cM bj fk):hu h N fk:=fun p m=>(y p m).elim (x p) fun z=>.inr (pI aw z)
theorem hu.vL (g:hu h N bw)(e:h.get? b=B o)(n:b∉N):b∉bw:=fun m=>(g b m).elim n fun z=>fb z e
theorem hu.aaV (z:h.get? a=ab):hu h N (N++[a]):=fun I m=>(fE.mp m).imp id fun q=>by exact(df.mp q)▸z
theorem hu.bh (m:∀a∈bw,a∈N):hu h N bw:=fun a x=>.inl (m a x)
theorem nF.of (k:∀b o,h.get? b=B o→aj.get? b=B o):nF ex aS fw h aj:=⟨fun b o e=>⟨o,k b o e⟩,fun b o e I I I=>.qK (k b o e)⟩
theorem nF.eJ (x:nF ex aS fw h cM)(y:nF ex' J' φ' cM fR)(g:hu h ex ex')(KY:hu h aS J')(KZ:hu h fw φ'):nF ex aS fw h fR:=
 ⟨fun b o e=>(x.ey b o e).elim fun o'=>y.ey b o',fun b o e n j t=>(x.cw b o e n j t).eJ (fun o' cR=>y.cw b o' cR (g.vL e n) (KY.vL e j) t) fun m=>(KZ b m).elim id fun z=>(fb z e).elim⟩
theorem nF.qL (x:nF ex aS fw h aj)(g:hu h ex' ex)(KY:hu h J' aS)(KZ:hu h φ' fw):nF ex' J' φ' h aj:=
 ⟨x.ey,fun b o e n j t=>(x.cw b o e (g.vL e n) (KY.vL e j) t).imp fun I y=>⟨y.1,y.2.imp (fun m=>(KZ b m).elim id fun z=>(fb z e).elim) id⟩⟩
theorem b9.iX:b9 A aS N s N s:=⟨.of fun I I e=>e,fun I I I I e cR n=>bo (e.symm.trans cR)▸n,tm _,.iX _ _,rfl,rfl,rfl⟩
theorem b9.eJ (x:b9 A aS N s bj aB)(y:b9 A aS bj aB fk c6):b9 A aS N s fk c6:=
 ⟨x.e8.eJ y.e8 x.e0 (.iX _ _) (.iX _ _),fun a m o I e cR n=>(x.e8.ey a o e).elim fun I q=>y.hS a m _ _ q cR (x.hS a m _ _ e q n),x.mS.trans y.mS,x.e0.eJ x.e8.ey y.e0,y.hv.1.trans x.hv.1,y.hv.2.1.trans x.hv.2.1,y.hv.2.2.trans x.hv.2.2⟩
theorem b9.e7 (hk:∀b o,s.heap.get? b=B o→h.get? b=B o):b9 A aS N s N {s with heap:=h,toks:=k}:=
 ⟨.of hk,fun I I I I e cR n=>bo ((hk _ _ e).symm.trans cR)▸n,tm _,.iX _ _,rfl,rfl,rfl⟩
theorem b9.dV:b9 A aS N s N {s with toks:=k}:=.e7 fun I I e=>e
theorem b9.fv (x:b9 A aS N s bw ar){i:ah}(e:N[i]?=B p):bw[i]?=B p:=
 x.mS.elim fun I q=>q▸(jC (gc.mp e).1).trans e
theorem cz.of (x:nF ex aS fw h aj)(hex:∀a∈ex,a∈N)(da:∀a∈aS,a∈O)(hy:∀a∈fw,a∈O)(tN:hu h N bw)(aaW:hu h O cF)(get:∀(i:ah) (p:aC),N[i]?=B p→bw[i]?=B p):cz N O bw cF h aj:=
 .pE (fun b o e f=>(x.cw b o e (fun m=>f.r (hex b m)) (fun m=>f.n (da b m)) fun m=>f.s (vK m)).pH fun m=>f.n (hy b m)) (fun b o e f=>⟨tN.vL e f.r,aaW.vL e f.n,f.s⟩) get
end
inductive K0 (h₀ h:b8)(e:aC):au→Prop
 |no:K0 h₀ h e .none
 |bb {T:aC}{oT:ee}{dB:dn au}(aA:h₀.get? T=ab)(ne:T≠e)(di:h.get? T=B oT)(hd:oT.data=.fields dB)(cu:dB[3]?=B .none)(hc:oT.cls=.type "traceback"):K0 h₀ h e (.ref T)
inductive nG (h₀ h:b8):au→Prop
 |mk {e:aC}{mT:ee}{vs:dn au}{r9 t:au}(aA:h₀.get? e=ab)(cP:h.get? e=B mT)(hc:mT.cls=.ref 46)(hd:mT.data=.fields vs)(h0:vs[0]?=B r9)(aY:vs[1]?=B t)(bE:K0 h₀ h e t):nG h₀ h (.ref e)
theorem nG.pJ (l:∀b o,h₀.get? b=B o→∃o',cM.get? b=B o')(y:nG cM h x):nG h₀ h x:=by
 induction y with|mk a b c d e f t=>
 exact .mk (pI l a) b c d e f (by induction t with|no=>exact .no|bb t1 sb t3 aaX aaY aaZ=>exact .bb (pI l t1) sb t3 aaX aaY aaZ)
def vM (h:b8)(env:eo):Prop:=env.scope.kind≠.module∧∃L o,env.frame=B L∧h.get? L=B o∧jF o
structure fc (A:dc)(n:ah)(O:J aC)(h:b8):Prop where
 hd:A.handled=ab
 qM:A.depth+20 *n+20 < mJ
 un:A.units+50 *n < 9000
 fr:∃l,A.frames=B l∧∀env∈l,vM h env
 dS:∀L∈fH A,L∈O
inductive fe {α d0:Type}(g:ci)(A:dc)(aS O N:J aC)(s:a3)(R:b8→J aC→d0→α→Prop)(K:d0→J ap→Prop):α→a3→Prop
 |mk {a:α}{ar:a3}{bw:J aC}{bq:J ap}{b:d0}(st:b9 A aS N s bw ar)(H:aR g ar.heap bw O bq)(r:R ar.heap bw b a)(k:K b bq):fe g A aS O N s R K a ar
inductive gR (g:ci)(A:dc)(aS O N:J aC)(s:a3)(X:J ap→Prop):au→a3→Prop
 |mk {x:au}{ar:a3}{bw:J aC}{bq:J ap}(st:b9 A aS N s bw ar)(H:aR g ar.heap bw O bq)(e:nG s.heap ar.heap x)(k:X bq):gR g A aS O N s X x ar
section
variable(g:ci)(A:dc)(aS O N:J aC)(s:a3)
abbrev T (t:dM α)(R:b8→J aC→d0→α→Prop)(K:d0→J ap→Prop)(X:J ap→Prop):Prop:=bM (bB g.p g.w) A t (fe g A aS O N s R K) (gR g A aS O N s X) s
abbrev U (t:dM α)(R:b8→J aC→d0→α→Prop)(K:d0→J ap→Prop)(X:J ap→Prop):Prop:=bK (bB g.p g.w) A t (fe g A aS O N s R K) (gR g A aS O N s X) s
abbrev eF (t:dM au)(K:D→J ap→Prop)(X:J ap→Prop):Prop:=T g A [] O N s t (fun h N=>aE g h N O) K X
abbrev dP (t:dM au)(K:D→J ap→Prop)(X:J ap→Prop):Prop:=U g A [] O N s t (fun h N=>aE g h N O) K X
abbrev AY (t:dM (J au))(K:J D→J ap→Prop)(X:J ap→Prop):Prop:=U g A [] O N s t (fun h N=>cp g h N O) K X
abbrev aa0 (t:dM aZ)(K:aZ→J ap→Prop)(X:J ap→Prop):Prop:=T g A [] O N s t (fun I I d v=>v=d) K X
abbrev yg (t:dM aZ)(K:aZ→J ap→Prop)(X:J ap→Prop):Prop:=U g A [] O N s t (fun I I d v=>v=d) K X
end
section
variable {s aB ar:a3}{K:d0→J ap→Prop}
theorem gR.jG (st:b9 A aS N s bj aB):gR g A aS O bj aB X x ar→gR g A aS O N s X x ar
 | .mk a b c d=>.mk (st.eJ a) b (c.pJ st.e8.ey) d
theorem fe.jG (st:b9 A aS N s bj aB):fe g A aS O bj aB R K x ar→fe g A aS O N s R K x ar
 | .mk a b c d=>.mk (st.eJ a) b c d
theorem fe.dj {g:ci}{A:dc}{aS O N:J aC}{s:a3}{α d0:Type}{R:b8→J aC→d0→α→Prop}{K:d0→J ap→Prop}{a:α}{b:d0}(H:aR g s.heap N O hp)(r:R s.heap N b a)(k:K b hp):fe g A aS O N s R K a s:=.mk .iX H r k
theorem U.jH (h:U g A aS O N s t R K X)(k:∀a aB bj bN b,b9 A aS N s bj aB→aR g aB.heap bj O bN→R aB.heap bj b a→K b bN→Q a aB)(gA:∀x aB,gR g A aS O N s X x aB→E x aB):bK (bB g.p g.w) A t Q E s:=
 ew h (fun I I x=>by induction x with|mk a b c d=>exact k _ _ _ _ _ a b c d) gA
theorem U.gj (h:U g A aS O N s t R K X)(k:∀a aB bj bN b,b9 A aS N s bj aB→aR g aB.heap bj O bN→R aB.heap bj b a→K b bN→U g A aS O bj aB (f a) R2 K2 X):U g A aS O N s (t>>=f) R2 K2 X:=
 cc (h.jH (fun a aB bj bN b st H r q=>ew (k a aB bj bN b st H r q) (fun I I=>.jG st) fun I I=>.jG st) fun I I x=>x)
theorem U.mb (H:aR g s.heap N O hp)(r:R s.heap N b a)(k:K b hp):U g A aS O N s (bV a) R K X:=cs (.dj H r k)
theorem fc.hH (C:fc A n O h)(l:m≤n):fc A m O h:=
 ⟨C.hd,e6 (dR (eH (hR _ l) _) _) C.qM,e6 (eH (hR _ l) _) C.un,C.fr,C.dS⟩
theorem aa1 (aw:A.frames=B l)(cP:env∈l)(hf:env.frame=B L):L∈fH A:=by
 unfold fH;exact aw▸(rM.mpr ⟨env,cP,hf⟩)
theorem aR.SH (H:aR g s.heap N O hp)(m:a∈O):a∉gh:=fun q=>H.Fi (H.gi a m).1 (vK q)
theorem nF.tP (x:nF N aS fw s.heap aj)(H:aR g s.heap N O hp)(m:a∈O)(n:a∉aS)(e:s.heap.get? a=B o):∃ch,aj.get? a=B {o with slots:=ch}:=
 (x.cw a o e (fun r=>(H.lo a r).2 m) n (H.SH m)).imp fun I y=>y.1
theorem fc.f3 (C:fc A n O s.heap)(H:aR g s.heap N O hp)(st:b9 A aS N s bw ar):fc A n O ar.heap:=
 ⟨C.hd,C.qM,C.un,C.fr.imp fun I y=>⟨y.1,fun env cP=>⟨(y.2 env cP).1,(y.2 env cP).2.imp fun L z=>z.elim fun o q=>by
  by_cases j:L∈aS
  ·exact(st.e8.ey L o q.2.1).imp fun o' w=>⟨q.1,w,st.hS L j o o' q.2.1 w q.2.2⟩
  ·exact(st.e8.tP H (C.dS L (aa1 y.1 cP q.1)) j q.2.1).elim fun I w=>⟨_,q.1,w,q.2.2⟩⟩⟩,C.dS⟩
theorem b9.AZ (st:b9 A aS N s bw ar)(C:fc A n O s.heap)(bC:∀a∈aS,a∈O):cz N O bw O s.heap ar.heap:=.of st.e8 (fun I m=>m) bC C.dS st.e0 (.iX _ _) fun I I=>st.fv
theorem b9.dw (st:b9 A [] N s bw ar)(C:fc A n O s.heap):cz N O bw O s.heap ar.heap:=st.AZ C fun I m=>dz m
theorem b9.jh (x:b9 A [] N s bw ar)(H:aR g s.heap N O hp)(bC:∀a∈aS,a∈O):b9 A aS N s bw ar:=
 ⟨x.e8.qL (.iX _ _) (.bh fun I m=>nomatch m) (.iX _ _),fun a m o o' e cR n=>(x.e8.tP H (bC a m) (fun m=>nomatch m) e).elim fun I w=>by rw[w] at cR;exact bo cR▸n,x.mS,x.e0,x.hv⟩
end
section
set_option backward.match.sparseCases false
inductive yh|bJ|fS|V|pK|bv|br|nH|ac|A0|aF
inductive oz|eP|mc|tQ|sd|fv|oA|se|pL|A1|A2|tR
inductive Ty|V|nH|br|bv|pK
set_option genCtorIdx false in
inductive cS where
 |ez
 |ag (d:D)
 |aa (i:ah)
 |fl (g:ah)
 |cA (a:aZ)(es:J cS)
 |a4 (m:aZ)(op:Operator)(l r:cS)
 |vN (x:cS)|Fk (x:cS)|jI (x:cS)
 |a7 (t b o:cS)
 |aH (op:qC)(l r:cS)
 |jJ (hV hW:qC)(l x r:cS)
 |aW (es:J cS)
 |aP (m:aZ)(es:J cS)
 |a5 (m:aZ)(cK vs:J cS)
 |bh (e i:cS)
 |fs (e:cS)(lo hi:ax cS)
 |sf (e:cS)
 |ef (e:cS)(x:aO)
 |bp (f:ah)(as:J cS)
 |e0 (c:ah)(as:J cS)
 |fJ (o:cS)(f:ah)(as:J cS)
 |bi (m:aZ)(f:yh)(as:J cS)
 |ji (e:cS)(t:ah)
 |bm (o:cS)(f:oz)(as:J cS)
 |lc (elt:cS)(jK:J ah)(iter:cS)(ifs:J cS)(nI:J (ax ah))
 |A3 (elt:cS)(jK:ah)(iter:cS)(K3:ah)(SI:cS)(nI:J (ax ah))
 |qN (k v:cS)(jK:ah)(iter:cS)(nI:J (ax ah))
 |jj (e:cS)(nI:J (ax ah))
 |e1 (e:cS)|vO (e:cS)|qO (e:cS)|c0 (e:cS)
set_option genCtorIdx false in
inductive cT where
 |ez
 |bW (i:ah)(e:cS)
 |ig (is:J ah)(es:J cS)
 |sg (is:J ah)(e:cS)
 |ih (o i v:cS)
 |eU (e:cS)
 |a7 (t:cS)(b o:J cT)
 |md (t:cS)(b:J cT)
 |gS (jK:J ah)(e:cS)(b:J cT)
 |bO (e:ax cS)
 |lD (e:cS)
 |yi
def ei (b:aZ)(P Q:Prop):Prop:=match b with|true=>P|false=>Q
def bF (o:ax α)(P:α→Prop):Prop:=match o with|some a=>P a|none=>bt
noncomputable def bS (o:ax α)(f:α→d0)(y:d0):d0:=match o with|some a=>f a|none=>y
noncomputable def dW:J α→ax α
 | []=>ab
 |a::l=>match l with| []=>B a|_::_=>ab
noncomputable def mU:J α→ax (α×α)
 | []=>ab
 |a::l=>bS (dW l) (fun b=>B (a,b)) ab
noncomputable def D.eK:D→ax aq
 | .ac i=>B i
 |_=>ab
noncomputable def D.f5:D→ax (J am)
 | .V b=>B b
 |_=>ab
noncomputable def D.me:D→ax (J D)
 | .aW l=>B l
 |_=>ab
noncomputable def D.oB:D→ax (J D)
 | .aP l=>B l
 |_=>ab
noncomputable def D.mf:D→ax (J (bf×D))
 | .a5 l=>B l
 |_=>ab
noncomputable def D.yj:D→ax ah
 | .bb i=>B i
 |_=>ab
noncomputable def D.no:D→aZ
 | .aK=>af
 |_=>ae
noncomputable def ap.oB:ap→ax (J D)
 | .br l=>B l
 |_=>ab
noncomputable def ap.mf:ap→ax (J (bf×D))
 | .bv l=>B l
 |_=>ab
noncomputable def ap.f5:ap→ax (J am)
 | .er b=>B b
 |_=>ab
noncomputable def dy:D→ax bf
 | .aK=>B .aK
 | .ac i=>B (.ac i)
 | .V b=>B (.V b)
 | .aF x=>B (.aF x)
 |_=>ab
noncomputable def bf.d:bf→D
 | .aK=>.aK
 | .ac i=>.ac i
 | .V b=>.V b
 | .aF x=>.aF x
noncomputable def cB (l:J (bf×D))(k:bf):ax D:=(l.find? fun p=>p.1=k).map (·.2)
noncomputable def cC (l:J (bf×D))(k:bf)(v:D):J (bf×D):=if l.any (fun p=>p.1=k)then l.map (fun p=>if p.1=k then(p.1,v)else p)else l++[(k,v)]
noncomputable def kX (l:J (bf×D))(k:bf):J (bf×D):=l.filter fun p=>a9 (p.1≠k)
noncomputable def d2 (l:J (bf×D))(k:bf):aZ:=l.any fun p=>p.1=k
noncomputable def jk (l m:J (bf×D)):J (bf×D):=m.foldl (fun t p=>cC t p.1 p.2) l
noncomputable def gB (hp:J ap):D→ax (J D)
 | .aP l=>B l
 | .bb i=>hp[i]?.bind ap.oB
 |_=>ab
noncomputable def nJ (hp:J ap):D→ax (J D)
 | .aW l=>B l
 |d=>gB hp d
noncomputable def fK (hp:J ap):D→ax (J (bf×D))
 | .a5 l=>B l
 | .bb i=>hp[i]?.bind ap.mf
 |_=>ab
noncomputable abbrev a0:=D→J ap→Prop
def hX (m:aZ)(o:ap)(K4:D)(hp:J ap)(K:a0):Prop:=match m with|true=>K (.bb hp.length) (hp++[o])|false=>K K4 hp
def kY (a b:D)(P:aq→aq→Prop):Prop:=bF a.eK fun i=>bF b.eK fun j=>P i j
def SJ (m:aZ)(hp:J ap)(K:a0)(a b:D):Prop:=bF (gB hp a) fun a=>bF (gB hp b) fun b=>a.length+b.length≤1000000∧hX m (.br (a++b)) (.aP (a++b)) hp K
def SK (m:aZ)(hp:J ap)(K:a0)(a b:D):Prop:=match a with
 | .ac i=>bF b.eK fun j=>K (.ac (i+j)) hp
 | .V x=>bF b.f5 fun y=>x.length+y.length≤16777216∧K (.V (x++y)) hp
 | .aW l=>bF b.me fun r=>l.length+r.length≤1000∧K (.aW (l++r)) hp
 |a=>SJ m hp K a b
def kB (i:aq):Prop:=i.natAbs < 18446744073709551616
def pM (m:aZ)(op:Operator)(a b:D)(hp:J ap)(K:a0):Prop:=match op with
 | .Add=>SK m hp K a b
 | .Sub=>kY a b fun i j=>K (.ac (i - j)) hp
 | .Mult=>match a with
  | .aP l=>bF b.eK fun j=>(0≤j∧j≤3∧l.length≤3)∧K (.aP (qw j.toNat l).flatten) hp
  |a=>kY a b fun i j=>(kB i∧kB j)∧K (.ac (i *j)) hp
 | .FloorDiv=>kY a b fun i j=>(j≠0∧j.natAbs < 1073741824)∧K (.ac (i.fdiv j)) hp
 | .Mod=>kY a b fun i j=>j≠0∧K (.ac (i.fmod j)) hp
 | .Pow=>kY a b fun i j=>(0≤j∧j≤64∧i.natAbs < 256)∧K (.ac (i ^ j.toNat)) hp
 | .LShift=>kY a b fun i j=>(0≤j∧j≤64∧kB i)∧K (.ac (i *2 ^ j.toNat)) hp
 | .RShift=>kY a b fun i j=>0≤j∧K (.ac (i.fdiv (2 ^ j.toNat))) hp
 | .BitAnd=>kY a b fun i j=>K (.ac (hE i j)) hp
 | .BitOr=>kY a b fun i j=>K (.ac (jE i j)) hp
 |_=>bt
noncomputable def hY (a b:D):aZ:=bS (dy a) (fun x=>bS (dy b) (fun y=>a9 (x=y)) ae) (match a with| .be x=>(match b with| .be y=>x==y|_=>ae)|_=>ae)
noncomputable def pN (m:J (bf×D)):J (bf×D)→aZ
 | []=>af
 |p::l=>bS (cB m p.1) (fun y=>hY p.2 y&&pN m l) ae
noncomputable def kC (hp:J ap)(a b:D):aZ:=bS (fK hp a) (fun l=>bS (fK hp b) (fun m=>l.length==m.length&&pN m l) ae) (hY a b)
noncomputable def mV (f:D→D→aZ):J D→J D→aZ
 | [],l=>l.isEmpty
 |x::l,r=>match r with| []=>ae|y::m=>f x y&&mV f l m
noncomputable def Fl (hp:J ap)(a b:D):aZ:=bS a.me (fun l=>bS b.me (fun m=>mV hY l m) ae) (bS (gB hp a) (fun l=>bS (gB hp b) (fun m=>mV (kC hp) l m) ae) (kC hp a b))
def Fm (hp:J ap)(K:aZ→Prop)(a b:D):Prop:=Fl hp a b=af∧K af
def K5 (ne:aZ)(hp:J ap)(K:aZ→Prop)(a b:D):Prop:=match b with
 | .ac j=>bF a.eK fun i=>K (i==j)
 | .be j=>match a with| .be i=>K (i==j)|_=>bt
 | .aK=>match a with| .aK=>K af|_=>bt
 | .V y=>match a with| .V x=>K (x==y)| .aK=>ne=ae∧K ae|_=>bt
 | .aF y=>match a with
  | .aF x=>K (x==y)
  | .V _=>ne=ae∧K ae
  | .be _=>ne=ae∧K ae
  | .ac _=>ne=ae∧K ae
  |a=>ne=ae∧bF (fK hp a) fun I=>K ae
 | .a5 m=>match m with| []=>bF (fK hp a) fun l=>K l.isEmpty|p::m=>Fm hp K a (.a5 (p::m))
 | .aP m=>match m with| []=>bF (gB hp a) fun l=>K l.isEmpty|p::m=>Fm hp K a (.aP (p::m))
 |b=>Fm hp K a b
noncomputable def eA (sub:J am):J am→ah→ax ah
 | [],i=>if sub.isEmpty then B i else ab
 |c::r,i=>if sub.isPrefixOf (c::r)then B i else eA sub r (i+1)
def Fn (hp:J ap)(K:aZ→Prop)(x y:D):Prop:=bF (dy x) fun k=>bS (fK hp y) (fun l=>K (d2 l k)) (bF (nJ hp y) fun l=>(l.all fun e=>(dy e).isSome)=af∧K (l.any fun e=>a9 (dy e=B k)))
def K6 (hp:J ap)(K:aZ→Prop)(x y:D):Prop:=match y with
 | .V b=>(match x with
  | .ac i=>(0≤i∧i < 256)∧K (b.any fun c=>(c.toNat:aq)==i)
  | .V a=>b.length≤16777216∧K (eA a b 0).isSome
  |_=>bt)
 |y=>Fn hp K x y
def eg (op:qC)(a b:D)(hp:J ap)(K:aZ→Prop):Prop:=match op with
 | .Eq=>K5 ae hp K a b
 | .NotEq=>K5 af hp (fun x=>K (!x)) a b
 | .Lt=>kY a b fun i j=>K (a9 (i < j))
 | .LtE=>kY a b fun i j=>K (a9 (i≤j))
 | .Gt=>kY a b fun i j=>K (a9 (j < i))
 | .GtE=>kY a b fun i j=>K (a9 (j≤i))
 | .In=>K6 hp K a b
 | .NotIn=>K6 hp (fun x=>K (!x)) a b
 | .Is=>b.no=af∧K a.no
 | .IsNot=>b.no=af∧K !a.no
noncomputable def c1 (l:J α)(lo hi:ax aq):J α:=(l.take (bS hi (ia l.length) l.length)).drop (bS lo (ia l.length) 0)
noncomputable def K7:ax D→ax (ax aq)
 |none=>B ab
 |some d=>match d with| .ac i=>B (B i)| .aK=>B ab|_=>ab
def Fo (d:D)(lo hi:ax D)(hp:J ap)(K:a0):Prop:=bF (K7 lo) fun lo=>bF (K7 hi) fun hi=>match d with
  | .V b=>b.length≤16777216∧K (.V (c1 b lo hi)) hp
  | .aW l=>l.length≤1000∧K (.aW (c1 l lo hi)) hp
  | .aP l=>l.length≤1000∧K (.aP (c1 l lo hi)) hp
  |_=>bt
def K8 (hp:J ap)(K:a0)(a b:D):Prop:=bS (fK hp a) (fun l=>bF (dy b) fun k=>bF (cB l k) fun d=>K d hp) (bF (nJ hp a) fun l=>bF b.eK fun i=>(0≤i∧l.length≤1000000)∧bF l[i.toNat]? fun d=>K d hp)
def g9 (hp:J ap)(K:a0)(a b:D):Prop:=match a with
 | .V l=>bF b.eK fun i=>(0≤i∧l.length≤16777216)∧bF l[i.toNat]? fun c=>K (.ac c.toNat) hp
 |a=>K8 hp K a b
def oC (d:D)(x:aO)(hp:J ap)(K:a0):Prop:=match d with
 | .cO c l=>bF ((tL c).idxOf? x) fun i=>bF l[i]? fun e=>K e hp
 |_=>bt
def si (d:D)(K:aZ→Prop):Prop:=match d with
 | .be b=>K b
 | .ac i=>K (i !=0)
 |_=>bt
noncomputable def qP (le:α→α→aZ)(x:α):J α→J α
 | []=>[x]
 |y::r=>if le x y=af then x::y::r else y::qP le x r
noncomputable def A4 (le:α→α→aZ):J α→J α
 | []=>[]
 |x::r=>qP le x (A4 le r)
noncomputable def eV:J (J am)→J (J am):=A4 fun a b=>a9 (a≤b)
noncomputable def ha:J aq→J aq:=A4 fun a b=>a9 (a≤b)
noncomputable def tS:bf→ax (J am)
 | .V b=>B b
 |_=>ab
noncomputable def Fp:bf→ax aq
 | .ac i=>B i
 |_=>ab
noncomputable def nK (d:D):ax am:=d.eK.bind fun i=>if 0≤i∧i < 256 then B (E8 i.toNat)else ab
noncomputable def dF (f:α→ax d0):J α→ax (J d0)
 | []=>B []
 |a::r=>(f a).bind fun b=>(dF f r).map (b::·)
def SM (hp:J ap)(K:a0)(d:D):Prop:=match d with
 | .V b=>b.length≤16777216∧K (.ac b.length) hp
 |d=>bS (fK hp d) (fun l=>l.length≤1000000∧K (.ac l.length) hp) (bF (nJ hp d) fun l=>l.length≤1000000∧K (.ac l.length) hp)
def Fq (hp:J ap)(K:a0)(d:D):Prop:=bS (fK hp d)
 (fun l=>bS (dF (fun p=>tS p.1) l) (fun cK=>cK.length < 64∧K (.aP ((eV cK).map .V)) hp) (bF (dF (fun p=>Fp p.1) l) fun cK=>cK.length < 64∧K (.aP ((ha cK).map .ac)) hp))
 (bF (nJ hp d) fun l=>bF (dF D.f5 l) fun cK=>cK.length < 64∧K (.aP ((eV cK).map .V)) hp)
def K9 (hp:J ap)(K:a0)(d:D):Prop:=bF (gB hp d) fun l=>bF (dF nK l) fun b=>b.length≤1000000∧K (.V b) hp
def yk (hp:J ap)(K:a0)(d:D):Prop:=bS ((d.yj.bind fun i=>hp[i]?).bind ap.f5) (fun b=>b.length≤1000000∧K (.V b) hp) (K9 hp K d)
noncomputable def vP (d:D):ax (bf×D):=d.me.bind fun l=>(mU l).bind fun p=>(dy p.1).map (·,p.2)
def SN (m:aZ)(hp:J ap)(K:a0)(d:D):Prop:=bS (fK hp d) (fun l=>l.length≤1000∧hX m (.bv l) (.a5 l) hp K)
 (bF (gB hp d) fun l=>bF (dF vP l) fun aI=>aI.length≤1000∧hX m (.bv (jk [] aI)) (.a5 (jk [] aI)) hp K)
def SO (m:aZ)(hp:J ap)(K:a0)(d:D):Prop:=bS (fK hp d) (fun l=>l.length≤1000∧hX m (.br (l.map fun p=>p.1.d)) (.aP (l.map fun p=>p.1.d)) hp K)
 (bF (nJ hp d) fun l=>l.length≤1000∧hX m (.br l) (.aP l) hp K)
def j5 (m:aZ)(f:yh)(as:J D)(hp:J ap)(K:a0):Prop:=bF (dW as) fun d=>match f with
 | .bJ=>SM hp K d
 | .fS=>Fq hp K d
 | .V=>yk hp K d
 | .pK=>bF d.f5 fun b=>b.length≤1000000∧K (.bb hp.length) (hp++[.er b])
 | .bv=>SN m hp K d
 | .br=>SO m hp K d
 | .nH=>bF (gB hp d) fun l=>l.length≤1000∧K (.aW l) hp
 | .ac=>(match d with| .be b=>K (.ac (if b then 1 else 0)) hp|_=>bt)
 | .A0=>(match d with| .aF x=>bF (dW x.cps.toList) fun c=>K (.ac (c:ah)) hp|_=>bt)
 | .aF=>match d with| .be b=>K (.aF (if b then "True" else "False")) hp|d=>bF d.eK fun i=>kB i∧K (.aF (ly (AO i))) hp
def sj (hp:J ap)(d:D)(t:ah)(K:a0):Prop:=match d with
 | .V _=>K (.be ae) hp
 | .ac _=>K (.be (a9 (t=1))) hp
 | .be _=>K (.be (a9 (t≠0))) hp
 |d=>t≠1∧bF (fK hp d) fun I=>K (.be (a9 (t=0))) hp
noncomputable def mW (b sub:J am):aq:=match eA sub b 0 with|some i=>(i:aq)|none=> -1
noncomputable def dC (c:am):J am→J (J am)
 | []=>[[]]
 |x::r=>if x==c then[]::dC c r else match dC c r with|p::aI=>(x::p)::aI| []=>[[x]]
noncomputable def kZ (sep:J am):J (J am)→J am
 | []=>[]
 |x::r=>match r with| []=>x|_::_=>x++sep++kZ sep r
def sk (d:D)(hp:J ap)(P:ah→ap→Prop):Prop:=bF d.yj fun i=>bF hp[i]? fun o=>P i o
def mg (f:oz)(d:D)(as:J D)(hp:J ap)(K:a0):Prop:=match f with
 | .eP=>bF (dW as) fun x=>sk d hp fun i o=>match o with
  | .br l=>l.length≤1000000∧K .aK (hp.set i (.br (l++[x])))
  | .er b=>bF (nK x) fun c=>b.length≤1000000∧K .aK (hp.set i (.er (b++[c])))
  | .bv _=>bt
 | .mc=>bF (dW as) fun x=>sk d hp fun i o=>match o with
  | .br l=>bF x.oB fun m=>l.length+m.length≤1000000∧K .aK (hp.set i (.br (l++m)))
  | .er b=>bF x.f5 fun c=>b.length+c.length≤1000000∧K .aK (hp.set i (.er (b++c)))
  | .bv _=>bt
 | .tQ=>bF (dW as) fun x=>sk d hp fun i o=>bF x.mf fun m=>bF o.mf fun l=>l.length+m.length≤1000∧K .aK (hp.set i (.bv (jk l m)))
 | .sd=>bF (mU as) fun p=>sk d hp fun i o=>p.2.no=af∧bF o.mf fun l=>bF (dy p.1) fun k=>l.length≤1000∧K ((cB l k).getD .aK) (hp.set i (.bv (kX l k)))
 | .fv=>bF (mU as) fun p=>bF (fK hp d) fun l=>bF (dy p.1) fun k=>K ((cB l k).getD p.2) hp
 | .oA=>bF (dW as) fun x=>bF d.f5 fun b=>bF x.f5 fun s=>(b.length≤1000000∧s.length≤1000)∧K (.ac (mW b s)) hp
 | .se=>bF (dW as) fun x=>bF d.f5 fun b=>bF x.f5 fun s=>K (.be (s.isPrefixOf b)) hp
 | .pL=>bF (dW as) fun x=>bF d.f5 fun b=>bF (x.f5.bind dW) fun c=>b.length≤1000000∧K (.aP ((dC c b).map .V)) hp
 | .A1=>bF (mU as) fun p=>bF d.f5 fun b=>bF (p.1.f5.bind dW) fun x=>bF (p.2.f5.bind dW) fun y=>b.length≤1000000∧K (.V (b.map fun c=>if c==x then y else c)) hp
 | .A2=>bF (dW as) fun x=>bF d.f5 fun b=>bF (gB hp x) fun l=>bF (dF D.f5 l) fun l=>((kZ b l).length≤1000000∧l.length≤1000)∧K (.V (kZ b l)) hp
 | .tR=>bF (dW as) fun x=>bF d.me fun l=>bF (dy x) fun k=>bF (l.findIdx? fun e=>a9 (dy e=B k)) fun i=>((l.all fun e=>(dy e).isSome)=af∧l.length≤1000)∧K (.ac i) hp
def tT (a k x:D)(hp:J ap)(P:J ap→Prop):Prop:=sk a hp fun j o=>match o with
 | .br l=>bF k.eK fun z=>(0≤z∧z.toNat < l.length∧l.length≤1000)∧P (hp.set j (.br (l.set z.toNat x)))
 | .bv l=>bF (dy k) fun k=>l.length≤1000∧P (hp.set j (.bv (cC l k x)))
 | .er _=>bt
def Fs (a:D)(P:J D→Prop):Prop:=match a with| .cO k l=>k=1∧P l|_=>bt
noncomputable def ap.ty:ap→Ty
 | .br _=>.br
 | .bv _=>.bv
 | .er _=>.pK
noncomputable def k0 (hp:J ap):D→ax Ty
 | .V _=>B .V
 | .aW _=>B .nH
 | .aP _=>B .br
 | .a5 _=>B .bv
 | .bb i=>hp[i]?.map ap.ty
 |_=>ab
noncomputable def Ty.n:Ty→ah
 | .V=>0| .nH=>1| .br=>2| .bv=>3| .pK=>4
noncomputable def oz.aa2:oz→J ah
 | .eP=>[2,4]| .mc=>[2,4]| .tQ=>[3]| .sd=>[3]| .fv=>[3]| .tR=>[1]|_=>[0]
noncomputable def A5 (f:oz)(t:Ty):aZ:=f.aa2.contains t.n
def vQ (P:J D→Prop):D→Prop
 | .V b=>b.length≤1000000∧P (b.map fun c=>.ac c.toNat)
 | .aP l=>l.length≤1000000∧P l
 | .aW l=>l.length≤1000∧P l
 | .a5 l=>l.length≤1000∧P (l.map fun p=>p.1.d)
 | .aF x=>x.cps.size≤1000∧P (x.cps.toList.map fun c=>.aF ⟨#[c]⟩)
 |_=>bt
noncomputable def vR (n:aq):J D:=(g0 n.toNat).map fun(k:ah)=>.ac k
noncomputable def sl (l:J D):J D:=l.zipIdx.map fun p=>.aW [.ac p.2,p.1]
noncomputable abbrev cD:=J (ax D)
noncomputable def j6:J ah→J D→cD→cD
 | [],_,loc=>loc
 |i::is,ds,loc=>match ds with| []=>loc|d::ds=>j6 is ds (loc.set i (B d))
def hI (is:J ah)(d:D)(loc:cD)(K:cD→Prop):Prop:=bS (dW is) (fun i=>K (loc.set i (B d))) (bF d.me fun l=>l.length=is.length∧K (j6 is l loc))
noncomputable def kD (nI:J (ax ah))(loc:cD):cD:=nI.map fun o=>o.bind fun j=>(loc[j]?).join
structure e9 where
 lv:ah
 bp:ah→ah→J D→J ap→a0→(J ap→Prop)→Prop
 e0:ah→ah→J D→J ap→a0→(J ap→Prop)→Prop
 La:ah→ax D
def mh (step:D→α→cD→J ap→(α→cD→J ap→Prop)→Prop):J D→α→cD→J ap→(α→cD→J ap→Prop)→Prop
 | [],acc,loc,hp,K=>K acc loc hp
 |d::ds,acc,loc,hp,K=>step d acc loc hp fun acc loc hp=>mh step ds acc loc hp K
noncomputable abbrev lE:=J ap→Prop
mutual
def bT (c:e9):ah→cS→lE→cD→J ap→a0→Prop
 |0,_,_,_,_,_=>bt
 |n+1,e,X,loc,hp,K=>match e with
  | .ag d=>K d hp
  | .aa i=>bF loc[i]?.join fun d=>K d hp
  | .fl g=>bF (c.La g) fun d=>K d hp
  | .cA a es=>A6 c n a es X loc hp K
  | .a4 m op l r=>bT c n l X loc hp fun a hp=>bT c n r X loc hp fun b hp=>pM m op a b hp K
  | .vN x=>bT c n x X loc hp fun a hp=>bF a.eK fun i=>K (.ac (-i)) hp
  | .Fk x=>bT c n x X loc hp fun a hp=>bF a.eK fun i=>K (.ac (qE i)) hp
  | .jI x=>bT c n x X loc hp fun a hp=>si a fun b=>K (.be (!b)) hp
  | .a7 t b o=>jl c n t X loc hp fun v hp=>ei v (bT c n b X loc hp K) (bT c n o X loc hp K)
  | .aH op l r=>bT c n l X loc hp fun a hp=>bT c n r X loc hp fun b hp=>eg op a b hp fun v=>K (.be v) hp
  | .jJ hV hW l x r=>bT c n l X loc hp fun a hp=>bT c n x X loc hp fun b hp=>eg hV a b hp fun v=>ei v (bT c n r X loc hp fun d hp=>eg hW b d hp fun v=>K (.be v) hp) (K (.be ae) hp)
  | .aW es=>j7 c n es X loc hp fun ds hp=>ds.length≤1000∧K (.aW ds) hp
  | .aP m es=>j7 c n es X loc hp fun ds hp=>ds.length≤1000∧hX m (.br ds) (.aP ds) hp K
  | .a5 m cK vs=>A7 c n cK vs X loc hp fun aI hp=>bF (dF (fun p=>(dy p.1).map (·,p.2)) aI) fun aI=>aI.length≤15∧hX m (.bv (jk [] aI)) (.a5 (jk [] aI)) hp K
  | .bh e i=>bT c n e X loc hp fun a hp=>bT c n i X loc hp fun b hp=>g9 hp K a b
  | .fs e lo hi=>bT c n e X loc hp fun a hp=>yl c n lo X loc hp fun lo hp=>yl c n hi X loc hp fun hi hp=>Fo a lo hi hp K
  | .sf e=>bT c n e X loc hp fun a hp=>bF (gB hp a) fun l=>l.length≤1000∧K (.aP l.reverse) hp
  | .ef e x=>bT c n e X loc hp fun a hp=>oC a x hp K
  | .bp f as=>j7 c n as X loc hp fun ds hp=>c.bp c.lv f ds hp K X
  | .e0 k as=>j7 c n as X loc hp fun ds hp=>c.e0 c.lv k ds hp K X
  | .fJ o f as=>bT c n o X loc hp fun a hp=>Fs a fun l=>j7 c n as X loc hp fun ds hp=>c.bp c.lv f (.cO 1 l::ds) hp K X
  | .bi m f as=>j7 c n as X loc hp fun ds hp=>j5 m f ds hp K
  | .ji e t=>bT c n e X loc hp fun a hp=>sj hp a t K
  | .bm o f as=>bT c n o X loc hp fun a hp=>bF (k0 hp a) fun t=>A5 f t=af∧j7 c n as X loc hp fun ds hp=>k0 hp a=B t∧mg f a ds hp K
  | .lc elt jK iter ifs nI=>mX c n iter X loc hp fun ds hp=>mh (fun d acc loc hp K=>hI jK d loc fun loc=>oE c n af ifs (fun I=>bt) loc hp fun v hp=>
    ei v (bT c n elt (fun I=>bt) loc hp fun e hp=>K (acc++[e]) loc hp) (K acc loc hp)) ds [] (kD nI loc) hp fun acc I hp=>K (.aP acc) hp
  | .A3 elt jK iter K3 SI nI=>mX c n iter X loc hp fun ds hp=>ds.length≤1000∧(mh (fun d acc loc hp K=>bT c n SI (fun I=>bt) (loc.set jK (B d)) hp fun x hp=>vQ (fun es=>
    es.length≤1000∧(mh (fun y acc loc hp K=>bT c n elt (fun I=>bt) (loc.set K3 (B y)) hp fun e hp=>K (acc++[e]) (loc.set K3 (B y)) hp) es acc (loc.set jK (B d)) hp K)) x) ds [] (kD nI loc) hp fun acc I hp=>K (.aP acc) hp)
  | .qN k v jK iter nI=>mX c n iter X loc hp fun ds hp=>mh (fun d acc loc hp K=>bT c n k (fun I=>bt) (loc.set jK (B d)) hp fun a hp=>bT c n v (fun I=>bt) (loc.set jK (B d)) hp fun b hp=>
    bF (dy a) fun a=>acc.length≤1000∧(K (cC acc a b) (loc.set jK (B d)) hp)) ds [] (kD nI loc) hp fun acc I hp=>K (.bb hp.length) (hp++[.bv acc])
  | .jj e nI=>match c.lv with|0=>bt|l+1=>bT {c with lv:=l} n e (fun hp=>K (.be ae) hp) (kD nI loc) hp fun I hp=>K (.be af) hp
  |_=>bt
def j7 (c:e9):ah→J cS→lE→cD→J ap→(J D→J ap→Prop)→Prop
 |0,_,_,_,_,_=>bt
 |n+1,es,X,loc,hp,K=>match es with
  | []=>K [] hp
  |e::es=>bT c n e X loc hp fun d hp=>j7 c n es X loc hp fun ds hp=>K (d::ds) hp
def A7 (c:e9):ah→J cS→J cS→lE→cD→J ap→(J (D×D)→J ap→Prop)→Prop
 |0,_,_,_,_,_,_=>bt
 |n+1,es,vs,X,loc,hp,K=>match es with
  | []=>(match vs with| []=>K [] hp|_::_=>bt)
  |e::es=>match vs with
   | []=>bt
   |v::vs=>bT c n e X loc hp fun d hp=>bT c n v X loc hp fun u hp=>A7 c n es vs X loc hp fun ds hp=>K ((d,u)::ds) hp
def yl (c:e9):ah→ax cS→lE→cD→J ap→(ax D→J ap→Prop)→Prop
 |0,_,_,_,_,_=>bt
 |n+1,o,X,loc,hp,K=>match o with
  |none=>K ab hp
  |some e=>bT c n e X loc hp fun d hp=>K (B d) hp
def A6 (c:e9):ah→aZ→J cS→lE→cD→J ap→a0→Prop
 |0,_,_,_,_,_,_=>bt
 |n+1,a,es,X,loc,hp,K=>match es with
  | []=>bt
  |e::es=>match es with
   | []=>bT c n e X loc hp K
   |aN::es=>bT c n e X loc hp fun d hp=>si d fun v=>ei (v==a) (A6 c n a (aN::es) X loc hp K) (K d hp)
def jl (c:e9):ah→cS→lE→cD→J ap→(aZ→J ap→Prop)→Prop
 |0,_,_,_,_,_=>bt
 |n+1,e,X,loc,hp,K=>match e with
  | .jI x=>jl c n x X loc hp fun b hp=>K (!b) hp
  | .cA a es=>oE c n a es X loc hp K
  | .a7 t b o=>jl c n t X loc hp fun v hp=>ei v (jl c n b X loc hp K) (jl c n o X loc hp K)
  | .aH op l r=>bT c n l X loc hp fun a hp=>bT c n r X loc hp fun b hp=>eg op a b hp fun v=>K v hp
  | .jJ hV hW l x r=>bT c n l X loc hp fun a hp=>bT c n x X loc hp fun b hp=>eg hV a b hp fun v=>ei v (bT c n r X loc hp fun d hp=>eg hW b d hp fun v=>K v hp) (K ae hp)
  | .e1 e=>bT c n e X loc hp fun d hp=>si d fun b=>K b hp
  |_=>bt
def oE (c:e9):ah→aZ→J cS→lE→cD→J ap→(aZ→J ap→Prop)→Prop
 |0,_,_,_,_,_,_=>bt
 |n+1,a,es,X,loc,hp,K=>match es with
  | []=>K a hp
  |e::es=>jl c n e X loc hp fun v hp=>ei (v==a) (oE c n a es X loc hp K) (K v hp)
def mX (c:e9):ah→cS→lE→cD→J ap→(J D→J ap→Prop)→Prop
 |0,_,_,_,_,_=>bt
 |n+1,e,X,loc,hp,K=>match e with
  | .vO e=>bT c n e X loc hp fun d hp=>bF d.oB fun l=>l.length≤1000∧K (sl l) hp
  | .qO e=>bT c n e X loc hp fun d hp=>bF d.eK fun i=>(0≤i∧i≤1000)∧K (vR i) hp
  | .c0 e=>bT c n e X loc hp fun d hp=>vQ (fun l=>K l hp) d
  |_=>bt
end
noncomputable abbrev fL:=cD→J ap→Prop
def md (t:cD→J ap→(aZ→J ap→Prop)→Prop)(b:cD→J ap→fL→Prop):ah→cD→J ap→fL→Prop
 |0,_,_,_=>bt
 |k+1,loc,hp,aQ=>t loc hp fun v hp=>ei v (b loc hp fun loc hp=>md t b k loc hp aQ) (aQ loc hp)
def gk (b:D→cD→J ap→fL→Prop):J D→cD→J ap→fL→Prop
 | [],loc,hp,aQ=>aQ loc hp
 |d::ds,loc,hp,aQ=>b d loc hp fun loc hp=>gk b ds loc hp aQ
mutual
def f6 (c:e9):ah→cT→lE→cD→J ap→fL→a0→fL→Prop
 |0,_,_,_,_,_,_,_=>bt
 |n+1,s,X,loc,hp,aQ,Kr,Kc=>match s with
  | .bW i e=>bT c n e X loc hp fun d hp=>aQ (loc.set i (B d)) hp
  | .ig is es=>j7 c n es X loc hp fun ds hp=>ds.length≤1000∧(ds.length=is.length∧aQ (j6 is ds loc) hp)
  | .sg is e=>bT c n e X loc hp fun d hp=>bF d.me fun l=>l.length=is.length∧aQ (j6 is l loc) hp
  | .ih o i v=>bT c n v X loc hp fun x hp=>bT c n o X loc hp fun a hp=>bT c n i X loc hp fun k hp=>tT a k x hp (aQ loc)
  | .eU e=>bT c n e X loc hp fun I hp=>aQ loc hp
  | .a7 t b o=>jl c n t X loc hp fun v hp=>ei v (dX c n b X loc hp aQ Kr Kc) (dX c n o X loc hp aQ Kr Kc)
  | .md t b=>∃k,md (fun loc hp K=>jl c n t (fun I=>bt) loc hp K) (fun loc hp aQ=>dX c n b (fun I=>bt) loc hp aQ Kr aQ) k loc hp aQ
  | .gS jK e b=>mX c n e X loc hp fun ds hp=>gk (fun d loc hp aQ=>hI jK d loc fun loc=>dX c n b (fun I=>bt) loc hp aQ Kr aQ) ds loc hp aQ
  | .bO e=>(match e with|none=>Kr .aK hp|some e=>bT c n e X loc hp Kr)
  | .lD e=>bT c n e X loc hp fun I hp=>X hp
  | .yi=>Kc loc hp
  | .ez=>bt
def dX (c:e9):ah→J cT→lE→cD→J ap→fL→a0→fL→Prop
 |0,_,_,_,_,_,_,_=>bt
 |n+1,ss,X,loc,hp,aQ,Kr,Kc=>match ss with
  | []=>aQ loc hp
  |s::ss=>f6 c n s X loc hp (fun loc hp=>dX c n ss X loc hp aQ Kr Kc) Kr Kc
end
end
abbrev vS (env:eo)(x:aO):Prop:=env.kindOf x=B .cell∨env.kindOf x=B .free
abbrev aa3 (ch:J aO):Prop:=∀x∈ch,(x==("__debug__":aO))=ae∧(x==("__classdict__":aO))=ae
abbrev aa4 (env:eo):Prop:=∀x y c,env.cells.lookup x=B c→env.cells.lookup y=B c→x=y
structure Lb (env:eo)(ch:J aO):Prop where
 bk:env.scope.kind=.function
 iY:env.globals=i8
 tU:env.builtins=lu
 bY:ch.Nodup
 pO:aa3 ch
 Lc:aa4 env
 SP:∀x c,env.cells.lookup x=B c→c≠env.locals
noncomputable def dG (env:eo):J aC:=env.locals::env.cells.map (·.2)
theorem vT (h:env.cells.lookup x=B c):c∈dG env:=.tail _ (h9.mpr ⟨_,qz h,rfl⟩)
inductive jm (h:b8)(env:eo)(x:aO):aC→ax au→Prop
 |aa {m:aO→ax au}(k:env.kindOf x=B .local)(aA:h.Ns env.locals m):jm h env x env.locals (m x)
 |mi {c:aC}{v:ax au}(k:vS env x)(hc:env.cells.lookup x=B c)(av:h.IsCell c v):jm h env x c v
inductive nL (P:D→au→Prop):ax D→ax au→Prop
 |no {v:ax au}:nL P ab v
 |qQ {d:D}{v:au}(r:P d v):nL P (B d) (B v)
abbrev aa5 (g:ci)(h:b8)(N:J aC)(O:J aC)(env:eo)(ch:J aO)(loc:cD):Prop:=∀(j:ah) (x:aO) (o:ax D),ch[j]?=B x→loc[j]?=B o→∃a v,jm h env x a v∧nL (aE g h N O) o v
structure f7 (g:ci)(h:b8)(N O:J aC)(env:eo)(ch:J aO)(loc:cD):Prop where
 ok:Lb env ch
 dS:∀a∈dG env,a∈O
 bJ:loc.length=ch.length
 mY:aa5 g h N O env ch loc
section
variable {a:aC}
theorem nL.pJ (k:∀d v,P d v→Q d v):nL P o v→nL Q o v
 | .no=>.no
 | .qQ r=>.qQ (k _ _ r)
theorem jm.at (X:jm h env x a v):a∈dG env:=by
 induction X with
 |aa=>exact .head _
 |mi _ hc _=>exact vT hc
theorem jm.aa6 (X:jm h env x a v)(k:∀a∈dG env,∀o,h.get? a=B o→∃o',aj.get? a=B o'∧o'.data=o.data):jm aj env x a v:=by
 induction X with
 |aa q aA=>exact .aa q (aA.elim fun o z=>z.elim fun es z=>z.elim fun ep z=>(k _ (.head _) o z.1).elim fun o' w=>⟨o',es,ep,w.1,w.2.trans z.2.1,z.2.2⟩)
 |mi q hc av=>exact .mi q hc (av.elim fun o z=>(k _ (vT hc) o z.1).elim fun o' w=>⟨o',w.1,w.2.trans z.2⟩)
theorem jm.ey (X:jm h env x a v):∃o,h.get? a=B o∧jF o:=by
 induction X with
 |aa _ aA=>exact aA.elim fun o z=>z.elim fun I z=>z.elim fun I z=>⟨o,z.1,fun I q=>nomatch z.2.1.symm.trans q⟩
 |mi _ _ av=>exact av.imp fun o z=>⟨z.1,fun I q=>nomatch z.2.symm.trans q⟩
theorem f7.dw (F:f7 g h N O env ch loc)(M:cz N O bw cF h aj)(aG:∀a∈dG env,a∈O→a∈cF)(k:∀a∈dG env,∀o,h.get? a=B o→∃o',aj.get? a=B o'∧o'.data=o.data):f7 g aj bw cF env ch loc:=
 ⟨F.ok,fun a m=>aG a m (F.dS a m),F.bJ,fun j x o aT aN=>(F.mY j x o aT aN).elim fun a z=>z.elim fun v z=>⟨a,v,z.1.aa6 k,z.2.pJ fun I I=>M.v⟩⟩
theorem f7.f3 (F:f7 g s.heap N O env ch loc)(C:fc A n O s.heap)(H:aR g s.heap N O hp)(st:b9 A [] N s bw ar):f7 g ar.heap bw O env ch loc:=
 F.dw (st.dw C) (fun I I m=>m) fun a m o e=>(st.e8.tP H (F.dS a m) (fun m=>dz m) e).elim fun I w=>⟨_,w,rfl⟩
theorem f7.fv (F:f7 g h N O env ch loc){j:ah}(e:ch[j]?=B x)(dq:loc[j]?=B (B d)):∃a v,jm h env x a (B v)∧aE g h N O d v:=by
 obtain⟨a,v,X,r⟩:=F.mY j x _ e dq
 cases r with|qQ r=>exact⟨a,_,X,r⟩
theorem aa7 (F:Lb env ch)(m:x∈ch)(X:jm s.heap env x a (B v))(k:Q v s):bM M A (loadName env x) Q E s:=by
 generalize e:B v=u at X
 induction X with
 |aa q aA=>exact Q9 F.bk q aA e.symm k
 |mi q hc av=>
  subst e
  exact q.elim (fun q=>wpAny_loadName_cell F.bk q hc av k) fun q=>wpAny_loadName_free F.bk q hc av k (F.pO x m).2
theorem T.aa8 (F:f7 g s.heap N O env ch loc)(H:aR g s.heap N O hp){j:ah}{K:D→J ap→Prop}(e:ch[j]?=B x)(dq:loc[j]?=B (B d))(k:K d hp):eF g A O N s (eval (.Name x pos) env) K X:=by
 have m:=gZ e
 exact(F.fv e dq).elim fun a cj=>cj.elim fun v d3=>d3.elim fun X r=>wpAny_Name (aa7 F.ok m X (.dj H r k)) (F.ok.pO x m).1
theorem jm.aa9 (F:Lb env ch)(X:jm h env x a v)(ne:y≠x)(aM:jm h env y b u)(aG:hq a h aj)(aA:∀m,a=env.locals→h.Ns env.locals m→∃ff,aj.Ns env.locals ff∧ff y=m y):jm aj env y b u:=by
 induction aM with
 |@aa m q bZ=>
  by_cases z:env.locals=a
  ·refine(aA m z.symm bZ).elim fun ff cj=>cj.elim fun aY bu=>?_
   exact cN bu (.aa q aY)
  ·exact .aa q (bZ.sameBut aG z)
 |mi q hc av=>
  refine .mi q hc (av.sameBut aG fun z=>?_)
  induction X with
  |aa=>exact F.SP _ _ hc z
  |mi _ hx _=>exact ne (F.Lc _ _ _ hc (z▸hx))
theorem f7.aba (F:f7 g h N O env ch loc)(H:aR g h N O hp)(e:ch[j]?=B x)(av:aE g h N O d w)(X:jm h env x a v)(ym:jm aj env x a (B w))(aG:hq a h aj)(aA:∀y m,y≠x→a=env.locals→h.Ns env.locals m→∃ff,aj.Ns env.locals ff∧ff y=m y):f7 g aj N O env ch (loc.set j (B d))∧aR g aj N O hp:=by
 have M:cz N O N O h aj:=.at aG fun o=>o.n (F.dS a X.at)
 refine⟨⟨F.ok,F.dS,by refine pl.symm▸?_;exact F.bJ,fun i y o aT aN=>?_⟩,H.nE (F.dS a X.at) aG (ym.ey.imp fun I z=>z.1)⟩
 by_cases hi:j=i
 ·subst hi
  rw[DU (F.bJ.symm▸(gc.mp e).1)] at aN
  cases bo (e.symm.trans aT)
  exact cN (bo aN) (⟨a,_,ym,.qQ (M.v av)⟩)
 ·rw[DY hi] at aN
  have tV:y≠x:=fun q=>hi ((IZ (gc.mp e).1 F.ok.bY).mp (e.trans (q▸aT).symm))
  exact(F.mY i y o aT aN).elim fun b cj=>cj.elim fun u d3=>d3.elim fun aM r=>⟨b,u,X.aa9 F.ok tV aM aG fun m=>aA y m tV,r.pJ fun I I=>M.v⟩
theorem abb (z:env.kindOf x=B .free)(k:env.scope.kind=.function):EI env x v=(ER env x>>=fun c=>cellSet c (B v)):=by
 unfold EI;refine Y z (Y k ?_);rfl
theorem Ft (F:f7 g s.heap N O env ch loc)(H:aR g s.heap N O hp)(e:ch[j]?=B x)(av:aE g s.heap N O d v)(Fu:∀a∈dG env,a∈aS∨(a≠env.locals∧env.kindOf x=B .local))(k:∀aj tk,f7 g aj N O env ch (loc.set j (B d))→aR g aj N O hp→b9 A aS N s N {s with heap:=aj,toks:=tk}→Q () {s with heap:=aj,toks:=tk}):bM M A (EI env x v) Q E s:=by
 have fin:∀{a:aC} {u:ax au} {aj:b8} {tk:dv},jm s.heap env x a u→jm aj env x a (B v)→hq a s.heap aj→(∀y m,y≠x→a=env.locals→s.heap.Ns env.locals m→∃ff,aj.Ns env.locals ff∧ff y=m y)→a∈aS→Q () {s with heap:=aj,toks:=tk}:=fun {a _ aj tk} X ym aG aA m=>by
  have z:=F.aba H e av X ym aG aA
  refine k aj tk z.1 z.2 ⟨⟨Fj aG (ym.ey.imp fun I q=>q.1),fun b o q I abc I=>.qK ((aG.2 b fun r=>abc (r▸m)).trans q)⟩,fun b I o o' q lC n=>?_,tm _,.iX _ _,rfl,rfl,rfl⟩
  by_cases r:b=a
  ·subst r;exact ym.ey.elim fun I w=>bo (w.1.symm.trans lC)▸w.2
  ·exact bo (((aG.2 b r).trans q).symm.trans lC)▸n
 obtain⟨a,u,X, -⟩:=F.mY j x _ e (hQ (F.bJ.symm▸(gc.mp e).1))
 have SQ:=X
 cases X with
 |@aa m q aA=>
  refine wpAny_storeName_local q aA (fun aj mZ aG=>fin (tk:=_) SQ (by have:=jm.aa (h:=aj) q mZ;rwa [b3 rfl] at this) aG (fun y iZ tV I abd=>⟨_,mZ,(bL tV).trans (aA.agree abd y)⟩) ((Fu _ (.head _)).elim id fun z=>cr rfl z.1)) (by refine Y F.ok.bk ?_;rfl)
 |mi q hc tW=>
  have go:∀{aj:b8} {tk:dv},aj.IsCell a (B v)→hq a s.heap aj→Q () {s with heap:=aj,toks:=tk}:=fun w aG=>fin SQ (.mi q hc w) aG (fun I I I z I=>cr z (F.ok.SP _ _ hc)) ((Fu a (vT hc)).elim id fun z=>cr z.2 (fun z=>q.elim (fun q=>nomatch z.symm.trans q) fun q=>nomatch z.symm.trans q:env.kindOf x≠B .local))
  exact q.elim (fun z=>wpAny_storeName_cell F.ok.bk z hc tW fun aj w aG=>go (tk:=s.toks) w aG) fun z=>Y (abb z F.ok.bk) (aX (wpAny_cellOf hc (wpAny_cellSet tW fun aj w aG=>go (tk:=s.toks) w aG)))
end
section
set_option backward.match.sparseCases false
noncomputable def Fv (l:J gg):J aO:=l.map ly
noncomputable def qR:J aO:=Fv ["decimal_octets","number_of","hex_value","pen_with","under_of","flags_with_under","is_direct","rgb_of","direct_colour","option_is_own","option_split","option_name","option_kind","option_fits",
 "Options.get","Options.set","Options.unset","option_place","option_read","option_array_set","option_array_of","option_is_set","option_append","option_quoted","option_told","option_rows_of","option_rows","style_names","style_colour",
 "style_colour_octets","style_bits","style_unders","style_part","style_parts","style_word_over","style_over","style_octets","_law_wrong","_law_draw","_law_table","_law_offers","_law_items","_law_meant","_law_now","_law_fits",
 "_law_behind","_law_due","_law_decimal","_law_deed","_law_quoted","_law_plain","_law_rows","_law_made_again","_law_are_right","_law_colour","_law_pen","_law_word","_law_styles_right","law"]
noncomputable def fm:J aC:=[55,62,69,76,83,90,97,104,111,143,150,155,162,169,191,199,206,220,227,234,241,248,255,262,269,274,280,287,292,297,304,311,318,325,332,340,345,352,359,366,373,378,383,390,397,402,407,419,426,431,438,445,452,457,
 464,471,476,481,486]
noncomputable def yn:J aO:=Fv ["OptionKind","Options"]
noncomputable def A8:J (gg×yh):=[("len",.bJ),("sorted",.fS),("bytes",.V),("bytearray",.pK),("dict",.bv),("list",.br),("tuple",.nH),("int",.ac),("ord",.A0),("str",.aF)]
noncomputable def SR:J (gg×oz):=[("append",.eP),("extend",.mc),("update",.tQ),("pop",.sd),("get",.fv),("find",.oA),("startswith",.se),("split",.pL),("replace",.A1),("join",.A2),("index",.tR)]
noncomputable def A9:J aO:=Fv ["dict","int","bool"]
noncomputable def yo:J aO:=Fv ["BOLD","FAINT","ITALIC","BLINK","INVERSE","HIDDEN","STRUCK","OVERLINE","UNDER_SHIFT","UNDER_MASK","NO_COLOUR","DIRECT","PLAIN","FORE","BACK","UNDER","OPTION_OWN","STYLE_PARTS","STYLE_ALONE"]
noncomputable def Ba (l:J (gg×α))(x:aO):ax α:=(l.find? fun p=>ly p.1==x).map (·.2)
noncomputable abbrev m1:=J (ah×ah)
noncomputable def bA:m1:=[(26,12),(163,16),(168,19),(227,12),(281,12),(309,12),(330,12),(338,11),(377,11),(400,15),(454,24),(467,12),(471,20),(481,45),(538,16),(563,61),(568,111),(568,115),(131,19)]
noncomputable def SS:Const→ax D
 | .none=>B .aK
 | .bool b=>B (.be b)
 | .int i=>B (.ac i)
 | .str s=>B (.aF s)
 | .bytes b=>B (.V b)
 |_=>ab
noncomputable def b4 (sc:dU):J aO:=sc.names.filterMap fun(n,k)=>if(k==.local&&n !=(".0":aO))||k==.cell||k==.free then B n else ab
noncomputable def gC (sc:dU)(x:aO):aZ:=sc.names.lookup x==B .globalImplicit
noncomputable abbrev kE:aO:="_law_is_done"
noncomputable def oF (sc:dU):aZ:=sc.kind==.function&&a9 (sc.names.map (·.1)).Nodup&&(sc.names.all fun x=>x.1 !=("__debug__":aO)&&x.1 !=("__classdict__":aO)&&x.2 !=.cell)&&!gC sc kE
noncomputable def ii (sc:dU)(ch:J aO):J (ax ah):=sc.names.filterMap fun(n,k)=>if k==.local&&n !=(".0":aO)then B ab else if k==.cell||k==.free then B (ch.idxOf? n)else ab
noncomputable def SU (d:α)(nm:aO→α)(at_:b7→aO→ib→α)(cl:b7→J b7→J AC→ib→α)(vU:vq→b7→dU→α)(oG:J b7→α)(ch:ax b7→ax b7→ax b7→α)(st:g5→α)(ij:Const→α)(un:UnaryOp→b7→α)(Fw:b7→b7→α):b7→α
 | .Name x _=>nm x
 | .Attribute o x p=>at_ o x p
 | .Call f as mj p=>cl f as mj p
 | .Lambda et b sc _=>vU et b sc
 | .Tuple es _ _=>oG es
 | .Slice lo hi s _=>ch lo hi s
 | .Starred .. =>st ()
 | .Constant c _ _=>ij c
 | .UnaryOp op x _=>un op x
 | .Subscript o i _=>Fw o i
 |_=>d
noncomputable abbrev qS {α:Type}:=@SU (ax α) ab
noncomputable def nM:b7→ax aO:=qS B (fun I I I=>ab) (fun I I I I=>ab) (fun I I I=>ab) (fun I=>ab) (fun I I I=>ab) (fun I=>ab) (fun I=>ab) (fun I I=>ab) fun I I=>ab
noncomputable def Ld:b7→ax (b7×aO×ib):=qS (fun I=>ab) (fun o x p=>B (o,x,p)) (fun I I I I=>ab) (fun I I I=>ab) (fun I=>ab) (fun I I I=>ab) (fun I=>ab) (fun I=>ab) (fun I I=>ab) fun I I=>ab
noncomputable def tX:b7→ax (b7×J b7×J AC×ib):=qS (fun I=>ab) (fun I I I=>ab) (fun f as mj p=>B (f,as,mj,p)) (fun I I I=>ab) (fun I=>ab) (fun I I I=>ab) (fun I=>ab) (fun I=>ab) (fun I I=>ab) fun I I=>ab
noncomputable def Le:b7→ax (vq×b7×dU):=qS (fun I=>ab) (fun I I I=>ab) (fun I I I I=>ab) (fun et b sc=>B (et,b,sc)) (fun I=>ab) (fun I I I=>ab) (fun I=>ab) (fun I=>ab) (fun I I=>ab) fun I I=>ab
noncomputable def pP:b7→ax (J b7):=qS (fun I=>ab) (fun I I I=>ab) (fun I I I I=>ab) (fun I I I=>ab) B (fun I I I=>ab) (fun I=>ab) (fun I=>ab) (fun I I=>ab) fun I I=>ab
noncomputable def Fx:b7→ax (ax b7×ax b7×ax b7):=qS (fun I=>ab) (fun I I I=>ab) (fun I I I I=>ab) (fun I I I=>ab) (fun I=>ab) (fun lo hi st=>B (lo,hi,st)) (fun I=>ab) (fun I=>ab) (fun I I=>ab) fun I I=>ab
noncomputable def sm:b7→aZ:=SU ae (fun I=>ae) (fun I I I=>ae) (fun I I I I=>ae) (fun I I I=>ae) (fun I=>ae) (fun I I I=>ae) (fun I=>af) (fun I=>ae) (fun I I=>ae) fun I I=>ae
noncomputable def Lf:b7→ax g5:=qS (fun I=>ab) (fun I I I=>ab) (fun I I I I=>ab) (fun I I I=>ab) (fun I=>ab) (fun I I I=>ab) (fun I=>ab) (fun c=>match c with| .int i=>if i=1 then B ()else ab|_=>ab) (fun I I=>ab) fun I I=>ab
noncomputable def Fy:b7→ax g5:=qS (fun I=>ab) (fun I I I=>ab) (fun I I I I=>ab) (fun I I I=>ab) (fun I=>ab) (fun I I I=>ab) (fun I=>ab) (fun I=>ab) (fun op x=>match op with| .USub=>Lf x|_=>ab) fun I I=>ab
noncomputable def Lg:b7→ax (b7×b7):=qS (fun I=>ab) (fun I I I=>ab) (fun I I I I=>ab) (fun I I I=>ab) (fun I=>ab) (fun I I I=>ab) (fun I=>ab) (fun I=>ab) (fun I I=>ab) fun o i=>B (o,i)
noncomputable def tY (e:b7):aZ:=bS (tX e) (fun c=>bS (nM c.1) (fun I=> !(c.2.1.isEmpty&&c.2.2.1.isEmpty)) af) af
noncomputable def Fz (aJ:dU)(e:b7):aZ:=bS (nM e) (fun x=>aJ.names.lookup x==B .local) ae
noncomputable def jn (aJ:dU)(e:b7):aZ:=bS (pP e) (fun es=>es.all (Fz aJ)) (Fz aJ e)
noncomputable def k1 (sc aJ:dU):aZ:=aJ.names.all fun x=>x.2 !=.free||sc.names.lookup x.1==B .cell||sc.names.lookup x.1==B .free
noncomputable def Lh (et:vq):aZ:=et.posonlyargs.isEmpty&&et.args.isEmpty&&et.vararg.isNone&&et.kwonlyargs.isEmpty&&et.kw_defaults.isEmpty&&et.kwarg.isNone&&et.defaults.isEmpty
noncomputable def yp (et:vq)(sc aJ:dU):aZ:=Lh et&&oF aJ&&k1 sc aJ&&!aJ.isGenerator&&!aJ.isCoroutine
noncomputable def oH (ch:J aO)(e:b7):ax ah:=(nM e).bind fun x=>ch.idxOf? x
noncomputable def gD (ch:J aO)(e:b7):ax (J ah):=bS (pP e) (fun es=>if 2≤es.length then dF (oH ch) es else ab) ((oH ch e).map ([·]))
noncomputable def FA (m:m1)(p:ib):aZ:=m.contains (p.line,p.col)
noncomputable def i0 (es:J b7):aZ:=es.all fun e=>!sm e
noncomputable def hJ (b:aZ)(x:cS):cS:=match b with|true=>x|false=>.ez
noncomputable def iw (o:ax α)(f:α→cS):cS:=match o with|some a=>f a|none=>.ez
mutual
noncomputable def b1 (m:m1):ah→dU→b7→cS
 |0,_,_=>.ez
 |n+1,sc,e=>match e with
  | .Constant c _ _=>iw (SS c) .ag
  | .Name x _=>bS ((b4 sc).idxOf? x) .aa (hJ (gC sc x) (iw (yo.idxOf? x) .fl))
  | .BoolOp op vs _=>.cA (op==.And) (fT m n sc vs)
  | .BinOp l op r pos=>.a4 (FA m pos) op (b1 m n sc l) (b1 m n sc r)
  | .UnaryOp op x _=>(match op with
   | .USub=>.vN (b1 m n sc x)
   | .Invert=>.Fk (b1 m n sc x)
   | .Not=>.jI (b1 m n sc x)
   | .UAdd=>.ez)
  | .IfExp t b o _=>.a7 (m2 m n sc t) (b1 m n sc b) (b1 m n sc o)
  | .Compare l ops rs _=>Li m n sc l ops rs
  | .Tuple es _ _=>hJ (i0 es) (.aW (fT m n sc es))
  | .List es pos=>hJ (i0 es) (.aP (FA m pos) (fT m n sc es))
  | .Dict cK vs pos=>iw (dF id cK) fun cK=>hJ (a9 (cK.length=vs.length∧cK.length≤15)) (.a5 (FA m pos) (fT m n sc cK) (fT m n sc vs))
  | .Subscript v i _=>bS (Fx i) (fun p=>bS p.2.2 (fun st=>hJ (p.1.isNone&&p.2.1.isNone&&(Fy st).isSome) (.sf (b1 m n sc v))) (.fs (b1 m n sc v) (tZ m n sc p.1) (tZ m n sc p.2.1))) (.bh (b1 m n sc v) (b1 m n sc i))
  | .Attribute v x _=>hJ (tY v) (.ef (b1 m n sc v) x)
  | .Call f as mj pos=>hJ (mj.isEmpty&&(a9 (as.length < 25)&&i0 as))
    (bS (nM f) (fun x=>hJ (!(b4 sc).contains x&&gC sc x) (bS (if x=kE then dW as else ab) (fun a=>iw (Le a) fun l=>hJ (yp l.1 sc l.2.2) (.jj (b1 m n l.2.2 l.2.1) (ii l.2.2 (b4 sc)))) (SV m n sc x as pos)))
     (iw (Ld f) fun p=>hJ (tY p.1&&p.2.2.endLine==pos.line) (SW m n sc p.1 p.2.1 as)))
  | .ListComp elt gens aJ _=>hJ (oF aJ&&k1 sc aJ) (FC m n sc aJ elt gens)
  | .DictComp k v gens aJ _=>hJ (oF aJ&&k1 sc aJ) (iw (dW gens) fun ge=>hJ (ge.ifs.isEmpty&&(ge.is_async==0)&&jn aJ ge.target) (iw ((gD (b4 aJ) ge.target).bind dW) fun t=>.qN (b1 m n aJ k) (b1 m n aJ v) t (j8 m n sc ge.target ge.iter) (ii aJ (b4 sc))))
  |_=>.ez
noncomputable def Li (m:m1):ah→dU→b7→J qC→J b7→cS
 |0,_,_,_,_=>.ez
 |n+1,sc,l,ops,rs=>bS (dW ops) (fun o=>iw (dW rs) fun r=>.aH o (b1 m n sc l) (b1 m n sc r)) (iw (mU ops) fun o=>iw (mU rs) fun r=>.jJ o.1 o.2 (b1 m n sc l) (b1 m n sc r.1) (b1 m n sc r.2))
noncomputable def SV (m:m1):ah→dU→aO→J b7→ib→cS
 |0,_,_,_,_=>.ez
 |n+1,sc,x,as,pos=>hJ (x !=kE) (bS (if x="isinstance" then mU as else ab) (fun p=>iw (nM p.2) fun t=>hJ (gC sc t) (iw (A9.idxOf? t) (.ji (b1 m n sc p.1)))) (hJ (x !="isinstance")
   (bS (qR.idxOf? x) (fun f=>hJ (f !=14&&f !=15&&f !=16) (.bp f (fT m n sc as))) (bS (yn.idxOf? x) (fun k=>.e0 k (fT m n sc as)) (iw (Ba A8 x) fun f=>.bi (FA m pos) f (fT m n sc as))))))
noncomputable def SW (m:m1):ah→dU→b7→aO→J b7→cS
 |0,_,_,_,_=>.ez
 |n+1,sc,o,x,as=>bS (if x="set" then B 15 else if x="unset" then B 16 else if x="get"∧as.length=1 then B 14 else ab) (fun f=>.fJ (b1 m n sc o) f (fT m n sc as)) (iw (Ba SR x) fun f=>.bm (b1 m n sc o) f (fT m n sc as))
noncomputable def FC (m:m1):ah→dU→dU→b7→J xL→cS
 |0,_,_,_,_=>.ez
 |n+1,sc,aJ,elt,gens=>bS (dW gens) (fun ge=>hJ ((ge.is_async==0)&&jn aJ ge.target) (iw (gD (b4 aJ) ge.target) fun t=>.lc (b1 m n aJ elt) t (j8 m n sc ge.target ge.iter) (qT m n aJ ge.ifs) (ii aJ (b4 sc))))
   (iw (mU gens) fun p=>hJ (p.1.ifs.isEmpty&&(p.1.is_async==0)&&jn aJ p.1.target&&(p.2.ifs.isEmpty&&(p.2.is_async==0)&&jn aJ p.2.target)) (iw ((gD (b4 aJ) p.1.target).bind dW) fun t=>iw ((gD (b4 aJ) p.2.target).bind dW) fun t'=>
    .A3 (b1 m n aJ elt) t (j8 m n sc p.1.target p.1.iter) t' (b1 m n aJ p.2.iter) (ii aJ (b4 sc))))
noncomputable def fT (m:m1):ah→dU→J b7→J cS
 |0,_,_=>[.ez]
 |n+1,sc,es=>match es with
  | []=>[]
  |e::es=>b1 m n sc e::fT m n sc es
noncomputable def tZ (m:m1):ah→dU→ax b7→ax cS
 |0,_,_=>B .ez
 |n+1,sc,o=>match o with
  |none=>ab
  |some e=>B (b1 m n sc e)
noncomputable def m2 (m:m1):ah→dU→b7→cS
 |0,_,_=>.ez
 |n+1,sc,e=>match e with
  | .UnaryOp op x p=>(match op with| .Not=>.jI (m2 m n sc x)|op=>.e1 (b1 m n sc (.UnaryOp op x p)))
  | .BoolOp op vs _=>.cA (op==.And) (qT m n sc vs)
  | .IfExp t b o _=>.a7 (m2 m n sc t) (m2 m n sc b) (m2 m n sc o)
  | .Compare l ops rs _=>Li m n sc l ops rs
  |e=>.e1 (b1 m n sc e)
noncomputable def qT (m:m1):ah→dU→J b7→J cS
 |0,_,_=>[.ez]
 |n+1,sc,es=>match es with
  | []=>[]
  |e::es=>m2 m n sc e::qT m n sc es
noncomputable def j8 (m:m1):ah→dU→b7→b7→cS
 |0,_,_,_=>.ez
 |n+1,sc,t,e=>bS ((tX e).bind fun c=>(nM c.1).bind fun x=>if x="enumerate" then B (af,x,c.2.1,c.2.2.1)else if x="range" then B (ae,x,c.2.1,c.2.2.1)else ab)
   (fun p=>hJ (gC sc p.2.1&& !(b4 sc).contains p.2.1&&p.2.2.2.isEmpty) (iw (dW p.2.2.1) fun a=>hJ (!sm a) (match p.1 with|true=>hJ (pP t).isSome (.vO (b1 m n sc a))|false=>.qO (b1 m n sc a)))) (.c0 (b1 m n sc e))
end
noncomputable def t0 (b:aZ)(x:cT):cT:=match b with|true=>x|false=>.ez
noncomputable def so (o:ax α)(f:α→cT):cT:=match o with|some a=>f a|none=>.ez
mutual
noncomputable def Bb (m:m1):ah→dU→gQ→cT
 |0,_,_=>.ez
 |n+1,sc,s=>match s with
  | .Expr e _=>t0 (tX e).isSome (.eU (b1 m n sc e))
  | .Continue _=>.yi
  | .Return o _=>.bO (match o with|none=>ab|some e=>B (b1 m n sc e))
  | .Assign dB e _=>so (dW dB) fun t=>bS (nM t) (fun x=>so ((b4 sc).idxOf? x) fun i=>.bW i (b1 m n sc e))
    (bS (Lg t) (fun p=>.ih (b1 m n sc p.1) (b1 m n sc p.2) (b1 m n sc e))
     (t0 (pP t).isSome (so (gD (b4 sc) t) fun is=>bS (pP e) (fun es=>t0 (a9 is.Nodup&&i0 es&&(es.all (JK 8)||!es.all (JG 8))) (.ig is (fT m n sc es))) (.sg is (b1 m n sc e)))))
  | .If t b o _=>.a7 (m2 m n sc t) (kF m n sc b) (kF m n sc o)
  | .While t b o _=>t0 o.isEmpty (.md (m2 m n sc t) (kF m n sc b))
  | .For t e b o _=>t0 o.isEmpty (so (gD (b4 sc) t) fun is=>.gS is (j8 m n sc t e) (kF m n sc b))
  | .Raise e o _=>t0 o.isNone (so (e.bind tX) fun c=>so (nM c.1) fun x=>t0 ((x=="BadOption")&&gC sc x&& !(b4 sc).contains x&&c.2.2.1.isEmpty) (so (dW c.2.1) fun a=>.lD (b1 m n sc a)))
  |_=>.ez
noncomputable def kF (m:m1):ah→dU→J gQ→J cT
 |0,_,_=>[.ez]
 |n+1,sc,ss=>match ss with
  | []=>[]
  |s::ss=>Bb m n sc s::kF m n sc ss
end
end
set_option genCtorIdx false in
structure t2 where
 np:ah
 k:ah
 fU:J D
 bd:J cT
noncomputable def FD:J D:=[(.ac 1),(.ac 2),(.ac 4),(.ac 8),(.ac 32),(.ac 64),(.ac 128),(.ac 256),(.ac 9),(.ac 3584),(.ac (-1)),(.ac 16777216),(.aW [.ac 0,.ac (-1),.ac (-1),.ac (-1),.ac 0]),(.ac 1),(.ac 2),(.ac 3),(.ac 64),(.aW [.V [97,108,105,103,110],.V [102,105,108,108],.V [108,105,115,116],.V [114,97,110,103,101]]),(.aW [.V [110,111,108,105,115,116],.V [110,111,114,97,110,103,101],.V [110,111,97,108,105,103,110],.V [112,117,115,104,45,100,101,102,97,117,108,116],.V [112,111,112,45,100,101,102,97,117,108,116],.V [105,103,110,111,114,101],.V [110,111,105,103,110,111,114,101]])]
noncomputable def b5 (i:ah):ax D:=FD[i]?
noncomputable def abe:J cT:=[.bW 1 (.a7 (.aH .GtE (.aa 0) (.ag (.ac 0))) (.aa 0) (.vN (.aa 0))),.bW 2 (.aP af [(.a4 ae .Add (.ag (.ac 48)) (.a4 ae .Mod (.aa 1) (.ag (.ac 10))))]),.bW 1 (.a4 ae .FloorDiv (.aa 1) (.ag (.ac 10))),.md (.aH .Gt (.aa 1) (.ag (.ac 0))) [.eU (.bm (.aa 2) .eP [(.a4 ae .Add (.ag (.ac 48)) (.a4 ae .Mod (.aa 1) (.ag (.ac 10))))]),.bW 1 (.a4 ae .FloorDiv (.aa 1) (.ag (.ac 10)))],.a7 (.aH .Lt (.aa 0) (.ag (.ac 0))) [.eU (.bm (.aa 2) .eP [(.ag (.ac 45))])] [],.bO (B (.bi ae .V [(.sf (.aa 2))]))]
noncomputable def abf:J cT:=[.a7 (.aH .Eq (.bi ae .bJ [(.aa 0)]) (.ag (.ac 0))) [.bO (B (.ag .aK))] [],.bW 1 (.ag (.ac 0)),.gS [2] (.c0 (.aa 0)) [.a7 (.jI (.jJ .LtE .LtE (.ag (.ac 48)) (.aa 2) (.ag (.ac 57)))) [.bO (B (.ag .aK))] [],.bW 1 (.a4 ae .Sub (.a4 ae .Add (.a4 ae .Mult (.ag (.ac 10)) (.aa 1)) (.aa 2)) (.ag (.ac 48)))],.bO (B (.aa 1))]
noncomputable def abg:J cT:=[.a7 (.jJ .LtE .LtE (.ag (.ac 48)) (.aa 0) (.ag (.ac 57))) [.bO (B (.a4 ae .Sub (.aa 0) (.ag (.ac 48))))] [],.a7 (.jJ .LtE .LtE (.ag (.ac 65)) (.aa 0) (.ag (.ac 70))) [.bO (B (.a4 ae .Sub (.aa 0) (.ag (.ac 55))))] [],.a7 (.jJ .LtE .LtE (.ag (.ac 97)) (.aa 0) (.ag (.ac 102))) [.bO (B (.a4 ae .Sub (.aa 0) (.ag (.ac 87))))] [],.bO (B (.ag .aK))]
noncomputable def abh:J cT:=[.bO (B (.a4 ae .Add (.a4 ae .Add (.fs (.aa 0) ab (B (.aa 1))) (.aW [(.aa 2)])) (.fs (.aa 0) (B (.a4 ae .Add (.aa 1) (.ag (.ac 1)))) ab)))]
noncomputable def abi:J cT:=[.bO (B (.a4 ae .RShift (.a4 ae .BitAnd (.aa 0) (.fl 9)) (.fl 8)))]
noncomputable def abj:J cT:=[.bO (B (.a4 ae .BitOr (.a4 ae .BitAnd (.aa 0) (.Fk (.fl 9))) (.a4 ae .LShift (.aa 1) (.fl 8))))]
noncomputable def abk:J cT:=[.bO (B (.aH .GtE (.aa 0) (.fl 11)))]
noncomputable def abl:J cT:=[.bO (B (.aW [(.a4 ae .BitAnd (.a4 ae .RShift (.aa 0) (.ag (.ac 16))) (.ag (.ac 255))),(.a4 ae .BitAnd (.a4 ae .RShift (.aa 0) (.ag (.ac 8))) (.ag (.ac 255))),(.a4 ae .BitAnd (.aa 0) (.ag (.ac 255)))]))]
noncomputable def abm:J cT:=[.bO (B (.a4 ae .Add (.fl 11) (.a4 ae .BitOr (.a4 ae .BitOr (.a4 ae .LShift (.aa 0) (.ag (.ac 16))) (.a4 ae .LShift (.aa 1) (.ag (.ac 8)))) (.aa 2))))]
noncomputable def abn:J cT:=[.bO (B (.cA af [(.aH .Gt (.bi ae .bJ [(.aa 0)]) (.ag (.ac 1))),(.aH .Eq (.bh (.aa 0) (.ag (.ac 0))) (.fl 16))]))]
noncomputable def abo:J cT:=[.bW 1 (.bm (.aa 0) .oA [(.ag (.V [91]))]),.a7 (.aH .Lt (.aa 1) (.ag (.ac 0))) [.bO (B (.aW [(.aa 0),(.ag .aK)]))] [],.bW 2 (.bp 1 [(.fs (.aa 0) (B (.a4 ae .Add (.aa 1) (.ag (.ac 1)))) (B (.a4 ae .Sub (.bi ae .bJ [(.aa 0)]) (.ag (.ac 1)))))]),.a7 (.cA ae [(.aH .NotEq (.fs (.aa 0) (B (.vN (.ag (.ac 1)))) ab) (.ag (.V [93]))),(.aH .Is (.aa 2) (.ag .aK))]) [.lD (.aa 0)] [],.bO (B (.aW [(.fs (.aa 0) ab (B (.aa 1))),(.aa 2)]))]
noncomputable def SX:J cT:=[.a7 (.cA ae [(.aH .In (.aa 1) (.aa 0)),(.e1 (.bp 9 [(.aa 1)]))]) [.bO (B (.aa 1))] [],.bW 2 (.lc (.aa 0) [0] (.c0 (.bi ae .fS [(.aa 0)])) [(.e1 (.bm (.aa 0) .se [(.aa 1)]))] [ab,B 1]),.a7 (.cA ae [(.aH .Eq (.aa 1) (.ag (.V []))),(.aH .NotEq (.bi ae .bJ [(.aa 2)]) (.ag (.ac 1)))]) [.lD (.aa 1)] [],.bO (B (.bh (.aa 2) (.ag (.ac 0))))]
noncomputable def abp:J cT:=[.bO (B (.a7 (.aH .In (.aa 1) (.aa 0)) (.bh (.aa 0) (.aa 1)) (.e0 0 [(.ag (.aF "octets")),(.ag .aK),(.ag (.V []))])))]
noncomputable def abq:J cT:=[.bO (B (.cA ae [(.aH .Is (.ef (.aa 0) "scope") (.ag .aK)),(.aH .Eq (.ef (.aa 0) "scope") (.aa 1)),(.cA af [(.aH .Eq (.ef (.aa 0) "scope") (.ag (.aF "pane"))),(.aH .Eq (.aa 1) (.ag (.aF "window")))])]))]
noncomputable def SY:J cT:=[.bW 2 (.bp 11 [(.ef (.aa 0) "table"),(.aa 1)]),.bW 3 (.aa 0),.md (.aH .IsNot (.aa 3) (.ag .aK)) [.a7 (.aH .In (.aa 2) (.ef (.aa 3) "values")) [.bO (B (.bh (.ef (.aa 3) "values") (.aa 2)))] [],.bW 3 (.ef (.aa 3) "parent")],.a7 (.aH .NotIn (.aa 2) (.ef (.aa 0) "table")) [.lD (.aa 2)] [],.bO (B (.ef (.bh (.ef (.aa 0) "table") (.aa 2)) "first"))]
noncomputable def S0:J cT:=[.sg [3,4,5] (.bp 17 [(.aa 0),(.aa 1)]),.a7 (.aH .Eq (.ef (.aa 5) "kind") (.ag (.aF "array"))) [.a7 (.aH .Is (.aa 2) (.ag .aK)) [.lD (.aa 3)] [],.ih (.ef (.aa 0) "values") (.aa 3) (.bp 19 [(.fJ (.aa 0) 14 [(.aa 3)]),(.aa 4),(.aa 2)])] [.a7 (.aH .IsNot (.aa 4) (.ag .aK)) [.lD (.aa 3)] [.bW 6 (.bp 18 [(.aa 3),(.aa 5),(.aa 2),(.cA af [(.aH .Eq (.ef (.aa 5) "kind") (.ag (.aF "flag"))),(.fJ (.aa 0) 14 [(.aa 3)])])]),.ih (.ef (.aa 0) "values") (.aa 3) (.aa 6)]]]
noncomputable def abr:J cT:=[.sg [2,3,4] (.bp 17 [(.aa 0),(.aa 1)]),.a7 (.aH .Is (.aa 3) (.ag .aK)) [.eU (.bm (.ef (.aa 0) "values") .sd [(.aa 2),(.ag .aK)])] [.a7 (.aH .In (.aa 2) (.ef (.aa 0) "values")) [.bW 5 (.bi af .bv [(.bh (.ef (.aa 0) "values") (.aa 2))]),.eU (.bm (.aa 5) .sd [(.aa 3),(.ag .aK)]),.ih (.ef (.aa 0) "values") (.aa 2) (.aa 5)] []]]
noncomputable def S1:J cT:=[.sg [2,3] (.bp 10 [(.aa 1)]),.bW 4 (.bp 11 [(.ef (.aa 0) "table"),(.aa 2)]),.bW 5 (.bp 12 [(.ef (.aa 0) "table"),(.aa 4)]),.a7 (.cA ae [(.jI (.e1 (.bp 13 [(.aa 5),(.ef (.aa 0) "scope")]))),(.cA af [(.aH .IsNot (.aa 3) (.ag .aK)),(.aH .NotEq (.ef (.aa 5) "kind") (.ag (.aF "array")))])]) [.lD (.aa 4)] [],.bO (B (.aW [(.aa 4),(.aa 3),(.aa 5)]))]
noncomputable def oI:J cT:=[.a7 (.aH .Eq (.ef (.aa 1) "kind") (.ag (.aF "flag"))) [.a7 (.aH .Is (.aa 2) (.ag .aK)) [.bO (B (.jI (.aa 3)))] [],.a7 (.aH .In (.aa 2) (.aW [(.ag (.V [111,110])),(.ag (.V [121,101,115])),(.ag (.V [49])),(.ag (.V [111,102,102])),(.ag (.V [110,111])),(.ag (.V [48]))])) [.bO (B (.aH .In (.aa 2) (.aW [(.ag (.V [111,110])),(.ag (.V [121,101,115])),(.ag (.V [49]))])))] [],.lD (.aa 0)] [],.a7 (.aH .Is (.aa 2) (.ag .aK)) [.lD (.aa 0)] [],.a7 (.aH .Eq (.ef (.aa 1) "kind") (.ag (.aF "number"))) [.bW 4 (.bp 1 [(.aa 2)]),.a7 (.cA ae [(.aH .Is (.aa 4) (.ag .aK)),(.jI (.jJ .LtE .LtE (.bh (.ef (.aa 1) "bounds") (.ag (.ac 0))) (.aa 4) (.bh (.ef (.aa 1) "bounds") (.ag (.ac 1)))))]) [.lD (.aa 0)] [],.bO (B (.aa 4))] [],.bW 5 (.cA af [(.aH .Eq (.ef (.aa 1) "kind") (.ag (.aF "choice"))),(.aH .NotIn (.aa 2) (.ef (.aa 1) "bounds"))]),.bW 5 (.cA ae [(.aa 5),(.cA af [(.aH .Eq (.ef (.aa 1) "kind") (.ag (.aF "key"))),(.cA ae [(.aH .Eq (.aa 2) (.ag (.V []))),(.aH .GtE (.bm (.aa 2) .oA [(.ag (.V [32]))]) (.ag (.ac 0)))])])]),.bW 5 (.cA ae [(.aa 5),(.cA af [(.aH .Eq (.ef (.aa 1) "kind") (.ag (.aF "colour"))),(.aH .Is (.bp 28 [(.aa 2)]) (.ag .aK))])]),.a7 (.cA ae [(.e1 (.aa 5)),(.cA af [(.aH .Eq (.ef (.aa 1) "kind") (.ag (.aF "style"))),(.aH .Is (.bp 33 [(.aa 2)]) (.ag .aK)),(.aH .Lt (.bm (.aa 2) .oA [(.ag (.V [35,123]))]) (.ag (.ac 0)))])]) [.lD (.aa 0)] [],.bO (B (.aa 2))]
noncomputable def abt:J cT:=[.a7 (.aH .IsNot (.aa 1) (.ag .aK)) [.bW 3 (.bi af .bv [(.aa 0)]),.ih (.aa 3) (.aa 1) (.aa 2),.bO (B (.aa 3))] [],.bO (B (.bp 20 [(.aa 2),(.a5 ae [] [])]))]
noncomputable def abu:J cT:=[.ig [2,3] [(.bi af .bv [(.aa 1)]),(.ag (.ac 0))],.gS [4] (.c0 (.bm (.aa 0) .pL [(.ag (.V [44]))])) [.md (.aH .In (.aa 3) (.aa 2)) [.bW 3 (.a4 ae .Add (.aa 3) (.ag (.ac 1)))],.a7 (.aH .NotEq (.aa 4) (.ag (.V []))) [.ih (.aa 2) (.aa 3) (.aa 4)] []],.bO (B (.aa 2))]
noncomputable def abv:J cT:=[.bW 2 (.aa 0),.md (.aH .IsNot (.aa 2) (.ag .aK)) [.a7 (.aH .In (.aa 1) (.ef (.aa 2) "values")) [.bO (B (.ag (.be af)))] [],.bW 2 (.ef (.aa 2) "parent")],.bO (B (.ag (.be ae)))]
noncomputable def S2:J cT:=[.sg [3,4,5] (.bp 17 [(.aa 0),(.aa 1)]),.a7 (.cA ae [(.aH .IsNot (.aa 4) (.ag .aK)),(.aH .NotIn (.ef (.aa 5) "kind") (.aW [(.ag (.aF "octets")),(.ag (.aF "style")),(.ag (.aF "array"))]))]) [.lD (.aa 3)] [],.bW 6 (.a7 (.cA ae [(.aH .In (.aa 3) (.ef (.aa 0) "table")),(.e1 (.bp 21 [(.aa 0),(.aa 3)]))]) (.fJ (.aa 0) 14 [(.aa 3)]) (.ag (.V []))),.a7 (.aH .Eq (.ef (.aa 5) "kind") (.ag (.aF "array"))) [.ih (.ef (.aa 0) "values") (.aa 3) (.bp 20 [(.aa 2),(.aa 6)])] [.a7 (.aH .Eq (.ef (.aa 5) "kind") (.ag (.aF "style"))) [.eU (.fJ (.aa 0) 15 [(.aa 3),(.a7 (.aH .NotEq (.aa 6) (.ag (.V []))) (.a4 ae .Add (.a4 ae .Add (.aa 6) (.ag (.V [44]))) (.aa 2)) (.aa 2))])] [.eU (.fJ (.aa 0) 15 [(.aa 3),(.a4 ae .Add (.aa 6) (.aa 2))])]]]
noncomputable def abw:J cT:=[.bW 1 (.aH .NotEq (.aa 0) (.ag (.V []))),.gS [2] (.c0 (.aa 0)) [.bW 1 (.cA af [(.aa 1),(.jJ .Lt .Lt (.ag (.ac 32)) (.aa 2) (.ag (.ac 127))),(.aH .NotIn (.aa 2) (.ag (.V [34,39,35,36,37,59,126,92,123,125])))])],.a7 (.e1 (.aa 1)) [.bO (B (.aa 0))] [],.bW 3 (.bi ae .pK [(.ag (.V [34]))]),.gS [2] (.c0 (.aa 0)) [.a7 (.aH .In (.aa 2) (.ag (.V [92,34,36]))) [.eU (.bm (.aa 3) .mc [(.bi ae .V [(.aP ae [(.ag (.ac 92)),(.aa 2)])])])] [.a7 (.jJ .LtE .Lt (.ag (.ac 32)) (.aa 2) (.ag (.ac 127))) [.eU (.bm (.aa 3) .eP [(.aa 2)])] [.eU (.bm (.aa 3) .mc [(.bi ae .V [(.aP ae [(.ag (.ac 92)),(.a4 ae .Add (.ag (.ac 48)) (.a4 ae .FloorDiv (.aa 2) (.ag (.ac 64)))),(.a4 ae .Add (.ag (.ac 48)) (.a4 ae .Mod (.a4 ae .FloorDiv (.aa 2) (.ag (.ac 8))) (.ag (.ac 8)))),(.a4 ae .Add (.ag (.ac 48)) (.a4 ae .Mod (.aa 2) (.ag (.ac 8))))])])])]]],.bO (B (.a4 ae .Add (.bi ae .V [(.aa 3)]) (.ag (.V [34]))))]
noncomputable def abx:J cT:=[.a7 (.aH .Eq (.ef (.aa 0) "kind") (.ag (.aF "flag"))) [.bO (B (.a7 (.e1 (.aa 1)) (.ag (.V [111,110])) (.ag (.V [111,102,102]))))] [],.bO (B (.a7 (.aH .Eq (.ef (.aa 0) "kind") (.ag (.aF "number"))) (.bp 0 [(.aa 1)]) (.aa 1)))]
noncomputable def aby:J cT:=[.bW 3 (.bp 12 [(.aa 0),(.aa 1)]),.a7 (.aH .NotEq (.ef (.aa 3) "kind") (.ag (.aF "array"))) [.bO (B (.aP ae [(.a4 ae .Add (.a4 ae .Add (.aa 1) (.ag (.V [32]))) (.bp 23 [(.bp 24 [(.aa 3),(.aa 2)])]))]))] [],.a7 (.aH .Eq (.aa 2) (.a5 ae [] [])) [.bO (B (.aP ae [(.aa 1)]))] [],.bO (B (.lc (.a4 ae .Add (.a4 ae .Add (.a4 ae .Add (.a4 ae .Add (.aa 1) (.ag (.V [91]))) (.bp 0 [(.aa 0)])) (.ag (.V [93,32]))) (.bp 23 [(.bh (.aa 2) (.aa 0))])) [0] (.c0 (.bi ae .fS [(.aa 2)])) [] [ab,B 1,B 2]))]
noncomputable def S3:J cT:=[.bW 2 (.bi ae .fS [(.ef (.aa 0) "values")]),.a7 (.e1 (.aa 1)) [.bW 4 (.qN (.aa 0) (.ag (.be af)) 0 (.c0 (.aa 2)) [ab]),.gS [3] (.c0 (.ef (.aa 0) "table")) [.a7 (.e1 (.bp 13 [(.bh (.ef (.aa 0) "table") (.aa 3)),(.ef (.aa 0) "scope")])) [.ih (.aa 4) (.aa 3) (.ag (.be af))] []],.bW 2 (.bi ae .fS [(.aa 4)])] [],.bW 5 (.aP af []),.gS [3] (.c0 (.aa 2)) [.eU (.bm (.aa 5) .mc [(.bp 25 [(.ef (.aa 0) "table"),(.aa 3),(.fJ (.aa 0) 14 [(.aa 3)])])])],.bO (B (.aa 5))]
noncomputable def abz:J cT:=[.bO (B (.aW [(.ag (.V [98,108,97,99,107])),(.ag (.V [114,101,100])),(.ag (.V [103,114,101,101,110])),(.ag (.V [121,101,108,108,111,119])),(.ag (.V [98,108,117,101])),(.ag (.V [109,97,103,101,110,116,97])),(.ag (.V [99,121,97,110])),(.ag (.V [119,104,105,116,101]))]))]
noncomputable def FE:J cT:=[.bW 1 (.bp 27 []),.a7 (.aH .In (.aa 0) (.aW [(.ag (.V [100,101,102,97,117,108,116])),(.ag (.V [116,101,114,109,105,110,97,108]))])) [.bO (B (.fl 10))] [],.a7 (.aH .In (.aa 0) (.aa 1)) [.bO (B (.bm (.aa 1) .tR [(.aa 0)]))] [],.a7 (.cA af [(.e1 (.bm (.aa 0) .se [(.ag (.V [98,114,105,103,104,116]))])),(.aH .In (.fs (.aa 0) (B (.ag (.ac 6))) ab) (.aa 1))]) [.bO (B (.a4 ae .Add (.ag (.ac 8)) (.bm (.aa 1) .tR [(.fs (.aa 0) (B (.ag (.ac 6))) ab)])))] [],.gS [2] (.c0 (.aW [(.ag (.V [99,111,108,111,117,114])),(.ag (.V [99,111,108,111,114]))])) [.bW 3 (.a7 (.e1 (.bm (.aa 0) .se [(.aa 2)])) (.bp 1 [(.fs (.aa 0) (B (.bi ae .bJ [(.aa 2)])) ab)]) (.ag .aK)),.a7 (.cA af [(.aH .IsNot (.aa 3) (.ag .aK)),(.aH .Lt (.aa 3) (.ag (.ac 256)))]) [.bO (B (.aa 3))] []],.a7 (.cA af [(.aH .Eq (.bi ae .bJ [(.aa 0)]) (.ag (.ac 7))),(.aH .Eq (.fs (.aa 0) ab (B (.ag (.ac 1)))) (.ag (.V [35])))]) [.bW 4 (.lc (.bp 2 [(.aa 0)]) [0] (.c0 (.fs (.aa 0) (B (.ag (.ac 1))) ab)) [] [ab]),.a7 (.aH .NotIn (.ag .aK) (.aa 4)) [.bW 5 (.lc (.a4 ae .Add (.a4 ae .Mult (.ag (.ac 16)) (.bh (.aa 1) (.aa 0))) (.bh (.aa 1) (.a4 ae .Add (.aa 0) (.ag (.ac 1))))) [0] (.c0 (.aW [(.ag (.ac 0)),(.ag (.ac 2)),(.ag (.ac 4))])) [] [ab,B 4]),.bO (B (.bp 8 [(.bh (.aa 5) (.ag (.ac 0))),(.bh (.aa 5) (.ag (.ac 1))),(.bh (.aa 5) (.ag (.ac 2)))]))] []] [],.bO (B (.ag .aK))]
noncomputable def abA:J cT:=[.a7 (.aH .Eq (.aa 0) (.fl 10)) [.bO (B (.ag (.V [100,101,102,97,117,108,116])))] [],.a7 (.e1 (.bp 6 [(.aa 0)])) [.bW 1 (.ag (.V [48,49,50,51,52,53,54,55,56,57,97,98,99,100,101,102])),.bO (B (.a4 ae .Add (.ag (.V [35])) (.bi ae .V [(.A3 (.bh (.aa 2) (.a7 (.e1 (.aa 1)) (.a4 ae .FloorDiv (.aa 0) (.ag (.ac 16))) (.a4 ae .Mod (.aa 0) (.ag (.ac 16))))) 0 (.c0 (.bp 7 [(.aa 0)])) 1 (.aW [(.ag (.be af)),(.ag (.be ae))]) [ab,ab,B 1])])))] [],.a7 (.aH .Lt (.aa 0) (.ag (.ac 8))) [.bO (B (.bh (.bp 27 []) (.aa 0)))] [],.bO (B (.a7 (.aH .Lt (.aa 0) (.ag (.ac 16))) (.a4 ae .Add (.ag (.V [98,114,105,103,104,116])) (.bh (.bp 27 []) (.a4 ae .Sub (.aa 0) (.ag (.ac 8))))) (.a4 ae .Add (.ag (.V [99,111,108,111,117,114])) (.bp 0 [(.aa 0)]))))]
noncomputable def abB:J cT:=[.bO (B (.a5 ae [(.ag (.V [98,114,105,103,104,116])),(.ag (.V [98,111,108,100])),(.ag (.V [100,105,109])),(.ag (.V [105,116,97,108,105,99,115])),(.ag (.V [98,108,105,110,107])),(.ag (.V [114,101,118,101,114,115,101])),(.ag (.V [104,105,100,100,101,110])),(.ag (.V [115,116,114,105,107,101,116,104,114,111,117,103,104])),(.ag (.V [111,118,101,114,108,105,110,101]))] [(.fl 0),(.fl 0),(.fl 1),(.fl 2),(.fl 3),(.fl 4),(.fl 5),(.fl 6),(.fl 7)]))]
noncomputable def abC:J cT:=[.bO (B (.a5 ae [(.ag (.V [117,110,100,101,114,115,99,111,114,101])),(.ag (.V [100,111,117,98,108,101,45,117,110,100,101,114,115,99,111,114,101])),(.ag (.V [99,117,114,108,121,45,117,110,100,101,114,115,99,111,114,101])),(.ag (.V [100,111,116,116,101,100,45,117,110,100,101,114,115,99,111,114,101])),(.ag (.V [100,97,115,104,101,100,45,117,110,100,101,114,115,99,111,114,101]))] [(.ag (.ac 1)),(.ag (.ac 2)),(.ag (.ac 3)),(.ag (.ac 4)),(.ag (.ac 5))]))]
noncomputable def FF:J cT:=[.bW 1 (.bm (.aa 0) .oA [(.ag (.V [61]))]),.sg [2,3] (.a7 (.aH .GtE (.aa 1) (.ag (.ac 0))) (.aW [(.fs (.aa 0) ab (B (.aa 1))),(.fs (.aa 0) (B (.a4 ae .Add (.aa 1) (.ag (.ac 1)))) ab)]) (.aW [(.aa 0),(.ag .aK)])),.a7 (.aH .In (.aa 2) (.aW [(.ag (.V [102,103])),(.ag (.V [98,103])),(.ag (.V [117,115]))])) [.bW 4 (.a7 (.aH .IsNot (.aa 3) (.ag .aK)) (.bp 28 [(.aa 3)]) (.ag .aK)),.bO (B (.a7 (.aH .IsNot (.aa 4) (.ag .aK)) (.aW [(.aa 2),(.aa 4)]) (.ag .aK)))] [],.a7 (.cA af [(.aH .In (.aa 2) (.fl 17)),(.aH .IsNot (.aa 3) (.ag .aK))]) [.a7 (.aH .Eq (.aa 2) (.ag (.V [102,105,108,108]))) [.bO (B (.a7 (.aH .IsNot (.bp 28 [(.aa 3)]) (.ag .aK)) (.aW [(.aa 2),(.bp 28 [(.aa 3)])]) (.ag .aK)))] [],.bW 5 (.cA ae [(.aH .NotEq (.aa 2) (.ag (.V [97,108,105,103,110]))),(.aH .In (.aa 3) (.aW [(.ag (.V [108,101,102,116])),(.ag (.V [99,101,110,116,114,101])),(.ag (.V [114,105,103,104,116])),(.ag (.V [97,98,115,111,108,117,116,101,45,99,101,110,116,114,101]))]))]),.bO (B (.a7 (.e1 (.aa 5)) (.aW [(.aa 2),(.aa 3)]) (.ag .aK)))] [],.a7 (.aH .IsNot (.aa 3) (.ag .aK)) [.bO (B (.ag .aK))] [],.bW 6 (.a7 (.e1 (.bm (.aa 0) .se [(.ag (.V [110,111]))])) (.fs (.aa 0) (B (.ag (.ac 2))) ab) (.aa 0)),.bW 7 (.cA ae [(.aH .In (.aa 6) (.bp 30 [])),(.aH .In (.aa 6) (.bp 31 []))]),.bO (B (.a7 (.cA ae [(.e1 (.aa 7)),(.aH .In (.aa 0) (.aW [(.ag (.V [100,101,102,97,117,108,116])),(.ag (.V [110,111,110,101])),(.ag (.V [110,111,97,116,116,114]))])),(.aH .In (.aa 0) (.fl 18))]) (.aW [(.aa 0),(.ag .aK)]) (.ag .aK)))]
noncomputable def abD:J cT:=[.bW 1 (.aP af []),.gS [2] (.c0 (.bm (.bm (.aa 0) .A1 [(.ag (.V [32])),(.ag (.V [44]))]) .pL [(.ag (.V [44]))])) [.a7 (.aH .NotEq (.aa 2) (.ag (.V []))) [.bW 3 (.bp 32 [(.aa 2)]),.a7 (.aH .Is (.aa 3) (.ag .aK)) [.bO (B (.ag .aK))] [],.eU (.bm (.aa 1) .eP [(.aa 3)])] []],.bO (B (.aa 1))]
noncomputable def Lj:J cT:=[.bW 2 (.cA af [(.aH .NotIn (.aa 1) (.bp 30 [])),(.aH .NotIn (.aa 1) (.bp 31 []))]),.bW 3 (.a7 (.e1 (.aa 2)) (.fs (.aa 1) (B (.ag (.ac 2))) ab) (.aa 1)),.a7 (.aH .In (.aa 3) (.bp 31 [])) [.bO (B (.bp 3 [(.aa 0),(.ag (.ac 0)),(.bp 5 [(.bh (.aa 0) (.ag (.ac 0))),(.a7 (.e1 (.aa 2)) (.ag (.ac 0)) (.bh (.bp 31 []) (.aa 3)))])]))] [],.bW 4 (.bh (.bp 30 []) (.aa 3)),.bO (B (.bp 3 [(.aa 0),(.ag (.ac 0)),(.a7 (.e1 (.aa 2)) (.a4 ae .BitAnd (.bh (.aa 0) (.ag (.ac 0))) (.Fk (.aa 4))) (.a4 ae .BitOr (.bh (.aa 0) (.ag (.ac 0))) (.aa 4)))]))]
noncomputable def abE:J cT:=[.bW 3 (.a5 ae [(.ag (.V [102,103])),(.ag (.V [98,103])),(.ag (.V [117,115]))] [(.fl 13),(.fl 14),(.fl 15)]),.gS [4,5] (.c0 (.aa 1)) [.a7 (.aH .In (.aa 4) (.aa 3)) [.bW 0 (.bp 3 [(.aa 0),(.bh (.aa 3) (.aa 4)),(.aa 5)])] [.a7 (.aH .Eq (.aa 4) (.ag (.V [100,101,102,97,117,108,116]))) [.bW 0 (.aa 2)] [.a7 (.aH .In (.aa 4) (.aW [(.ag (.V [110,111,110,101])),(.ag (.V [110,111,97,116,116,114]))])) [.bW 0 (.bp 3 [(.aa 0),(.ag (.ac 0)),(.ag (.ac 0))])] [.a7 (.cA af [(.aH .NotIn (.aa 4) (.fl 17)),(.aH .NotIn (.aa 4) (.fl 18))]) [.bW 0 (.bp 34 [(.aa 0),(.aa 4)])] []]]]],.bO (B (.aa 0))]
noncomputable def yq:J cT:=[.bW 1 (.aP af []),.gS [2,3] (.c0 (.aW [(.aW [(.fl 13),(.ag (.V [102,103]))]),(.aW [(.fl 14),(.ag (.V [98,103]))]),(.aW [(.fl 15),(.ag (.V [117,115]))])])) [.a7 (.aH .NotEq (.bh (.aa 0) (.aa 2)) (.fl 10)) [.eU (.bm (.aa 1) .eP [(.a4 ae .Add (.a4 ae .Add (.aa 3) (.ag (.V [61]))) (.bp 29 [(.bh (.aa 0) (.aa 2))]))])] []],.ig [4,5] [(.ag (.ac 0)),(.bp 30 [])],.gS [6] (.c0 (.bi ae .fS [(.aa 5)])) [.a7 (.cA af [(.e1 (.a4 ae .BitAnd (.bh (.aa 0) (.ag (.ac 0))) (.bh (.aa 5) (.aa 6)))),(.jI (.e1 (.a4 ae .BitAnd (.aa 4) (.bh (.aa 5) (.aa 6)))))]) [.eU (.bm (.aa 1) .eP [(.aa 6)]),.bW 4 (.a4 ae .BitOr (.aa 4) (.bh (.aa 5) (.aa 6)))] []],.bW 7 (.bp 31 []),.eU (.bm (.aa 1) .mc [(.lc (.aa 0) [0] (.c0 (.bi ae .fS [(.aa 7)])) [(.aH .Eq (.bh (.aa 2) (.aa 0)) (.bp 4 [(.bh (.aa 1) (.ag (.ac 0)))]))] [ab,B 0,B 7])]),.bO (B (.a7 (.aH .NotEq (.aa 1) (.aP ae [])) (.bm (.ag (.V [44])) .A2 [(.aa 1)]) (.ag (.V [100,101,102,97,117,108,116]))))]
noncomputable def abF:J cT:=[.bO (B (.aP ae [(.ag (.V [98,111,108,100,100])),(.ag (.V [102,103,61,110,111,112,101])),(.ag (.V [99,111,108,111,117,114,50,53,54])),(.ag (.V [114,101,100,100,105,115,104])),(.ag (.V [67,32,97]))]))]
noncomputable def abG:J cT:=[.ih (.aa 1) (.ag (.ac 0)) (.a4 ae .Add (.bh (.aa 1) (.ag (.ac 0))) (.ag (.ac 1))),.a7 (.aH .Gt (.bh (.aa 1) (.ag (.ac 0))) (.bi ae .bJ [(.aa 0)])) [.bO (B (.a4 ae .Mod (.a4 ae .FloorDiv (.a4 ae .Mult (.bh (.aa 1) (.ag (.ac 0))) (.ag (.ac 7))) (.ag (.ac 3))) (.aa 2)))] [],.bO (B (.a4 ae .Mod (.bh (.aa 0) (.a4 ae .Sub (.bh (.aa 1) (.ag (.ac 0))) (.ag (.ac 1)))) (.aa 2)))]
noncomputable def abH:J cT:=[.bW 0 (.a5 af [(.ag (.V [97,108,97,114,109])),(.ag (.V [100,101,112,116,104]))] [(.aW [(.ag (.aF "flag")),(.ag (.aF "window")),(.ag (.be af)),(.aW [])]),(.aW [(.ag (.aF "number")),(.ag (.aF "pane")),(.ag (.ac 3)),(.aW [(.ag (.ac 0)),(.ag (.ac 30))])])]),.eU (.bm (.aa 0) .tQ [(.a5 ae [(.ag (.V [100,101,112,116,104,45,109,111,115,116])),(.ag (.V [108,111,111,107]))] [(.aW [(.ag (.aF "number")),(.ag (.aF "window")),(.ag (.ac 9)),(.aW [(.ag (.ac 0)),(.ag (.ac 99))])]),(.aW [(.ag (.aF "style")),(.ag (.aF "pane")),(.ag (.V [])),(.aW [])])])]),.ih (.aa 0) (.ag (.V [109,111,100,101])) (.aW [(.ag (.aF "choice")),(.ag (.aF "pane")),(.ag (.V [118,105])),(.aW [(.ag (.V [118,105])),(.ag (.V [101,109,97,99,115])),(.ag (.V [110,111,110,101]))])]),.ih (.aa 0) (.ag (.V [112,114,101,115,115])) (.aW [(.ag (.aF "key")),(.ag (.aF "pane")),(.ag (.V [67,45,97])),(.aW [])]),.eU (.bm (.aa 0) .tQ [(.a5 ae [(.ag (.V [114,111,119,115])),(.ag (.V [115,104,97,100,101]))] [(.aW [(.ag (.aF "array")),(.ag (.aF "window")),(.a5 ae [(.ag (.ac 0)),(.ag (.ac 2))] [(.ag (.V [112])),(.ag (.V [113]))]),(.aW [])]),(.aW [(.ag (.aF "colour")),(.ag (.aF "window")),(.ag (.V [100,101,102,97,117,108,116])),(.aW [])])])]),.ih (.aa 0) (.ag (.V [116,105,116,108,101])) (.aW [(.ag (.aF "octets")),(.ag (.aF "pane")),(.ag (.V [97,32,98])),(.aW [])]),.bO (B (.aa 0))]
noncomputable def abI:J cT:=[.bW 1 (.a5 af [(.ag (.aF "flag")),(.ag (.aF "key"))] [(.aP ae [(.ag (.V [111,110])),(.ag (.V [111,102,102])),(.ag (.V [121,101,115])),(.ag (.V [110,111])),(.ag (.V [49])),(.ag (.V [48])),(.ag (.V [109,97,121,98,101])),(.ag (.V []))]),(.aP ae [(.ag (.V [70,49])),(.ag (.V [77,45,120])),(.ag (.V [67,32,97]))])]),.ih (.aa 1) (.ag (.aF "number")) (.aP ae [(.ag (.V [48])),(.ag (.V [51,48])),(.ag (.V [55])),(.ag (.V [51,49])),(.ag (.V [45,49])),(.ag (.V [120])),(.ag (.V [49,48,48])),(.ag (.V []))]),.ih (.aa 1) (.ag (.aF "choice")) (.aP ae [(.ag (.V [118,105])),(.ag (.V [101,109,97,99,115])),(.ag (.V [110,111,110,101])),(.ag (.V [101,109]))]),.ih (.aa 1) (.ag (.aF "octets")) (.aP ae [(.ag (.V [])),(.ag (.V [120,32,121])),(.ag (.V [112,108,97,105,110])),(.ag (.V [35,91,97,93,123,98,125])),(.ag (.V [34,113,34,32,92,32,36,49])),(.ag (.V [7,255,126])),(.ag (.V [37,59,39]))]),.ih (.aa 1) (.ag (.aF "style")) (.aP ae [(.ag (.V [102,103,61,114,101,100])),(.ag (.V [98,111,108,100])),(.ag (.V [98,103,61,99,111,108,111,117,114,50,48,48,44,102,103,61,100,101,102,97,117,108,116])),(.ag (.V [110,111,110,101,32,98,111,108,100])),(.ag (.V [117,115,61,35,48,48,102,102,55,102])),(.ag (.V [98,111,108,100,100])),(.ag (.V [102,103,61,110,111,112,101]))]),.ih (.aa 1) (.ag (.aF "colour")) (.aP ae [(.ag (.V [114,101,100])),(.ag (.V [99,111,108,111,117,114,49,50])),(.ag (.V [35,48,97,48,98,48,99])),(.ag (.V [100,101,102,97,117,108,116])),(.ag (.V [99,111,108,111,117,114,50,53,54])),(.ag (.V [114,101,100,100,105,115,104]))]),.ih (.aa 1) (.ag (.aF "array")) (.aP ae [(.ag (.V [97,44,98])),(.ag (.V [44,120,44,44,121,32,122])),(.ag (.V [])),(.ag (.V [111,110,101]))]),.bO (B (.bh (.aa 1) (.aa 0)))]
noncomputable def abJ:J cT:=[.bO (B (.lc (.aa 0) [0] (.c0 (.bm (.aa 0) .pL [(.ag (.V [44]))])) [(.aH .NotEq (.aa 0) (.ag (.V [])))] [ab]))]
noncomputable def S4:J cT:=[.a7 (.aH .Eq (.aa 0) (.ag (.aF "flag"))) [.bO (B (.a7 (.aH .In (.aa 2) (.aW [(.ag (.V [111,110])),(.ag (.V [121,101,115])),(.ag (.V [49])),(.ag (.V [111,102,102])),(.ag (.V [110,111])),(.ag (.V [48]))])) (.aH .In (.aa 2) (.aW [(.ag (.V [111,110])),(.ag (.V [121,101,115])),(.ag (.V [49]))])) (.ag (.aF "bad"))))] [],.a7 (.aH .Eq (.aa 0) (.ag (.aF "number"))) [.a7 (.cA ae [(.aH .Eq (.aa 2) (.ag (.V []))),(.aH .NotEq (.lc (.aa 0) [0] (.c0 (.aa 2)) [(.jI (.jJ .LtE .LtE (.ag (.ac 48)) (.aa 0) (.ag (.ac 57))))] [ab]) (.aP ae []))]) [.bO (B (.ag (.aF "bad")))] [],.bW 4 (.ag (.ac 0)),.gS [3] (.c0 (.aa 2)) [.bW 4 (.a4 ae .Sub (.a4 ae .Add (.a4 ae .Mult (.ag (.ac 10)) (.aa 4)) (.aa 3)) (.ag (.ac 48)))],.bO (B (.a7 (.jJ .LtE .LtE (.bh (.aa 1) (.ag (.ac 0))) (.aa 4) (.bh (.aa 1) (.ag (.ac 1)))) (.aa 4) (.ag (.aF "bad"))))] [],.a7 (.aH .Eq (.aa 0) (.ag (.aF "choice"))) [.bO (B (.a7 (.aH .In (.aa 2) (.aa 1)) (.aa 2) (.ag (.aF "bad"))))] [],.a7 (.aH .Eq (.aa 0) (.ag (.aF "array"))) [.bO (B (.bi ae .bv [(.lc (.aW [(.aa 0),(.aa 1)]) [0,1] (.vO (.bp 41 [(.aa 2)])) [] [ab,ab])]))] [],.bO (B (.a7 (.cA af [(.aH .In (.aa 2) (.bp 37 [])),(.aH .NotEq (.aa 0) (.ag (.aF "octets")))]) (.ag (.aF "bad")) (.aa 2)))]
noncomputable def S5:J cT:=[.gS [3] (.c0 (.a7 (.aH .Eq (.aa 1) (.ag (.ac 1))) (.aP ae [(.bh (.bh (.aa 0) (.ag (.aF "books"))) (.ag (.ac 1))),(.bh (.bh (.aa 0) (.ag (.aF "books"))) (.ag (.ac 0)))]) (.aP ae [(.bh (.bh (.aa 0) (.ag (.aF "books"))) (.ag (.ac 0)))]))) [.a7 (.aH .In (.aa 2) (.aa 3)) [.bO (B (.bh (.aa 3) (.aa 2)))] []],.bO (B (.a7 (.aH .In (.aa 2) (.bh (.aa 0) (.ag (.aF "table")))) (.bh (.bh (.bh (.aa 0) (.ag (.aF "table"))) (.aa 2)) (.ag (.ac 2))) (.ag .aK)))]
noncomputable def abK:J cT:=[.bO (B (.cA ae [(.aH .Eq (.aa 2) (.ag (.V [64,120]))),(.aH .Eq (.aa 1) (.ag (.ac 0))),(.aH .Eq (.bh (.aa 0) (.ag (.aF "scope"))) (.ag (.aF "window"))),(.aH .Eq (.bh (.bh (.bh (.aa 0) (.ag (.aF "table"))) (.aa 2)) (.ag (.ac 1))) (.ag (.aF "pane")))]))]
noncomputable def S6:J cT:=[.a7 (.aH .Eq (.aa 0) (.ag (.aF "octets"))) [.bO (B (.a4 ae .Add (.a7 (.aH .Is (.aa 1) (.ag .aK)) (.ag (.V [])) (.aa 1)) (.aa 2)))] [],.a7 (.cA af [(.aH .Eq (.aa 0) (.ag (.aF "style"))),(.aH .NotIn (.aa 2) (.bp 37 []))]) [.bO (B (.a7 (.aH .Eq (.aa 1) (.ag (.V []))) (.aa 2) (.a4 ae .Add (.a4 ae .Add (.aa 1) (.ag (.V [44]))) (.aa 2))))] [],.a7 (.aH .NotEq (.aa 0) (.ag (.aF "array"))) [.bO (B (.ag (.aF "bad")))] [],.bW 3 (.bi af .bv [(.aa 1)]),.gS [4] (.c0 (.bp 41 [(.aa 2)])) [.ih (.aa 3) (.bh (.lc (.aa 0) [0] (.qO (.a4 ae .Add (.bi ae .bJ [(.aa 3)]) (.ag (.ac 1)))) [(.aH .NotIn (.aa 0) (.aa 1))] [ab,B 3]) (.ag (.ac 0))) (.aa 4)],.bO (B (.aa 3))]
noncomputable def S7:J cT:=[.bW 6 (.bh (.bh (.aa 0) (.ag (.aF "books"))) (.aa 1)),.a7 (.cA ae [(.aH .Is (.aa 3) (.ag .aK)),(.jI (.e1 (.bp 44 [(.aa 0),(.aa 1),(.aa 3)])))]) [.bO (B (.ag (.be ae)))] [],.sg [7,8,9,10] (.bm (.bh (.aa 0) (.ag (.aF "table"))) .fv [(.aa 3),(.aW [(.ag (.aF "octets")),(.ag (.aF "")),(.ag (.V [])),(.aW [])])]),.ig [11,12] [(.bp 43 [(.aa 0),(.aa 1),(.aa 3)]),(.ag (.aF "bad"))],.a7 (.aH .Eq (.aa 2) (.ag (.aF "unset"))) [.a7 (.aH .Is (.aa 5) (.ag .aK)) [.eU (.bm (.aa 6) .sd [(.aa 3),(.ag .aK)])] [.a7 (.aH .In (.aa 3) (.aa 6)) [.ih (.aa 6) (.aa 3) (.bi ae .bv [(.lc (.aW [(.aa 0),(.bh (.bh (.aa 1) (.aa 2)) (.aa 0))]) [0] (.c0 (.bh (.aa 6) (.aa 3))) [(.aH .NotEq (.aa 0) (.aa 3))] [ab,B 6,B 3,B 5])])] []],.bO (B (.ag (.be af)))] [],.a7 (.aH .Eq (.aa 2) (.ag (.aF "turn"))) [.bW 12 (.a7 (.cA af [(.aH .Eq (.aa 7) (.ag (.aF "flag"))),(.aH .Is (.aa 5) (.ag .aK))]) (.jI (.aa 11)) (.ag (.aF "bad")))] [.a7 (.cA af [(.aH .IsNot (.aa 5) (.ag .aK)),(.cA ae [(.aH .NotEq (.aa 7) (.ag (.aF "array"))),(.aH .Eq (.aa 2) (.ag (.aF "append")))])]) [.bW 12 (.ag (.aF "bad"))] [.a7 (.aH .Eq (.aa 2) (.ag (.aF "append"))) [.bW 12 (.bp 45 [(.aa 7),(.aa 11),(.aa 4)])] [.a7 (.aH .IsNot (.aa 5) (.ag .aK)) [.bW 12 (.bi af .bv [(.aa 11)]),.ih (.aa 12) (.aa 5) (.aa 4)] [.bW 12 (.bp 42 [(.aa 7),(.aa 10),(.aa 4)])]]]],.a7 (.aH .Eq (.aa 12) (.ag (.aF "bad"))) [.bO (B (.ag (.be ae)))] [],.ih (.aa 6) (.aa 3) (.aa 12),.bO (B (.ag (.be af)))]
noncomputable def abL:J cT:=[.bO (B (.bi ae .V [(.lc (.bi ae .A0 [(.aa 0)]) [0] (.c0 (.bi ae .aF [(.aa 0)])) [] [ab])]))]
noncomputable def kG:J cT:=[.ig [3,4] [(.bp 38 [(.aa 0),(.aa 1),(.ag (.ac 2))]),(.bp 38 [(.aa 0),(.aa 1),(.ag (.ac 13))])],.ig [16,5] [(.bh (.aP ae [(.ag (.aF "set")),(.ag (.aF "set")),(.ag (.aF "unset")),(.ag (.aF "append")),(.ag (.aF "turn"))]) (.bp 38 [(.aa 0),(.aa 1),(.ag (.ac 5))])),(.aH .Eq (.bp 38 [(.aa 0),(.aa 1),(.ag (.ac 2))]) (.ag (.ac 1)))],.ig [6,15] [(.bp 38 [(.aa 0),(.aa 1),(.ag (.ac 8))]),(.bh (.bh (.aa 2) (.ag (.aF "scopes"))) (.aa 3))],.bW 7 (.bh (.a4 ae .Add (.bi ae .fS [(.bh (.aa 2) (.ag (.aF "table")))]) (.aP ae [(.ag (.V [64,120])),(.ag .aK),(.ag .aK),(.ag .aK)])) (.aa 4)),.bW 8 (.a7 (.aH .In (.aa 7) (.bh (.aa 2) (.ag (.aF "table")))) (.bh (.bh (.bh (.aa 2) (.ag (.aF "table"))) (.aa 7)) (.ag (.ac 0))) (.ag (.aF "octets"))),.bW 9 (.bp 40 [(.aa 8)]),.bW 14 (.bh (.aa 9) (.bp 38 [(.aa 0),(.aa 1),(.bi ae .bJ [(.aa 9)])])),.bW 10 (.a7 (.cA ae [(.cA af [(.aH .Eq (.aa 8) (.ag (.aF "array"))),(.aH .Lt (.aa 6) (.ag (.ac 5)))]),(.cA af [(.aH .Eq (.aa 16) (.ag (.aF "set"))),(.aH .Eq (.aa 6) (.ag (.ac 0))),(.aH .Lt (.aa 4) (.ag (.ac 9)))])]) (.aa 6) (.ag .aK)),.a7 (.cA af [(.aH .IsNot (.aa 10) (.ag .aK)),(.aH .Eq (.aa 8) (.ag (.aF "array")))]) [.bW 14 (.ag (.V [111,110,101,44,32,116,119,111]))] [],.a7 (.cA ae [(.cA af [(.aH .Eq (.aa 7) (.ag (.V [64,120]))),(.aH .Eq (.aa 16) (.ag (.aF "turn")))]),(.cA af [(.aH .IsNot (.aa 7) (.ag .aK)),(.aH .Eq (.aa 16) (.ag (.aF "unset"))),(.jI (.e1 (.bp 44 [(.aa 2),(.aa 3),(.aa 7)])))])]) [.bO (B (.ag (.be af)))] [],.bW 11 (.aP ae [(.ag (.V [97,108])),(.ag (.V [100,101,112,116,104])),(.ag (.V [100,101,112,116,104,45])),(.ag (.V [108])),(.ag (.V [109,111,100])),(.ag (.V [112,114])),(.ag (.V [114,111,119])),(.ag (.V [115,104,97])),(.ag (.V [116,105,116])),(.ag (.V [64,120])),(.ag (.V [100,101,112])),(.ag (.V [122,122,122])),(.ag (.V []))]),.bW 13 (.a7 (.cA ae [(.cA af [(.e1 (.aa 5)),(.aH .Is (.aa 10) (.ag .aK))]),(.aH .Is (.aa 7) (.ag .aK))]) (.bh (.aa 11) (.aa 4)) (.aa 7)),.a7 (.aH .IsNot (.aa 10) (.ag .aK)) [.bW 13 (.a4 ae .Add (.a4 ae .Add (.a4 ae .Add (.aa 13) (.ag (.V [91]))) (.bp 47 [(.aa 10)])) (.ag (.V [93])))] [],.bW 12 (.bp 46 [(.aa 2),(.aa 3),(.aa 16),(.aa 7),(.aa 14),(.aa 10)]),.a7 (.aH .Eq (.aa 16) (.ag (.aF "unset"))) [.bO (B (.aH .Eq (.jj (.fJ (.aa 1) 16 [(.aa 0)]) [B 13,B 15]) (.aa 12)))] [],.a7 (.aH .Eq (.aa 16) (.ag (.aF "append"))) [.bO (B (.aH .Eq (.jj (.bp 22 [(.aa 2),(.aa 0),(.aa 1)]) [B 13,B 14,B 15]) (.aa 12)))] [],.bO (B (.aH .Eq (.jj (.fJ (.aa 2) 15 [(.aa 0),(.a7 (.aH .Eq (.aa 3) (.ag (.aF "turn"))) (.ag .aK) (.aa 1))]) [B 13,B 14,B 15,B 16]) (.aa 12)))]
noncomputable def abM:J cT:=[.a7 (.cA af [(.aH .NotEq (.aa 0) (.ag (.V []))),(.aH .Eq (.lc (.aa 0) [0] (.c0 (.aa 0)) [(.cA ae [(.jI (.jJ .LtE .LtE (.ag (.ac 33)) (.aa 0) (.ag (.ac 126)))),(.aH .In (.aa 0) (.ag (.V [34,39,35,36,37,59,126,92,123,125])))])] [ab]) (.aP ae []))]) [.bO (B (.aa 0))] [],.bW 2 (.ag (.V [])),.gS [1] (.c0 (.aa 0)) [.a7 (.aH .In (.aa 1) (.ag (.V [92,34,36]))) [.bW 2 (.a4 ae .Add (.a4 ae .Add (.aa 2) (.ag (.V [92]))) (.bi ae .V [(.aP ae [(.aa 1)])]))] [.a7 (.jJ .LtE .LtE (.ag (.ac 32)) (.aa 1) (.ag (.ac 126))) [.bW 2 (.a4 ae .Add (.aa 2) (.bi ae .V [(.aP ae [(.aa 1)])]))] [.bW 2 (.a4 ae .Add (.a4 ae .Add (.aa 2) (.ag (.V [92]))) (.bi ae .V [(.aP ae [(.a4 ae .Add (.ag (.ac 48)) (.a4 ae .FloorDiv (.aa 1) (.ag (.ac 64)))),(.a4 ae .Add (.ag (.ac 48)) (.a4 ae .Mod (.a4 ae .FloorDiv (.aa 1) (.ag (.ac 8))) (.ag (.ac 8)))),(.a4 ae .Add (.ag (.ac 48)) (.a4 ae .Mod (.aa 1) (.ag (.ac 8))))])]))]]],.bO (B (.a4 ae .Add (.a4 ae .Add (.ag (.V [34])) (.aa 2)) (.ag (.V [34]))))]
noncomputable def abN:J cT:=[.a7 (.aH .NotEq (.fs (.aa 0) ab (B (.ag (.ac 1)))) (.ag (.V [34]))) [.bO (B (.aa 0))] [],.ig [1,2,3] [(.aP af []),(.ag (.ac 0)),(.fs (.aa 0) (B (.ag (.ac 1))) (B (.vN (.ag (.ac 1)))))],.md (.aH .Lt (.aa 2) (.bi ae .bJ [(.aa 3)])) [.a7 (.aH .NotEq (.bh (.aa 3) (.aa 2)) (.ag (.ac 92))) [.eU (.bm (.aa 1) .eP [(.bh (.aa 3) (.aa 2))]),.bW 2 (.a4 ae .Add (.aa 2) (.ag (.ac 1)))] [.a7 (.jJ .LtE .LtE (.ag (.ac 48)) (.bh (.aa 3) (.a4 ae .Add (.aa 2) (.ag (.ac 1)))) (.ag (.ac 55))) [.eU (.bm (.aa 1) .eP [(.a4 ae .Sub (.a4 ae .Add (.a4 ae .Add (.a4 ae .Mult (.ag (.ac 64)) (.a4 ae .Sub (.bh (.aa 3) (.a4 ae .Add (.aa 2) (.ag (.ac 1)))) (.ag (.ac 48)))) (.a4 ae .Mult (.ag (.ac 8)) (.a4 ae .Sub (.bh (.aa 3) (.a4 ae .Add (.aa 2) (.ag (.ac 2)))) (.ag (.ac 48))))) (.bh (.aa 3) (.a4 ae .Add (.aa 2) (.ag (.ac 3))))) (.ag (.ac 48)))]),.bW 2 (.a4 ae .Add (.aa 2) (.ag (.ac 4)))] [.eU (.bm (.aa 1) .eP [(.bh (.aa 3) (.a4 ae .Add (.aa 2) (.ag (.ac 1))))]),.bW 2 (.a4 ae .Add (.aa 2) (.ag (.ac 2)))]]],.bO (B (.bi ae .V [(.aa 1)]))]
noncomputable def abO:J cT:=[.bW 3 (.aP af []),.gS [4] (.c0 (.bi ae .fS [(.aa 2)])) [.bW 5 (.bp 43 [(.aa 0),(.aa 1),(.aa 4)]),.a7 (.e1 (.ji (.aa 5) 0)) [.bW 3 (.a4 af .Add (.aa 3) (.a7 (.aH .Eq (.aa 5) (.a5 ae [] [])) (.aP ae [(.aa 4)]) (.aP ae []))),.gS [6] (.c0 (.bi ae .fS [(.aa 5)])) [.eU (.bm (.aa 3) .eP [(.a4 ae .Add (.a4 ae .Add (.a4 ae .Add (.a4 ae .Add (.aa 4) (.ag (.V [91]))) (.bp 47 [(.aa 6)])) (.ag (.V [93,32]))) (.bp 49 [(.bh (.aa 5) (.aa 6))]))])]] [.bW 7 (.a7 (.e1 (.ji (.aa 5) 1)) (.bp 47 [(.aa 5)]) (.aa 5)),.a7 (.e1 (.ji (.aa 5) 2)) [.bW 7 (.a7 (.e1 (.aa 5)) (.ag (.V [111,110])) (.ag (.V [111,102,102])))] [],.eU (.bm (.aa 3) .eP [(.a4 ae .Add (.a4 ae .Add (.aa 4) (.ag (.V [32]))) (.bp 49 [(.aa 7)]))])]],.bO (B (.aa 3))]
noncomputable def abP:J cT:=[.ig [3,4] [(.e0 1 [(.aa 0),(.aa 1)]),(.aP af [])],.gS [5] (.c0 (.aa 2)) [.ig [6,7] [(.bm (.aa 5) .oA [(.ag (.V [32]))]),(.bh (.bm (.bh (.bm (.aa 5) .pL [(.ag (.V [32]))]) (.ag (.ac 0))) .pL [(.ag (.V [91]))]) (.ag (.ac 0)))],.a7 (.cA ae [(.aH .Lt (.aa 6) (.ag (.ac 0))),(.cA af [(.aH .In (.ag (.V [91])) (.fs (.aa 5) ab (B (.aa 6)))),(.aH .NotIn (.aa 7) (.aa 4))])]) [.eU (.fJ (.aa 3) 15 [(.aa 7),(.ag (.V []))]),.eU (.bm (.aa 4) .eP [(.aa 7)])] [],.a7 (.aH .GtE (.aa 6) (.ag (.ac 0))) [.eU (.fJ (.aa 3) 15 [(.fs (.aa 5) ab (B (.aa 6))),(.bp 50 [(.fs (.aa 5) (B (.a4 ae .Add (.aa 6) (.ag (.ac 1)))) ab)])])] []],.bO (B (.aa 3))]
noncomputable def Lk:J cT:=[.gS [2] (.qO (.ag (.ac 2))) [.ig [11,3] [(.bh (.bh (.aa 0) (.ag (.aF "scopes"))) (.aa 2)),(.bh (.bh (.aa 0) (.ag (.aF "books"))) (.aa 2))],.gS [4] (.c0 (.bi ae .fS [(.bh (.aa 0) (.ag (.aF "table")))])) [.a7 (.jI (.e1 (.bp 44 [(.aa 0),(.aa 2),(.aa 4)]))) [.yi] [],.ig [5,6] [(.bp 43 [(.aa 0),(.aa 2),(.aa 4)]),(.fJ (.aa 11) 14 [(.aa 4)])],.a7 (.cA ae [(.aH .NotEq (.aa 6) (.aa 5)),(.aH .NotEq (.ji (.aa 6) 2) (.ji (.aa 5) 2))]) [.bO (B (.ag (.be ae)))] [],.bW 7 (.cA ae [(.aH .In (.aa 4) (.aa 3)),(.cA af [(.aH .Eq (.aa 2) (.ag (.ac 1))),(.aH .In (.aa 4) (.bh (.bh (.aa 0) (.ag (.aF "books"))) (.ag (.ac 0))))])]),.a7 (.aH .NotEq (.bp 21 [(.aa 11),(.aa 4)]) (.aa 7)) [.bO (B (.ag (.be ae)))] []],.bW 5 (.bp 43 [(.aa 0),(.aa 2),(.ag (.V [64,120]))]),.a7 (.aH .NotEq (.jj (.fJ (.aa 0) 14 [(.ag (.V [64,120]))]) [B 11]) (.aH .IsNot (.aa 5) (.ag .aK))) [.bO (B (.ag (.be ae)))] [],.a7 (.cA af [(.aH .IsNot (.aa 5) (.ag .aK)),(.aH .NotEq (.fJ (.aa 11) 14 [(.ag (.V [64,120]))]) (.aa 5))]) [.bO (B (.ag (.be ae)))] [],.bW 8 (.bp 51 [(.aa 0),(.aa 2),(.bi ae .br [(.aa 3)])]),.a7 (.aH .NotEq (.bp 26 [(.aa 11)]) (.aa 8)) [.bO (B (.ag (.be ae)))] [],.bW 9 (.bp 52 [(.aa 1),(.a7 (.aH .Eq (.aa 2) (.ag (.ac 0))) (.ag (.aF "window")) (.bh (.aa 0) (.ag (.aF "scope")))),(.aa 8)]),.a7 (.aH .NotEq (.lc (.fJ (.aa 1) 14 [(.aa 0)]) [0] (.c0 (.bi ae .fS [(.aa 3)])) [] [ab,B 9]) (.lc (.bh (.aa 1) (.aa 0)) [0] (.c0 (.bi ae .fS [(.aa 3)])) [] [ab,B 3])) [.bO (B (.ag (.be ae)))] []],.bW 10 (.a4 ae .Add (.bi ae .br [(.bh (.aa 0) (.ag (.aF "table")))]) (.a4 ae .Mult (.aP ae [(.ag (.V [64,120]))]) (.bi ae .ac [(.aH .In (.ag (.V [64,120])) (.bh (.bh (.aa 0) (.ag (.aF "books"))) (.ag (.ac 0))))]))),.bO (B (.aH .Eq (.bp 26 [(.bh (.bh (.aa 0) (.ag (.aF "scopes"))) (.ag (.ac 0))),(.ag (.be af))]) (.bp 51 [(.aa 0),(.ag (.ac 0)),(.aa 10)])))]
noncomputable def abQ:J cT:=[.ig [2,3] [(.bp 38 [(.aa 0),(.aa 1),(.ag (.ac 3))]),(.bp 38 [(.aa 0),(.aa 1),(.a4 ae .Pow (.ag (.ac 2)) (.ag (.ac 24)))])],.bO (B (.bh (.aP ae [(.vN (.ag (.ac 1))),(.a4 ae .Mod (.aa 3) (.ag (.ac 256))),(.a4 ae .Add (.fl 11) (.aa 3))]) (.aa 2)))]
noncomputable def abR:J cT:=[.bW 2 (.bp 38 [(.aa 0),(.aa 1),(.ag (.ac 512))]),.bW 2 (.a4 ae .Add (.a4 ae .Sub (.aa 2) (.a4 ae .Mult (.a4 ae .Mod (.a4 ae .FloorDiv (.aa 2) (.ag (.ac 16))) (.ag (.ac 2))) (.ag (.ac 16)))) (.a4 ae .Mult (.ag (.ac 512)) (.bp 38 [(.aa 0),(.aa 1),(.ag (.ac 6))]))),.bO (B (.aW [(.aa 2),(.bp 54 [(.aa 0),(.aa 1)]),(.bp 54 [(.aa 0),(.aa 1)]),(.bp 54 [(.aa 0),(.aa 1)]),(.ag (.ac 0))]))]
noncomputable def vV:J cT:=[.ig [4,5,6] [(.bp 30 []),(.bp 31 []),(.bp 38 [(.aa 0),(.aa 1),(.ag (.ac 7))])],.bW 7 (.a4 ae .Mod (.a4 ae .FloorDiv (.bh (.aa 2) (.ag (.ac 0))) (.ag (.ac 512))) (.ag (.ac 8))),.a7 (.aH .Lt (.aa 6) (.ag (.ac 2))) [.bW 8 (.bh (.bi ae .fS [(.aa 4)]) (.bp 38 [(.aa 0),(.aa 1),(.bi ae .bJ [(.aa 4)])])),.bW 9 (.a4 ae .Sub (.bh (.aa 2) (.ag (.ac 0))) (.a4 ae .BitAnd (.bh (.aa 2) (.ag (.ac 0))) (.bh (.aa 4) (.aa 8)))),.bO (B (.a7 (.aH .Eq (.aa 6) (.ag (.ac 0))) (.aW [(.aa 8),(.a4 ae .Add (.aW [(.a4 ae .Add (.aa 9) (.bh (.aa 4) (.aa 8)))]) (.fs (.aa 2) (B (.ag (.ac 1))) ab))]) (.aW [(.a4 ae .Add (.ag (.V [110,111])) (.aa 8)),(.a4 ae .Add (.aW [(.aa 9)]) (.fs (.aa 2) (B (.ag (.ac 1))) ab))])))] [],.a7 (.aH .Eq (.aa 6) (.ag (.ac 3))) [.bW 10 (.lc (.aa 0) [0] (.c0 (.bi ae .fS [(.aa 5)])) [(.aH .Eq (.bh (.aa 2) (.aa 0)) (.aa 1))] [ab,B 7,B 5]),.a7 (.aH .NotEq (.aa 10) (.aP ae [])) [.bO (B (.aW [(.a4 ae .Add (.ag (.V [110,111])) (.bh (.aa 10) (.ag (.ac 0)))),(.a4 ae .Add (.aW [(.a4 ae .Sub (.bh (.aa 2) (.ag (.ac 0))) (.a4 ae .Mult (.ag (.ac 512)) (.aa 7)))]) (.fs (.aa 2) (B (.ag (.ac 1))) ab))]))] []] [],.a7 (.aH .Lt (.aa 6) (.ag (.ac 4))) [.bW 8 (.bh (.bi ae .fS [(.aa 5)]) (.bp 38 [(.aa 0),(.aa 1),(.bi ae .bJ [(.aa 5)])])),.bO (B (.aW [(.aa 8),(.a4 ae .Add (.aW [(.a4 ae .Add (.bh (.aa 2) (.ag (.ac 0))) (.a4 ae .Mult (.ag (.ac 512)) (.a4 ae .Sub (.bh (.aa 5) (.aa 8)) (.aa 7))))]) (.fs (.aa 2) (B (.ag (.ac 1))) ab))]))] [],.a7 (.aH .Eq (.aa 6) (.ag (.ac 4))) [.ig [11,12] [(.bp 38 [(.aa 0),(.aa 1),(.ag (.ac 3))]),(.bp 54 [(.aa 0),(.aa 1)])],.bW 13 (.bi af .br [(.aa 2)]),.ih (.aa 13) (.a4 ae .Add (.ag (.ac 1)) (.aa 11)) (.aa 12),.bO (B (.aW [(.a4 ae .Add (.bh (.aP ae [(.ag (.V [102,103,61])),(.ag (.V [98,103,61])),(.ag (.V [117,115,61]))]) (.aa 11)) (.bp 29 [(.aa 12)])),(.bi ae .nH [(.aa 13)])]))] [],.a7 (.aH .Eq (.aa 6) (.ag (.ac 5))) [.bO (B (.aW [(.bh (.aP ae [(.ag (.V [110,111,110,101])),(.ag (.V [110,111,97,116,116,114]))]) (.bp 38 [(.aa 0),(.aa 1),(.ag (.ac 2))])),(.a4 ae .Add (.aW [(.ag (.ac 0))]) (.fs (.aa 2) (B (.ag (.ac 1))) ab))]))] [],.bO (B (.aW [(.ag (.V [100,101,102,97,117,108,116])),(.aa 3)]))]
noncomputable def k2:J cT:=[.ig [2,3] [(.bp 55 [(.aa 0),(.aa 1)]),(.bp 55 [(.aa 0),(.aa 1)])],.ig [4,5] [(.aa 2),(.ag (.V []))],.gS [6] (.qO (.bp 38 [(.aa 0),(.aa 1),(.ag (.ac 5))])) [.sg [7,2] (.bp 56 [(.aa 0),(.aa 1),(.aa 2),(.aa 3)]),.bW 5 (.a4 ae .Add (.a4 ae .Add (.aa 5) (.a7 (.aH .Gt (.aa 6) (.ag (.ac 0))) (.bh (.aP ae [(.ag (.V [44])),(.ag (.V [32]))]) (.bp 38 [(.aa 0),(.aa 1),(.ag (.ac 2))])) (.ag (.V [])))) (.aa 7))],.a7 (.aH .NotEq (.bp 35 [(.aa 4),(.a7 (.aH .Eq (.aa 5) (.ag (.V []))) (.aP ae []) (.bp 33 [(.aa 5)])),(.aa 3)]) (.aa 2)) [.bO (B (.ag (.be ae)))] [],.a7 (.aH .NotEq (.bp 35 [(.fl 12),(.bp 33 [(.bp 36 [(.aa 3)])])]) (.aa 3)) [.bO (B (.ag (.be ae)))] [],.bW 8 (.bp 38 [(.aa 0),(.aa 1),(.ag (.ac 256))]),.bW 9 (.aP ae [(.ag (.V [98,108,97,99,107])),(.ag (.V [114,101,100])),(.ag (.V [103,114,101,101,110])),(.ag (.V [121,101,108,108,111,119])),(.ag (.V [98,108,117,101])),(.ag (.V [109,97,103,101,110,116,97])),(.ag (.V [99,121,97,110])),(.ag (.V [119,104,105,116,101]))]),.bW 10 (.lc (.bp 28 [(.aa 0)]) [0] (.c0 (.aW [(.bh (.aa 9) (.a4 ae .Mod (.aa 8) (.ag (.ac 8)))),(.a4 ae .Add (.ag (.V [99,111,108,111,117,114])) (.bp 47 [(.aa 8)])),(.ag (.V [100,101,102,97,117,108,116])),(.ag (.V [35,48,48,102,102,55,102]))])) [] [ab]),.a7 (.cA ae [(.aH .NotEq (.aa 10) (.aP ae [(.a4 ae .Mod (.aa 8) (.ag (.ac 8))),(.aa 8),(.vN (.ag (.ac 1))),(.a4 ae .Add (.fl 11) (.ag (.ac 65407)))])),(.aH .NotEq (.bp 36 [(.fl 12)]) (.ag (.V [100,101,102,97,117,108,116])))]) [.bO (B (.ag (.be ae)))] [],.a7 (.aH .NotEq (.lc (.bp 28 [(.aa 0)]) [0] (.c0 (.aW [(.ag (.V [99,111,108,111,117,114,50,53,54])),(.ag (.V [114,101,100,100,105,115,104])),(.ag (.V [35,48,48,102,102,55]))])) [] [ab]) (.a4 ae .Mult (.aP ae [(.ag .aK)]) (.ag (.ac 3)))) [.bO (B (.ag (.be ae)))] [],.bO (B (.aH .Eq (.lc (.bp 28 [(.bp 29 [(.aa 0)])]) [0] (.c0 (.fs (.aa 3) (B (.ag (.ac 1))) (B (.ag (.ac 4))))) [] [ab]) (.bi ae .br [(.fs (.aa 3) (B (.ag (.ac 1))) (B (.ag (.ac 4))))])))]
noncomputable def pQ:J cT:=[.ig [1,2] [(.lc (.a4 ae .Mod (.aa 0) (.a4 ae .Pow (.ag (.ac 10)) (.ag (.ac 9)))) [0] (.c0 (.fs (.aa 0) ab (B (.ag (.ac 48))))) [] [ab]),(.aP af [(.ag (.ac 0))])],.bW 3 (.bp 39 []),.bW 4 (.bi ae .bv [(.lc (.aW [(.aa 0),(.e0 0 [(.bh (.bh (.aa 1) (.aa 0)) (.ag (.ac 0))),(.bh (.bh (.aa 1) (.aa 0)) (.ag (.ac 1))),(.bh (.bh (.aa 1) (.aa 0)) (.ag (.ac 2))),(.bh (.bh (.aa 1) (.aa 0)) (.ag (.ac 3)))])]) [0] (.c0 (.aa 3)) [] [ab,B 3])]),.bW 5 (.bh (.aP ae [(.ag (.aF "pane")),(.ag (.aF "window"))]) (.bp 38 [(.aa 1),(.aa 2),(.ag (.ac 2))])),.bW 6 (.e0 1 [(.aa 4),(.ag (.aF "window"))]),.bW 7 (.a5 ae [(.ag (.aF "table")),(.ag (.aF "scope")),(.ag (.aF "scopes")),(.ag (.aF "books"))] [(.bp 39 []),(.aa 5),(.aP ae [(.aa 6),(.e0 1 [(.aa 4),(.aa 5),(.aa 6)])]),(.aP ae [(.a5 af [] []),(.a5 af [] [])])]),.gS [8] (.qO (.bp 38 [(.aa 1),(.aa 2),(.ag (.ac 7))])) [.a7 (.jI (.e1 (.bp 48 [(.aa 1),(.aa 2),(.aa 7)]))) [.bO (B (.ag (.be ae)))] []],.bO (B (.cA af [(.bp 53 [(.aa 7),(.aa 4)]),(.bp 57 [(.aa 1),(.aa 2)])]))]
noncomputable def Bc:J t2:=[⟨1,2,[],abe⟩,⟨1,2,[],abf⟩,⟨1,0,[],abg⟩,⟨3,0,[],abh⟩,⟨1,0,[],abi⟩,⟨2,0,[],abj⟩,⟨1,0,[],abk⟩,⟨1,0,[],abl⟩,⟨3,0,[],abm⟩,⟨1,0,[],abn⟩,⟨1,2,[],abo⟩,⟨2,1,[],SX⟩,⟨2,0,[],abp⟩,⟨2,0,[],abq⟩,⟨2,2,[],SY⟩,⟨3,4,[.aK],S0⟩,⟨2,4,[],abr⟩,⟨2,4,[],S1⟩,⟨4,2,[],oI⟩,⟨3,1,[],abt⟩,⟨2,3,[],abu⟩,⟨2,1,[],abv⟩,⟨3,4,[],S2⟩,⟨1,3,[],abw⟩,⟨2,0,[],abx⟩,⟨3,1,[],aby⟩,⟨2,4,[.be ae],S3⟩,⟨0,0,[],abz⟩,⟨1,5,[],FE⟩,⟨1,1,[],abA⟩,⟨0,0,[],abB⟩,⟨0,0,[],abC⟩,⟨1,7,[],FF⟩,⟨1,3,[],abD⟩,⟨2,3,[],Lj⟩,⟨3,3,[.aW [.ac 0,.ac (-1),.ac (-1),.ac (-1),.ac 0]],abE⟩,⟨1,7,[],yq⟩,⟨0,0,[],abF⟩,⟨3,0,[],abG⟩,⟨0,1,[],abH⟩,⟨1,1,[],abI⟩,⟨1,0,[],abJ⟩,⟨3,2,[],S4⟩,⟨3,1,[],S5⟩,⟨3,0,[],abK⟩,⟨3,2,[],S6⟩,⟨6,7,[],S7⟩,⟨1,0,[],abL⟩,⟨3,14,[],kG⟩,⟨1,2,[],abM⟩,⟨1,3,[],abN⟩,⟨3,5,[],abO⟩,⟨3,5,[],abP⟩,⟨2,10,[],Lk⟩,⟨2,2,[],abQ⟩,⟨2,1,[],abR⟩,⟨4,10,[],vV⟩,⟨2,9,[],k2⟩,⟨1,8,[],pQ⟩]
noncomputable def yr (i:ah):ax t2:=Bc[i]?
section
variable {s:a3}{K:a0}{h aj:b8}{k:bf}
theorem cQ.of (h:bF o P):cQ o P:=by
 induction o with
 |none=>exact h.elim
 |some a=>exact .mk rfl h
theorem ys (h:bS o f y):cQ o f∨y:=by
 induction o with
 |none=>exact .inr h
 |some a=>exact .inl (.mk rfl h)
theorem gE {P:Prop}(h:bF o F)(k:∀a,o=B a→F a→P):P:=by
 induction o with
 |none=>exact h.elim
 |some a=>exact k a rfl h
theorem aE.i (i:aq)(t:dv):aE g h N O (.ac i) (.int i t):=.mk t
theorem aE.b (b:J am)(t:dv):aE g h N O (.V b) (.bytes b.toArray t):=.mk t
theorem aE.x (x:aO)(t:dv):aE g h N O (.aF x) (.str x t):=.mk t
theorem aE.o (b:aZ):aE g h N O (.be b) (.bool b):=.mk ()
theorem aE.z:aE g h N O .aK .none:=.mk ()
theorem oJ {d:D}(e:d.eK=B i):d=.ac i:=by cases d<;>first|exact gz e|exact bl D.ac (bo e)
theorem pR {d:D}(e:d.f5=B b):d=.V b:=by cases d<;>first|exact gz e|exact bl D.V (bo e)
theorem vW {d:D}(e:d.me=B b):d=.aW b:=by cases d<;>first|exact gz e|exact bl D.aW (bo e)
theorem S8 {d:D}(e:d.oB=B b):d=.aP b:=by cases d<;>first|exact gz e|exact bl D.aP (bo e)
theorem abS {d:D}(e:d.mf=B b):d=.a5 b:=by cases d<;>first|exact gz e|exact bl D.a5 (bo e)
theorem Ll {d:D}(e:d.yj=B b):d=.bb b:=by cases d<;>first|exact gz e|exact bl D.bb (bo e)
theorem Lm {d:D}(e:d.no=af):d=.aK:=by cases d<;>first|rfl|exact(dO e).elim
theorem ml (e:dW l=B a):l=[a]:=by
 induction l with
 |nil=>exact gz e
 |cons b r=>induction r with|nil=>exact bl (fun x=>[x]) (bo e)|cons=>exact gz e
theorem yt (e:mU l=B p):l=[p.1,p.2]:=by
 cases l with
 |nil=>exact gz e
 |cons a r=>cases r with
  |nil=>exact gz e
  |cons b r=>induction r with|nil=>exact cN (bo e) rfl|cons=>exact gz e
theorem fe.dV {K:d0→J ap→Prop}(H:aR g s.heap N O hp)(r:R s.heap N b a)(k:K b hp):fe g A aS O N s R K a {s with toks:=t}:=.mk .dV H r k
theorem hZ (h:b8):h.get? h.objs.size=ab:=rZ (a8 _)
theorem fV (b:aC)(cO:ee):h.get? b=B cO→(h.push o).get? b=B cO:=lx _
theorem cz.cw (H:aR g h N O hp)(k:∀b o,h.get? b=B o→aj.get? b=B o):cz N O N O h aj:=.pE (fun b o e I=>k b o e) (fun I I I o=>o) fun I I e=>e
theorem aR.nC (H:aR g s.heap N O hp):hs N O s.heap.objs.size:=H.ma (hZ _)
theorem b9.yf {k:dv}(hk:∀b o,s.heap.get? b=B o→h.get? b=B o)(b0:s.heap.get? a=ab):b9 A aS N s (N++[a]) {s with heap:=h,toks:=k}:=
 ⟨.of hk,fun I I I I e cR n=>bo ((hk _ _ e).symm.trans cR)▸n,⟨_,rfl⟩,.aaV b0,rfl,rfl,rfl⟩
theorem Bd (H:aR g h N O hp):(N++[a])[hp.length]?=B a:=by refine Y (H.bJ ..) (Y (Ab (a8 _)) (Y (xD ..) ?_));rfl
theorem fe.e0 (H:aR g s.heap N O hp)(hk:∀b o,s.heap.get? b=B o→h.get? b=B o)(b0:s.heap.get? a=ab)(q:hX m o K4 hp K)(bC:ht g h (N++[a]) O a o)(hf:hs N O a→aE g h N O K4 (.ref a)):
  fe g A [] O N s (fun h N=>aE g h N O) K (.ref a) {s with heap:=h,toks:=t}:=by
 induction m with
 |false=>exact .mk (.e7 hk) (H.tO hk) (hf (H.ma b0)) q
 |true=>exact .mk (b:=.bb hp.length) (.yf hk b0) (H.KX hk b0 bC) (f0.mk (Bd H) cy) q
theorem fe.Ln (H:aR g s.heap N O hp)(q:hX m (.br l) (.aP l) hp K)(aL:cp g s.heap N O l vs):
  fe g A [] O N s (fun h N=>aE g h N O) K (.ref s.heap.objs.size) {s with heap:=s.heap.push {cls:=.type "list",data:=.seq vs.toArray},toks:=t}:=
 .e0 H fV (hZ _) q (.mk (ic _ rfl) ((cz.app (hZ _) fV).vs aL)) fun f=>.mk f (.mk (ic _ rfl) ((cz.cw H fV).vs aL))
theorem fe.Lo (H:aR g s.heap N O hp)(q:K (.aW l) hp)(aL:cp g s.heap N O l vs):
  fe g A [] O N s (fun h N=>aE g h N O) K (.ref s.heap.objs.size) {s with heap:=s.heap.push {cls:=.type "tuple",data:=.seq vs.toArray},toks:=t}:=
 .mk (b:=.aW l) (.e7 fV) (H.j3 _) (f0.mk H.nC (.mk (ic _ rfl) ((cz.cw H fV).vs aL))) q
theorem fe.fq (H:aR g s.heap N O hp)(hi:N[i]?=B p)(aG:hq p s.heap h)(bC:ht g h N O p o)(av:aE g h N O d v)(q:K d (hp.set i o)):
  fe g A [] O N s (fun h N=>aE g h N O) K v {s with heap:=h,toks:=t}:=
 .mk ⟨⟨Fj aG (bC.ey.imp fun I z=>z.1),fun b I e n I I=>.qK ((aG.2 b fun q=>n (q▸gZ hi)).trans e)⟩,fun I m=>(dz m),tm _,.iX _ _,rfl,rfl,rfl⟩ (H.fq hi aG bC) av q
theorem cz.fq {i:ah}(hi:N[i]?=B p)(aG:hq p h aj):cz N O N O h aj:=.at aG fun o=>o.r (gZ hi)
abbrev Be (W:aC→Prop):au→Prop:=f0 (·∉l9) W
theorem nN (H:aR g h N O hp)(e:hp[i]?=B o)(av:aE g h N O (.bb i) v):f0 (fun p=>N[i]?=B p∧p∉l9) (fun p=>ht g h N O p o) v:=by
 induction av with|mk hi=>exact .mk ⟨hi,H.Fi (H.lo _ (gZ hi)).1⟩ (H.pG i _ o hi e)
theorem nO {α d0:Type}{o:ax α}{f:α→ax d0}{b:d0}(e:o.bind f=B b):cQ o fun a=>f a=B b:=
 (i6.mp e).elim fun I z=>.mk z.1 z.2
theorem abT {o:ap}(e:o.oB=B l):o=.br l:=by induction o<;>first|exact gz e|exact bl ap.br (bo e)
theorem Lp {o:ap}(e:o.mf=B l):o=.bv l:=by induction o<;>first|exact gz e|exact bl ap.bv (bo e)
theorem abU {o:ap}(e:o.f5=B l):o=.er l:=by induction o<;>first|exact gz e|exact bl ap.er (bo e)
theorem oK (H:aR g h N O hp)(x:gB hp d=B l)(av:aE g h N O d v):Be (fun p=>kz "list" h p (cp g h N O l)) v:=by
 cases d<;>first|exact gz x|skip
 ·exact av.g8 fun p a b=>⟨a.s,bo x▸b⟩
 ·induction nO x with|mk e q=>exact(nN H (abT q▸e) av).g8 fun p a b=>⟨a.2,b⟩
theorem oL (H:aR g h N O hp)(x:fK hp d=B l)(av:aE g h N O d v):Be (fun p=>jd g h p (dA g h N O l)) v:=by
 cases d<;>first|exact gz x|skip
 ·exact av.g8 fun p a b=>⟨a.s,bo x▸b⟩
 ·induction nO x with|mk e q=>exact(nN H (Lp q▸e) av).g8 fun p a b=>⟨a.2,b⟩
theorem Bf (H:aR g h N O hp)(x:nJ hp d=B l)(av:aE g h N O d v):(d=.aW l∧Be (fun p=>kz "tuple" h p (cp g h N O l)) v)∨(d.me=ab∧Be (fun p=>kz "list" h p (cp g h N O l)) v):=by
 cases d<;>first|exact gz x|exact .inr ⟨rfl,oK (d:=.aP _) H x av⟩|exact .inr ⟨rfl,oK (d:=.bb _) H x av⟩|skip
 cases bo x
 exact .inl ⟨rfl,av.g8 fun p a b=>⟨a.s,b⟩⟩
theorem abV (x:dy d=B k):d=k.d:=by cases d<;>first|exact gz x|exact bl bf.d (bo x)
theorem abW (av:aE g h N O k.d v):k.is v=af:=by
 induction k<;>induction av<;>exact eO rfl
theorem nP (x:dy d=B k)(av:aE g h N O d v):k.is v=af:=abW (abV x▸av)
theorem bf.h1 (x:k.is v=af):aE g h N O k.d v:=bf.r4 (P:=fun k v=>aE g h N O k.d v) (.mk ()) (fun I t=>.mk t) (fun I t=>.mk t) (fun I t=>.mk t) x
theorem dA.fv (x:dA g h N O l kvs):∀{d:D},cB l k=B d→cQ (xU kvs k) (aE g h N O d):=by
 refine x.ind (P:=fun l kvs=>∀{d:D},cB l k=B d→cQ (xU kvs k) (aE g h N O d)) (fun e=>gz e) fun c2 k3 Bg l vs a I az d e=>?_
 rw[xU,xw]
 rw[cB,xw] at e
 by_cases q:c2=k
 ·refine Y (show a9 ((c2,Bg).1=k)=af from eO q) ?_
  rw[show a9 ((c2,k3).1=k)=af from eO q] at e
  exact .mk rfl (bo e▸a)
 ·refine Y (show a9 ((c2,Bg).1=k)=ae from jZ q) ?_
  rw[show a9 ((c2,k3).1=k)=ae from jZ q] at e
  exact az e
theorem dA.S9 (x:dA g h N O l kvs):(kvs.any fun p=>p.1=k)=d2 l k:=by
 have e:∀l:J (bf×D),d2 l k=(l.map (·.1)).any fun q=>a9 (q=k):=fun l=>by refine Y El ?_;rfl
 have cR:∀l:J (bf×au),(l.any fun p=>a9 (p.1=k))=(l.map (·.1)).any fun q=>a9 (q=k):=fun l=>by refine Y El ?_;rfl
 rw[e,cR,x.oy]
theorem abX {α:Type}{l:J (bf×α)}(e:(l.any fun p=>p.1=k)=ae):(l.find? fun p=>p.1=k).map (·.2)=ab:=by
 rw[Af] at e
 refine Y (Ea.mpr e) ?_;rfl
theorem Lq (e:cB l k=ab):d2 l k=ae:=by
 unfold cB at e
 rw[QV,Ea] at e
 exact Af.mpr e
theorem dA.aK (x:dA g h N O l kvs)(e:cB l k=ab):xU kvs k=ab:=abX (x.S9.trans (Lq e))
theorem dA.g8 (av:aE g h N O d v)(x:dA g h N O l kvs):dA g h N O (l.map fun p=>if p.1=k then(p.1,d)else p) (kvs.map fun p=>if p.1=k then(p.1,v)else p):=by
 refine x.ind (P:=fun l kvs=>dA g h N O (l.map fun p=>if p.1=k then(p.1,d)else p) (kvs.map fun p=>if p.1=k then(p.1,v)else p)) .mk fun c2 k3 Bg l vs a I az=>?_
 refine Y h8 (Y h8 ?_)
 by_cases q:c2=k
 ·exact Y (b3 q) (Y (b3 q) (.mk (.mk av) az))
 ·exact Y (bL q) (Y (bL q) (.mk (.mk a) az))
theorem dA.app (x:dA g h N O l kvs)(y:dA g h N O m us):dA g h N O (l++m) (kvs++us):=x.ind (P:=fun l vs=>dA g h N O (l++m) (vs++us)) y fun I I I I I a I r=>.mk (.mk a) r
theorem dA.Lr (x:dA g h N O l kvs)(av:aE g h N O d v):dA g h N O (cC l k d) (EC kvs k v):=by
 unfold EC cC
 rw[x.S9,d2]
 split
 ·exact x.g8 av
 ·exact x.app (.mk (.mk av) .mk)
theorem dA.abY (x:dA g h N O l kvs):dA g h N O (kX l k) (JL kvs k):=by
 refine x.ind (P:=fun l kvs=>dA g h N O (kX l k) (JL kvs k)) .mk fun c2 k3 Bg l vs a I az=>?_
 unfold kX JL at *
 refine Y om (Y om ?_)
 by_cases q:c2=k
 ·exact Y (bL (fun h=>(dg h:c2≠k) q)) (Y (bL (fun h=>(dg h:c2≠k) q)) az)
 ·exact Y (b3 (eO q)) (Y (b3 (eO q)) (.mk (.mk a) az))
end
section
open PySem.SeqAt
section
variable {s:a3}{K:a0}
theorem Ta (l m:J au):l.toArray++m.toArray=(l++m).toArray:=vc ..
theorem abZ (H:aR g s.heap N O hp)(bP:aE g s.heap N O a u)(av:aE g s.heap N O b v)(h:SJ m hp K a b):eF g A O N s (xR .Add u v) K X:=by
 induction cQ.of h with|mk jL h=>
 induction cQ.of h with|mk jo h=>
 induction oK H jL bP with|mk _ w=>
 induction w with|@mk vs n lF t4=>
 induction oK H jo av with|mk _ w=>
 induction w with|@mk ws jM oM yu=>
 refine concat_meets ⟨_,lF,rfl⟩ ⟨_,oM,rfl⟩ noFill_list_add seq_list_add PySem.F.slot_list_add PySem.F.entry_list_add (PySem.F.args_list_add_2 _ _) (list_addW _ _ vs.toArray ws.toArray n jM _ _ _ _ ?_) ⟨lF,oM,?_⟩
 ·exact Y dD (Y dD (Y t4.bJ (Y yu.bJ (ao h.1 (by decide)))))
 ·rw[Ta];exact .Ln H h.2 (t4.app yu)
theorem ab0 (H:aR g s.heap N O hp)(bP:aE g s.heap N O (.aW l) u)(av:aE g s.heap N O (.aW r) v)(h:l.length+r.length≤1000∧K (.aW (l++r)) hp):eF g A O N s (xR .Add u v) K X:=by
 have ab1:=bP
 have tW:=av
 induction bP with|mk _ w=>
 induction w with|@mk vs n lF t4=>
 induction av with|mk _ w=>
 induction w with|@mk ws jM oM yu=>
 have hk:=h.2
 have z:=fun {Q:dc→(l5→a3→Prop)→a3→Prop} (w:pu (Builtin.«tuple.__add__» _) Q) (q)=>concat_meets (prog:=g.p) (w:=g.w) (A:=A) (s:=s) (E:=gR g A [] O N s X) (Q:=fe g A [] O N s (fun h N=>aE g h N O) K) (T:="tuple") (a:=.ref _) (b:=.ref _) ⟨_,lF,rfl⟩ ⟨_,oM,rfl⟩ noFill_tuple_add seq_tuple_add PySem.F.slot_tuple_add PySem.F.entry_tuple_add (PySem.F.args_tuple_add_2 _ _) w q
 induction vs with
 |nil=>
  induction l with|cons=>cases t4|nil=>
  exact z (tuple_addW0 _ _ _ ws.toArray n jM _ _ _ _ rfl) ⟨lF,oM,.dj H tW hk⟩
 |cons x vs=>
  induction ws with
  |nil=>
   induction r with|cons=>cases yu|nil=>
   rw[en] at hk
   exact z (tuple_addW1 _ _ (x::vs).toArray ([]:J au).toArray n jM _ _ _ _ dO rfl) ⟨lF,oM,.dj H ab1 hk⟩
  |cons y ws=>
   refine z (tuple_addW2 _ _ (x::vs).toArray (y::ws).toArray n jM _ _ _ _ dO dO ?_) ⟨lF,oM,?_⟩
   ·exact Y dD (Y dD (Y t4.bJ (Y yu.bJ (ao h.1 (by decide)))))
   ·rw[Ta];exact .Lo H hk (t4.app yu)
theorem ab2 (H:aR g s.heap N O hp)(bP:aE g s.heap N O a u)(av:aE g s.heap N O b v)(h:SK m hp K a b):eF g A O N s (xR .Add u v) K X:=by
 cases a<;>first|exact abZ H bP av h|obtain⟨e,h⟩:=cQ.of h
 ·cases oJ e;induction bP;induction av;exact add_int (.dV H (aE.i _ _) h)
 ·cases pR e;induction bP;induction av
  refine KBy.add_bytes (by refine dD▸dD▸?_;exact h.1) fun t k=>?_
  exact Y (vc ..) (.dV H (aE.b _ _) h.2)
 ·cases vW e;exact ab0 H bP av h
theorem ab3 (H:aR g s.heap N O hp)(bP:aE g s.heap N O (.aP l) u)(h:(0≤j∧j≤3∧l.length≤3)∧K (.aP (qw j.toNat l).flatten) hp):
  eF g A O N s (xR .Mult u (.int j t)) K X:=by
 induction bP with|@mk p qU w=>
 induction w with|@mk vs k aw aL=>
 have hK:vs.toArray.size *j.toNat≤3 *3:=Nat.mul_le_mul (by rw[dD,aL.bJ];exact h.1.2.2) (Int.toNat_le.mpr h.1.2.1)
 refine wpAny_binaryOp_repeat_ref (T:="list") (U:="int") (by decide) ⟨_,aw,rfl⟩ (fun ar=>tB ar j t) noFill_list_mul F.fills_int_mul R6 repeat_list F.slot_int_index.lookup
  (EF R6 (tB s j t) F.entry_int_rmul (F.args_int_rmul_2 _ _) (int___rmul___int_list j t p vs.toArray k)
   ⟨aw,rfl,⟨_,aw,rfl⟩,EF F.slot_list_mul ⟨_,aw,rfl⟩ F.entry_list_mul (F.args_list_mul_2 _ _)
    (AutoListH.list___mul___list_int_3 p vs.toArray k j t (by simp[aaq];omega) (by omega) (fun q=>cr (ts (dg q:kT < _) hK) (by decide)))
    ⟨aw,?_⟩⟩)
 have go:∀(k:ah) (acc:J au),Jf (fun nQ pS:dn au=>nQ++pS) acc.toArray (qw k vs.toArray)=(acc++(qw k vs).flatten).toArray:=fun k=>by
  induction k with
  |zero=>intro acc;rw[Qg,Qg,List.flatten_nil,en];rfl
  |succ k az=>intro acc;rw[D6,tp,vc,az,D6,Ed,dE]
 have e:Jf (fun nQ pS:dn au=>nQ++pS) #[] (qw (if vs.toArray.isEmpty=af then 0 else j.toNat) vs.toArray)=(qw j.toNat vs).flatten.toArray:=by
  refine(go _ []).trans (bl _ ?_)
  rw[Ah]
  induction vs with
  |nil=>exact(List.flatten_eq_nil_iff.mpr fun I m=>(Qi.mp m).2).symm
  |cons=>rfl
 have ab4:∀k:ah,cp g s.heap N O (qw k l).flatten (qw k vs).flatten:=fun k=>by
  induction k with
  |zero=>exact .mk
  |succ k az=>rw[D6,Ed,D6,Ed];exact aL.app az
 rw[e]
 exact .Ln (m:=ae) H h.2 (ab4 _)
theorem Tb (h:kY a b P)(bP:aE g s.heap N O a u)(av:aE g s.heap N O b v){C:au→au→Prop}(k:∀i j t t',P i j→C (.int i t) (.int j t')):C u v:=by
 induction cQ.of h with|mk e h=>
 induction cQ.of h with|mk cR h=>
 cases oJ e;cases oJ cR
 induction bP;induction av
 exact k _ _ _ _ h
theorem ab5 (H:aR g s.heap N O hp)(bP:aE g s.heap N O a u)(av:aE g s.heap N O b v)(h:pM m op a b hp K):eF g A O N s (xR op u v) K X:=by
 have aD:=fun {P:aq→aq→Prop} (h:kY a b P)=>Tb h bP av (C:=fun u v=>eF g A O N s (xR op u v) K X)
 induction op with
 |Add=>exact ab2 H bP av h
 |Mult=>
  have z:=fun(h:kY a b fun i j=>(kB i∧kB j)∧K (.ac (i *j)) hp)=>aD h fun I I I I h=>mul_int (.dV H (aE.i _ _) h.2) (.of_left (intBits_le h.1.1))
  cases a<;>first|exact z h|skip
  induction cQ.of h with|mk e h=>
  cases oJ e;induction av
  exact ab3 H bP h
 |Sub=>exact aD h fun I I I I h=>sub_int (.dV H (aE.i _ _) h)
 |FloorDiv=>exact aD h fun I I I I h=>floordiv_int h.1.1 (.dV H (aE.i _ _) h.2) (.inl (PyProof.noPylong_small h.1.2))
 |Mod=>exact aD h fun I I I I h=>mod_int h.1 (.dV H (aE.i _ _) h.2)
 |Pow=>exact aD h fun I I I I h=>pow_int_small h.1.1 (by have:=h.1.2.1;omega) (by have:=h.1.2.2;omega) (.dV H (aE.i _ _) h.2)
 |LShift=>exact aD h fun I I I I h=>lshift_int_small h.1.1 (by have:=h.1.2.1;omega) h.1.2.2 (.dV H (aE.i _ _) h.2)
 |RShift=>exact aD h fun I I I I h=>rshift_int h.1 (.dV H (aE.i _ _) h.2)
 |BitAnd=>exact aD h fun I I I I h=>and_int (.dV H (aE.i _ _) h)
 |BitOr=>exact aD h fun I I I I h=>or_int (.dV H (aE.i _ _) h)
 |_=>exact h.elim
theorem Ls {K:aZ→J ap→Prop}(H:aR g s.heap N O hp)(av:aE g s.heap N O a v)(h:si a fun b=>K b hp):aa0 g A O N s (ES v) K X:=by
 cases a<;>first|exact h.elim|cases av
 ·exact xH (.dj H rfl h)
 ·exact E' (.dj H rfl h)
theorem ab6 (H:aR g s.heap N O hp)(h:bF a.eK fun i=>K (.ac (-i)) hp)(av:aE g s.heap N O a v):eF g A O N s (EM .USub v) K X:=by
 induction cQ.of h with|mk e h=>cases oJ e;induction av;exact Q4 (.dV H (aE.i _ _) h)
theorem ab7 (H:aR g s.heap N O hp)(h:bF a.eK fun i=>K (.ac (qE i)) hp)(av:aE g s.heap N O a v):eF g A O N s (EM .Invert v) K X:=by
 induction cQ.of h with|mk e h=>cases oJ e;induction av;exact invert_int (.dV H (aE.i _ _) h)
end
end
section
open PySem.SeqAt
theorem RcAt.AS (b c:dn am)(t u:dv):pA A s (.bytes b t) (.bytes c u) (b.toList==c.toList):=fun I I I I h=>eq_bytes h
theorem RcNeAt.AS (b c:dn am)(t u:dv):RcNeAt A s (.bytes b t) (.bytes c u) (b.toList !=c.toList):=fun I I I I h=>ne_bytes h
structure FG (A:dc)(s:a3)(v u:au):Prop where
 jo:jX A s v u af
 rc:pA A s v u af
 ne:RcNeAt A s v u ae
abbrev ab8 (g:ci)(A:dc)(s:a3)(v:au)(u:au):Prop:=∀(E:au→a3→Prop) (Q:aZ→a3→Prop),Q af s→bM (bB g.p g.w) A (eqBool v u) Q E s
abbrev ab9 (g:ci)(A:dc)(s:a3)(v:au)(u:au):Prop:=∀(ne:aZ) (E:au→a3→Prop) (Q:au→a3→Prop),Q (.bool !ne) s→bM (bB g.p g.w) A (JQ (if ne then .NotEq else .Eq) v u) Q E s
structure lG (g:ci)(A:dc)(s:a3)(v u:au):Prop where
 jo:ab8 g A s v u
 aH:ab9 g A s v u
theorem lG.of (x:FG A s v u):lG g A s v u:=⟨x.jo g.p g.w,fun ne=>by induction ne;exact x.rc g.p g.w;exact x.ne g.p g.w⟩
theorem aca (g:ci){k:bf}(av:k.is v=af)(bP:k.is u=af):FG A s v u:=by
 refine⟨fun p w E Q h=>(hF p w).eqBool (a:=k) (b:=k) av bP (by refine Y (eO rfl) ?_;exact h),?_,?_⟩<;>intro p w E Q h<;>induction k<;>induction(bf.h1 (g:=g) (N:=[]) (O:=[]) (h:=s.heap) av)<;>induction(bf.h1 (g:=g) (N:=[]) (O:=[]) (h:=s.heap) bP)
 ·exact Si _ _ _ _ h
 ·exact RcAt.int_int _ _ _ _ _ _ _ _ (Y (ie ..) h)
 ·exact RcAt.AS _ _ _ _ _ _ _ _ (Y (ie ..) h)
 ·exact RcAt.str_str _ _ _ _ _ _ _ _ (by exact Y (ie ..) h)
 ·exact Sj _ _ _ _ h
 ·exact RcNeAt.int_int _ _ _ _ _ _ _ _ (by refine Y (ie ..) ?_;exact h)
 ·exact RcNeAt.AS _ _ _ _ _ _ _ _ (by refine Y (tJ ..) ?_;exact h)
 ·exact RcNeAt.str_str _ _ _ _ _ _ _ _ (by refine Y (ie ..) ?_;exact h)
theorem Lu (e:hY a b=af)(av:aE g h N O a v)(bP:aE g h N O b u):FG A s v u:=by
 unfold hY at e
 induction jL:dy a with
 |some x=>
  induction jo:dy b with
  |some y=>
   have e:=jo▸(jL▸e)
   cases dg (show a9 (x=y)=af from e)
   exact aca g (nP jL av) (nP jo bP)
  |none=>rw[jL,jo] at e;exact nb e
 |none=>
  rw[jL] at e
  cases a<;>first| (exact nb e;done)|skip
  cases b<;>first| (exact nb e;done)|skip
  induction av;induction bP
  cases c9 (show(_==_)=af from e)
  exact⟨Kq _,fun I I I I h=>RcAt.bool_bool _ _ _ _ _ _ (Y (ie ..) h),fun I I I I h=>RcNeAt.bool_bool _ _ _ _ _ _ (Y (ie ..) h)⟩
theorem lG.Lv (c:∀(ne:aZ) (E:au→a3→Prop) (Q:au→a3→Prop),Q (.bool !ne) s→bM (bB g.p g.w) A (JQ (if ne then .NotEq else .Eq) (.ref p) (.ref q)) Q E s):lG g A s (.ref p) (.ref q):=by
 refine⟨fun E Q bH=>?_,c⟩
 by_cases h:p=q
 ·subst h;exact Kq _ _ _ _ _ bH
 ·exact pq (Rp (fun z=>cr (tI (c9 z)) h) fun I=>aX (c ae E _ (xH bH)))
theorem Lw:∀{l m:J D},mV f l m=af→l.length=m.length
 | [],m,h=>(ks.mp h).symm▸rfl
 |_::_,[],h=>cr h dO
 |_::_,_::_,h=>bl (·+1) (Lw (ct.mp h).2)
theorem Tc {P:au→au→Prop}(k:∀x y v u,f x y=af→aE g h N O x v→aE g h N O y u→P v u):∀{l m:J D} {vs us:J au},mV f l m=af→cp g h N O l vs→cp g h N O m us→∀(j:ah) (aY:j < vs.length) (bu:j < us.length),P vs[j] us[j]:=by
 intro l
 induction l with
 |nil=>
  intro m vs us I r I j aY
  induction r;exact cr aY (Er _)
 |cons x l az=>
  intro m vs us h r Lx j
  induction m with
  |nil=>exact nb h
  |cons y m=>
   induction r with|mk a r=>
   induction Lx with|mk b Lx=>
   induction j with
   |zero=>exact fun I I=>k _ _ _ _ (ct.mp h).1 a b
   |succ j=>exact fun aY bu=>az (ct.mp h).2 r Lx j (Ak aY) (Ak bu)
theorem Td (n:ah):(g0 n).all (fun I=>af)=af:=gy.mpr fun I I=>rfl
theorem lG.acb (hp:s.heap.get? p=B (hU "tuple" vs n))(bH:s.heap.get? q=B (hU "tuple" us gm))(aL:cp g s.heap N O l vs)(ix:cp g s.heap N O m us)(e:mV hY l m=af)(bP:A.units < l7):lG g A s (.ref p) (.ref q):=by
 have aY:s.heap.IsTuple p vs.toArray:=⟨_,hp,rfl,n,rfl⟩
 have bu:s.heap.IsTuple q us.toArray:=⟨_,bH,rfl,gm,rfl⟩
 have cu:(vs.toArray.size==us.toArray.size)=af:=Y dD (Y dD (Y aL.bJ (Y ix.bJ (Y (Lw e) (ie _)))))
 have fg:∀j (aY:j < vs.toArray.size) (bu:j < us.toArray.size),jX A.in1 s vs.toArray[j] us.toArray[j] ((fun I=>af) j):=fun j a b=>(Tc (P:=FG A.in1 s) (fun I I I I=>Lu) e aL ix j a b).jo
 refine .Lv fun ne E Q h=>?_
 induction ne
 ·exact RcAt.tuples (A:=A) aY bu bP fg _ _ _ _ (Y (Td ..) (Y cu h))
 ·exact RcNeAt.tuples (A:=A) aY bu bP fg _ _ _ _ (Y (Td ..) (Y cu h))
theorem Te (ay:dA g h N O m kb)(x:dA g h N O l j4)(e:pN m l=af):KeqHits A s kb j4 af:=by
 induction l generalizing j4 with
 |nil=>induction x;exact .nil
 |cons p l az=>
  induction x with|mk a r=>
  induction a with|mk a=>
  have e:bS (cB m p.1) (fun y=>hY p.2 y&&pN m l) ae=af:=e
  induction q:cB m p.1 with
  |none=>have e:=q▸e;exact nb e
  |some y=>
   rw[q] at e
   have e:=ct.mp (show(hY p.2 y&&pN m l)=af from e)
   induction ay.fv q with|mk bP m3=>
   exact KeqHits.hit (e:=af) (b:=af) bP (Lu e.1 a m3).jo (az r e.2)
theorem lG.acd (hp:nB g s.heap p j4)(bH:nB g s.heap q kb)(c3:p∉l9)(hU:q∉l9)(vX:dA g s.heap N O l j4)(Bh:dA g s.heap N O m kb)(e:(l.length==m.length&&pN m l)=af)(bP:A.units < l7):lG g A s (.ref p) (.ref q):=by
 have e:=ct.mp e
 have dq:(j4.length==kb.length)=af:=Y vX.bJ (Y Bh.bJ e.1)
 have ns:∀{p:aC},p∉l9→(p==Ax)=ae:=fun n=>jY.mpr fun z=>n (z▸.head _)
 refine .Lv fun ne E Q h=>?_
 induction ne
 ·exact keq_eq (ns c3) (ns hU) hp bH bP (fun I=>Te Bh vX e.2) (Y dq h)
 ·exact keq_ne (ns c3) (ns hU) hp bH bP (fun I=>Te Bh vX e.2) (Y dq h)
theorem Tf (H:aR g s.heap N O hp)(e:kC hp a b=af)(av:aE g s.heap N O a v)(bP:aE g s.heap N O b u)(jN:A.units < l7):lG g A s v u:=by
 unfold kC at e
 induction dq:fK hp a with
 |none=>have e:=dq▸e;exact .of (Lu e av bP)
 |some l=>
  induction em:fK hp b with
  |none=>have e:=em▸(dq▸e);exact nb e
  |some m=>
   have e:=em▸(dq▸e)
   induction oL H dq av with|mk c3 w=>
   induction w with|mk hd vX=>
   induction oL H em bP with|mk hU w=>
   induction w with|mk jO Bh=>
   exact .acd hd jO c3 hU vX Bh e jN
open AutoSeq1 (wpAny_loadPart')in
open MeetsSeq MeetsSeq2 MeetsSeq3 in
theorem Tg (ne:aZ)(hK:dp.size=oN.size)(k:ah):
  ∀(i:ah) (A:dc) (R:l5→a3→Prop) (s:a3),dp.size - i=k→s.heap.get? l=B ⟨.type "list",ab,.seq dp n, #[]⟩→s.heap.get? b=B ⟨.type "list",ab,.seq oN gm, #[]⟩→
   (∀j (aY:j < dp.size) (bu:j < oN.size),lG g A.in1 s dp[j] oN[j])→R (.ok (.ret (.bool (!ne)))) s→
   bM (bB g.p g.w) A.in1 (Builtin.«list.__eq__.loop» ⟨[.ref l,.ref b,l6 i,l6 (if ne then 3 else 2)],[]⟩)
    (fun fin ar=>match fin with| .done f=>R (.ok f) ar| .again dh=>dh.quiet=af∧ps (bB g.p g.w) A dh R ar) (fun e ar=>R (.error e) ar) s:=by
 induction k with
 |zero=>
  intro i A R s hk aw ay cP h
  obtain⟨hp,g,d,tk,os⟩:=s
  have Bi:dp[((i:ah):aq).toNat]?=ab:=by rw[ol,PR];exact Jj hk
  have Bj:oN[((i:ah):aq).toNat]?=ab:=by rw[ol,PR];exact hK▸Jj hk
  induction ne
  ·simp only[IE,AP]
   wp_walk using wpAny_loadPart' aw,wpAny_loadPart' ay
   rw[Bi,Bj]
   wp_walk using wpAny_loadPart' aw,wpAny_loadPart' ay
   show R (.ok (.ret (.bool (dp.size==oN.size)))) _
   rw[hK,ie];exact h
  ·simp only[E9]
   wp_walk using wpAny_loadPart' aw,wpAny_loadPart' ay
   rw[Bi,Bj]
   wp_walk using wpAny_loadPart' aw,wpAny_loadPart' ay
   show R (.ok (.ret (.bool (dp.size !=oN.size)))) _
   rw[hK,tJ];exact h
 |succ k az=>
  intro i A R s hk aw ay cP h
  obtain⟨hp,ace,d,tk,os⟩:=s
  have gF:i < dp.size:=Nat.lt_of_sub_eq_succ hk
  have Ly:i < oN.size:=hK▸gF
  have Bi:dp[((i:ah):aq).toNat]?=B dp[i]:=by rw[ol];exact DJ gF
  have Bj:oN[((i:ah):aq).toNat]?=B oN[i]:=by rw[ol];exact DJ Ly
  have next:∀c:aq,c=(if ne then 3 else 2)→(RR "list.__eq__.loop" ⟨[.ref l,.ref b,l6 ((i:aq)+1),l6 c],[]⟩).quiet=af∧
    ps (bB g.p g.w) A (RR "list.__eq__.loop" ⟨[.ref l,.ref b,l6 ((i:aq)+1),l6 c],[]⟩) R ⟨hp,ace,d,tk,os⟩:=by
   rintro c rfl
   exact⟨vn x2 _,At Kl (by
    rw[vw x2 _]
    exact az (i+1) A R _ (bl Nat.pred hk) aw ay cP h)⟩
  induction ne
  ·simp only[IE,AP]
   wp_walk using wpAny_loadPart' aw,wpAny_loadPart' ay
   rw[Bi,Bj]
   refine aX ((cP i gF Ly).jo _ _ ?_)
   wp_walk
   exact next 2 rfl
  ·simp only[E9]
   wp_walk using wpAny_loadPart' aw,wpAny_loadPart' ay
   rw[Bi,Bj]
   refine aX ((cP i gF Ly).jo _ _ ?_)
   wp_walk
   exact next 3 rfl
end
section
open PySem.SeqAt
theorem acf {A:dc}(h:A.units+3 < l7):A.in1.units < l7:=e6 (eH (by decide) _) h
abbrev qV (g:ci)(A:dc)(O N:J aC)(s:a3)(t:dM au)(K:aZ→J ap→Prop)(X:J ap→Prop):Prop:=T g A [] O N s t (fun I I b v=>v=.bool b) K X
section
variable {K:aZ→J ap→Prop}
open AutoSeq1 (wpAny_loadPart')in
open MeetsSeq MeetsSeq2 MeetsSeq3 in
theorem lG.Th (H:aR g s.heap N O hp)(aV:s.heap.get? p=B (hU "list" vs n))(e2:s.heap.get? q=B (hU "list" us gm))(aL:cp g s.heap N O l vs)(ix:cp g s.heap N O m us)(e:mV (kC hp) l m=af)(bP:A.units+3 < l7):lG g A s (.ref p) (.ref q):=by
 have hK:vs.toArray.size=us.toArray.size:=Y dD (dD.symm▸aL.bJ.symm▸ix.bJ.symm▸(Lw e).symm▸rfl)
 have hc:∀j (aY:j < vs.toArray.size) (bu:j < us.toArray.size),lG g A.in1 s vs.toArray[j] us.toArray[j]:=fun j a b=>Tc (P:=lG g A.in1 s) (fun I I I I e x y=>Tf H e x y (acf bP)) e aL ix j a b
 have lH:=AutoSeq1.sub_list_list
 refine .Lv fun ne E Q h=>?_
 induction ne
 ·refine Q5 (op:=.Eq) ⟨_,aV,rfl⟩ ⟨_,e2,rfl⟩ R8 (oo R8 ⟨_,aV,rfl⟩ F.entry_list_eq (F.args_list_eq_2 _ _)
   (S:=fun nR R ar=>nR=A∧ar=s∧R (.ok (.ret (.bool af))) s) ?_ ⟨rfl,rfl,nofun,h⟩) (e6 (ed _ _) bP)
  rintro nR R ar ⟨rfl,rfl,h⟩
  obtain⟨bU,g,d,tk,os⟩:=ar
  have gn:¬ (vs.toArray.size !=us.toArray.size)=af:=by rw[hK,tJ];exact dO
  wp_walk using wpAny_loadPart' aV,wpAny_loadPart' e2
  exact⟨vn x2 _,At Kl (by
   exact Y (vw x2 _) (Tg ae hK _ 0 nR R _ rfl aV e2 hc h))⟩
 ·refine Q5 (op:=.NotEq) ⟨_,aV,rfl⟩ ⟨_,e2,rfl⟩ R9 (oo R9 ⟨_,aV,rfl⟩ F.entry_list_ne (F.args_list_ne_2 _ _)
   (S:=fun nR R ar=>nR=A∧ar=s∧R (.ok (.ret (.bool ae))) s) ?_ ⟨rfl,rfl,nofun,h⟩) (e6 (ed _ _) bP)
  rintro nR R ar ⟨rfl,rfl,h⟩
  obtain⟨bU,g,d,tk,os⟩:=ar
  have gn:¬ (vs.toArray.size !=us.toArray.size)=af:=by rw[hK,tJ];exact dO
  wp_walk using wpAny_loadPart' aV,wpAny_loadPart' e2
  exact⟨vn x2 _,At Kl (by
   exact Y (vw x2 _) (Tg af hK _ 0 nR R _ rfl aV e2 hc h))⟩
theorem acg (H:aR g s.heap N O hp)(e:Fl hp a b=af)(av:aE g s.heap N O a v)(bP:aE g s.heap N O b u)(jN:A.units+3 < l7):lG g A s v u:=by
 have Ti:A.units < l7:=e6 (ed _ _) jN
 unfold Fl at e
 induction jL:a.me with
 |some l=>
  induction jo:b.me with
  |none=>have e:=jo▸(jL▸e);exact nb e
  |some m=>
   rw[jL,jo] at e
   cases vW jL;cases vW jo
   induction av with|mk _ w=>
   induction w with|mk hp aL=>
   induction bP with|mk _ w=>
   induction w with|mk bH ix=>
   exact .acb hp bH aL ix e Ti
 |none=>
  have e:=jL▸e
  have e:bS (gB hp a) (fun l=>bS (gB hp b) (fun m=>mV (kC hp) l m) ae) (kC hp a b)=af:=e
  induction dq:gB hp a with
  |none=>have e:=dq▸e;exact Tf H e av bP Ti
  |some l=>
   induction em:gB hp b with
   |none=>have e:=em▸(dq▸e);exact nb e
   |some m=>
    have e:=em▸(dq▸e)
    induction oK H dq av with|mk _ w=>
    induction w with|mk aV aL=>
    induction oK H em bP with|mk _ w=>
    induction w with|mk e2 ix=>
    exact .Th H aV e2 aL ix e jN
theorem ach (p:aC)(x:aO)(u:dv)(o:ee)(hc:o.ExactDict):pu (Builtin.«dict.__eq__» ⟨[.ref p,.str x u],[]⟩) (fun I R s=>s.heap.get? p=B o∧R (.ok (.ret .notImplemented)) s):=
 .of_wp fun prog w A R s h=>by
  refine aX ?_
  unfold aan
  exact aX (Q8 (⟨o,h.1,hc.1⟩:s.TypeIs (.ref p) "dict") (cq (aX (xI (T:="str") (rW s x u) Sa (aX (oq (aX (cq (cq ⟨_,rfl,h.2⟩)))))))))
theorem aci (p:aC)(x:aO)(u:dv)(o:ee)(hc:o.ExactDict)(es:dn iS)(n:ah)(hd:o.data=.dict es n):pu (Builtin.«str.__eq__» ⟨[.str x u,.ref p],[]⟩) (fun I R s=>s.heap.get? p=B o∧R (.ok (.ret .notImplemented)) s):=
 .of_wp fun prog w A R s h=>by
  obtain⟨cls,j9,data,ch⟩:=o
  obtain⟨aY,bu,cu⟩:=hc
  dsimp only at aY bu cu hd
  subst aY bu cu hd
  obtain⟨hp,g,d,tk,os⟩:=s;refine h.elim fun aw h=>?_;wp_walk using AutoSeq1.wpAny_loadPart' aw,rX aw;exact⟨_,rfl,h⟩
theorem RcAt.acj (hd:nB g s.heap p kvs)(x:aO)(u:dv)(bP:A.units < l7):pA A s (.ref p) (.str x u) ae:=fun prog w E Q h=>by
 obtain⟨o,es,n,aV,hc,ack,_⟩:=hd
 have di:s.TypeIs (.ref p) "dict":=⟨o,aV,hc.1⟩
 exact vy (k:=ae) di (rW s x u) (by decide) Sa RZ E0
  (fun I bH=>EF RZ di PySem.F.entry_dict_eq (PySem.F.args_dict_eq_2 _ _) (ach p x u o hc) ⟨aV,bH⟩)
  (fun I bH=>EF E0 (rW s x u) Kg (Kd _ _) (aci p x u o hc es n ack) ⟨aV,bH⟩)
  (fun I bH=>du (rfl:vu (.ref p) (.str x u)=bV ae) bH) (.inr bP) h
noncomputable abbrev FH (ne:aZ):qC:=if ne then .NotEq else .Eq
theorem Lz (H:aR g s.heap N O hp)(jN:A.units+3 < l7)(bP:aE g s.heap N O a u)(av:aE g s.heap N O b v)(h:Fm hp (fun x=>K (if ne then !x else x) hp) a b):qV g A O N s (mL (FH ne) u v) K X:=by
 have S:=acg (A:=A) H h.1 bP av jN
 induction ne
 ·exact S.aH ae _ _ (.dj H rfl h.2)
 ·exact S.aH af _ _ (.dj H rfl h.2)
theorem Bk (H:aR g s.heap N O hp)(r:pA A s u v ae)(h:ne=ae∧K (if ne then !ae else ae) hp):qV g A O N s (mL (FH ne) u v) K X:=by
 induction ne with
 |true=>exact iV h.1
 |false=>exact r _ _ _ _ (.dj H rfl h.2)
theorem vY (n:p∉l9):(p==Ax)=ae:=jY.mpr fun z=>n (z▸.head _)
theorem acl (H:aR g s.heap N O hp)(jN:A.units < l7)(bP:aE g s.heap N O a u)(h:ne=ae∧bF (fK hp a) fun I=>K (if ne then !ae else ae) hp):qV g A O N s (mL (FH ne) u (.str y t)) K X:=by
 induction cQ.of h.2 with|mk e k=>
 induction oL H e bP with|mk _ w=>
 induction w with|mk hd _=>
 exact Bk H (RcAt.acj hd y t jN) ⟨h.1,k⟩
theorem Tj (H:aR g s.heap N O hp)(jN:A.units+3 < l7)(bP:aE g s.heap N O a u)(av:aE g s.heap N O b v)(h:K5 ne hp (fun x=>K (if ne then !x else x) hp) a b):qV g A O N s (mL (FH ne) u v) K X:=by
 have Bl:A.units < l7:=e6 (ed _ _) jN
 cases b with
 |ac j=>
  induction cQ.of h with|mk e h=>
  cases oJ e;induction bP;induction av;induction ne
  ·exact L' (.dj H rfl h)
  ·exact N' (.dj H rfl h)
 |be j=>
  cases a<;>first|exact h.elim|cases bP
  induction av;induction ne
  ·exact G' (.dj H rfl h)
  ·exact H' (.dj H rfl h)
 |aK=>
  cases a<;>first|exact h.elim|cases bP
  induction av;induction ne
  ·exact Si _ _ _ _ (.dj H rfl h)
  ·exact Sj _ _ _ _ (.dj H rfl h)
 |V y=>
  cases a<;>first|exact h.elim|cases bP
  ·induction av;exact Bk H (RcAt.Fa _ _) h
  ·induction av;induction ne
   ·exact eq_bytes (.dj H rfl h)
   ·exact ne_bytes (.dj H rfl h)
 |aF y=>
  obtain⟨t⟩:=av
  cases a<;>first|exact acl H Bl bP h|cases bP
  ·exact Bk H (RcAt.bool_str _ _ _) h
  ·exact Bk H (RcAt.int_str _ _ _ _) h
  ·exact Bk H (RcAt.Fb _ _ _ _) h
  ·induction ne
   ·exact O' (.dj H rfl h)
   ·exact P' (.dj H rfl h)
 |a5 m=>
  induction m with
  |cons=>exact Lz H jN bP av h
  |nil=>
   induction cQ.of h with|@mk l e h=>
   induction oL H e bP with|mk c3 w=>
   induction w with|@mk kvs hd aL=>
   induction av with|mk hU w=>
   induction w with|mk jO ix=>
   induction ix
   have e:(kvs.length==([]:J (bf×au)).length&&af)=l.isEmpty:=by refine Y aL.bJ ?_;induction l<;>rfl
   have hits:kvs.length=([]:J (bf×au)).length→KeqHits A.in1 s [] kvs af:=fun e=>by cases IS.mp e;exact .nil
   induction ne
   ·exact keq_eq (vY c3) (vY hU.s) hd jO Bl hits (Y e (.dj H rfl h))
   ·exact keq_ne (vY c3) (vY hU.s) hd jO Bl hits (Y e (.dj H rfl h))
 |aP m=>
  induction m with
  |cons=>exact Lz H jN bP av h
  |nil=>
   induction cQ.of h with|@mk l e h=>
   induction oK H e bP with|mk c3 w=>
   induction w with|mk aV aL=>
   induction av with|mk hU w=>
   induction w with|mk e2 ix=>
   induction ix
   cases l with
   |nil=>
    induction aL
    have S:=lG.Th (A:=A) (l:=[]) (m:=[]) H aV e2 .mk .mk rfl jN
    induction ne
    ·exact S.aH ae _ _ (.dj H rfl h)
    ·exact S.aH af _ _ (.dj H rfl h)
   |cons=>
    induction aL
    induction ne
    ·exact RcAt.lists_lengths ⟨_,aV,rfl,_,rfl⟩ ⟨_,e2,rfl,_,rfl⟩ rfl Bl _ _ _ _ (.dj H rfl h)
    ·exact RcNeAt.lists_lengths ⟨_,aV,rfl,_,rfl⟩ ⟨_,e2,rfl,_,rfl⟩ rfl Bl _ _ _ _ (.dj H rfl h)
 |_=>exact Lz H jN bP av h
end
end
section
open PySem.SeqAt
theorem Tk (sub l:J am):sub.isPrefixOf l=(l.take sub.length==sub):=by
 rw[DM,Qa,qH,List.prefix_iff_eq_take,eq_comm]
theorem FI (sub b:J am)(j:ah):(b.toArray.extract j (j+sub.toArray.size)==sub.toArray)=sub.isPrefixOf (b.drop j):=by
 rw[Tk,DM,qH,qH,List.extract_toArray,dD,List.extract_eq_take_drop,Jh]
 exact⟨fun h=>bl IC h,bl _⟩
theorem findB_c {sub:J am}{c:am}{r:J am}{i:ah}:eA sub (c::r) i=if sub.isPrefixOf (c::r)then B i else eA sub r (i+1):=rfl
theorem Tm {sub:J am}(l:J am):∀(i:ah),l.length < sub.length→eA sub l i=ab:=by
 induction l with
 |nil=>intro i h;induction sub with|nil=>exact cr h (Ao _)|cons=>rfl
 |cons c r az=>
  intro i h
  have:sub.isPrefixOf (c::r)=ae:=by
   rw[DL]
   exact fun q=>cr (Qa.mp q).length_le (Nat.not_le.mpr h)
  exact(bL fun q=>nb (this.symm.trans q)).trans (az (i+1) (Nat.lt_of_succ_lt h))
theorem acm (sub b:J am):∀(m i:ah),i+m=b.length→(vi i (m+1 - sub.length)).find? (fun j=>b.toArray.extract j (j+sub.toArray.size)==sub.toArray)=eA sub (b.drop i) i:=by
 intro m
 induction m with
 |zero=>
  intro i bZ
  refine Y (List.drop_of_length_le (i:=i) (eT bZ.symm)) ?_
  induction sub with
  |nil=>exact List.find?_cons_of_pos (by refine Y (FI ..) ?_;rfl)
  |cons c r=>refine Y (iO ..) (Y (Nat.add_sub_add_right ..) (Y (Nat.zero_sub ..) ?_));rfl
 |succ m az=>
  intro i bZ
  have gF:i < b.length:=bZ▸Eo (tt m)
  by_cases aG:sub.length≤m+1
  ·rw[Nat.succ_sub aG,I0,xw,FI,IR gF,findB_c]
   induction hp:sub.isPrefixOf (b[i]::b.drop (i+1))with
   |true=>rfl
   |false=>exact az (i+1) ((QI i m).trans bZ)
  ·have h:=QN aG
   refine Y (Jk h) (Y (Tm _ _ (by refine Y (xv ..) (cN bZ (Y (Jh ..) ?_));exact h)) ?_)
   rfl
theorem Tn (sub b:J am):EW b.toArray sub.toArray 0 b.toArray.size=eA sub b 0:=by
 refine(Ai (l:=b))▸(acm sub b _ 0 (iP _))▸Ai▸?_
 unfold EW
 simp only[QR,iP,Em,dD,IV]
theorem To (b:J am)(t:dv)(i:aq)(u:dv)(h0:0≤i)(aY:i < 256):
  pu (Builtin.«bytes.__contains__» ⟨[.bytes b.toArray t,.int i u],[]⟩) (fun I R s=>R (.ok (.ret (.bool (b.any fun c=>(c.toNat:aq)==i)))) s):=
 .of_wp fun prog w A R s h=>by
  show bM _ _ (EV "bytes.__contains__" (.bytes b.toArray t) (.int i u)>>=_) _ _ s
  refine aX ?_
  unfold EV
  refine aX (Ez (cq (a:=i) ?_))
  refine aX (du vB ?_)
  show bM _ _ (if(a9 (i < 0)||decide (i≥256))=af then _ else _) _ _ _
  refine(jZ (ph.mpr h0)).symm▸(jZ (DT.mpr aY)).symm▸?_
  refine cq (cq ⟨_,rfl,?_⟩)
  have e:b.toArray.contains i.toNat.toUInt8=b.any fun c=>(c.toNat:aq)==i:=by
   rw[List.contains_toArray,DM,DW,qu]
   refine⟨fun h=>⟨_,h,by have:=byte_back h0 aY;simpa using this⟩,fun eb=>eb.elim fun c gG=>gG.elim fun hc e=>?_⟩
   have h2:=(qH.mp e:(c.toNat:aq)=i);subst h2
   simpa using hc
  exact Y e h
theorem acn {cls Tp:gg}(hp:PlainExc cls)(bU:A.handled=ab)(h:∀hV hW tk,E (.ref (s.heap.push hV).objs.size) {s with heap:=(s.heap.push hV).push hW,toks:=tk})(bZ:(Tp:aO).length≤kT):
  bM M A (Rv cls Tp:dM α) Q E s:=by
 unfold Rv
 refine aX (wpAny_mkStr (aX ?_) bZ)
 unfold newExc newTuple
 refine aX (pn ?_)
 refine aX (m:=Ru _ _) (du (a:=iU) (by simp only[Ru,hp.first];rfl) ?_)
 refine Y (hp.own ..) ?_
 refine pn ?_
 unfold raiseNew
 refine aX (wpAny_handled ?_)
 refine Y bU ?_
 first
  |refine wpAny_throw ?_
  |refine wpAny_bind (wpAny_pure (wpAny_throw ?_))
 exact h _ _ _
theorem Tq:mK (.type "bytes") "__index__"=bV ab:=by rw[fG,fF];kernel_rfl
theorem Tr (b sub:J am)(t u:dv):
  pu (Builtin.«bytes.__contains__» ⟨[.bytes b.toArray t,.bytes sub.toArray u],[]⟩) (fun A R s=>A.handled=ab∧∀hV hW tk,R (.ok (.ret (.bool (eA sub b 0).isSome))) {s with heap:=(s.heap.push hV).push hW,toks:=tk}):=
 .of_wp fun prog w A R s h=>by
  show bM _ _ (EV "bytes.__contains__" (.bytes b.toArray t) (.bytes sub.toArray u)>>=_) _ _ s
  refine aX ?_
  unfold EV
  refine aX (Ez ?_)
  unfold asIndex
  refine aX (du (a:=ab) rfl ?_)
  refine aX (wpAny_callSpecial?_none (T:="bytes") (gf _ _ _) Tq ?_)
  have cut:typeNameOfCut 200 (.bytes sub.toArray u)=bV "bytes":=by
   kernel_rfl
  refine aX (du cut ?_)
  refine acn plainExc_TypeError h.1 (fun hV hW tk=>?_) (by decide+kernel)
  refine aX (du vB (aX (du vB (aX (oq (cq (cq ⟨_,rfl,?_⟩)))))))
  exact Y (Tn ..) (h.2 hV hW tk)
section
variable {a b d:D}{K:aZ→J ap→Prop}{k:bf}
theorem LA (hk:(dy d).isSome=af)(av:aE g h N O d v):k.is v=a9 (dy d=B k):=(iR.mp hk).elim fun c2 e=>Y (show k.is v=a9 (k=c2) from KeyKind.is_eq_decide (knd:=hF g.p g.w) (nP e av:(hF g.p g.w).is c2 v=af) k) (Y e (x8.mpr ⟨fun q=>q▸rfl,fun q=>(bo q).symm⟩))
theorem aco (eI:(dy d).isSome=af)(av:aE g h N O d v)(hx:k.is u=af):jX A s v u (k.is v):=fun prog w E Q q=>by
 refine(iR.mp eI).elim fun c2 e=>?_
 refine(hF prog w).eqBool (a:=c2) (b:=k) (nP e av) hx ?_
 rw[LA eI av,e] at q
 rw[x8.mpr (⟨fun z=>z▸rfl,bo⟩:c2=k↔B c2=B k)]
 exact q
theorem LB (x:cp g h N O l vs)(b0:(l.all fun e=>(dy e).isSome)=af)(hx:k.is u=af):(vs.toArray.any k.is)=(l.any fun e=>a9 (dy e=B k))∧∀y∈vs.toArray,jX A s y u (k.is y):=by
 refine Y List.any_toArray ?_
 induction l generalizing vs with
 |nil=>induction x;exact⟨rfl,fun I m=>dz (Ag.mp m)⟩
 |cons d l az=>
  induction x with|mk a r=>
  rw[xz,IF] at b0
  refine⟨Y Aj (Y Aj (Y (LA b0.1 a) (Y ((az r b0.2).1) rfl))),fun y m=>?_⟩
  refine(cV.mp (Ag.mp m)).elim (fun m=>?_) fun m=>?_
  ·exact Y m (aco b0.1 a hx)
  ·exact(az r b0.2).2 y (Ag.mpr m)
theorem acp (z:cB l k=B d):d2 l k=af:=
 have⟨a,e,_⟩:=iu.mp z
 qu.mpr ⟨a,tl e,xx (p:=fun p:bf×D=>a9 (p.1=k)) e⟩
noncomputable abbrev FJ (no:aZ):qC:=if no then .NotIn else .In
theorem acq (H:aR g s.heap N O hp)(hk:k.is u=af)(w:Be (fun p=>jd g s.heap p (dA g s.heap N O l)) v)(q:K (if no then !d2 l k else d2 l k) hp):qV g A O N s (mL (FJ no) u v) K X:=by
 induction w with|mk c3 w=>
 induction w with|@mk kvs hd aL=>
 have e:(xU kvs k).isSome=d2 l k:=by
  induction z:cB l k with
  |some d=>induction aL.fv z with|mk FK _=>refine Y FK (Y (acp z) ?_);rfl
  |none=>refine Y (aL.aK z) (Y (Lq z) ?_);rfl
 induction no
 ·exact wpAny_in_of (knd:=hF g.p g.w) hk (vY c3) hd.mapOf (Y e (.dV H rfl q))
 ·exact wpAny_notIn_of (knd:=hF g.p g.w) hk (vY c3) hd.mapOf (Y e (.dV H rfl q))
theorem acr (H:aR g s.heap N O hp)(hk:k.is u=af)(dq:nJ hp b=B l)(av:aE g s.heap N O b v)(b0:(l.all fun e=>(dy e).isSome)=af)(q:K (if no then !(l.any fun e=>a9 (dy e=B k))else l.any fun e=>a9 (dy e=B k)) hp):qV g A O N s (mL (FJ no) u v) K X:=by
 rcases Bf H dq av with⟨_,w⟩|⟨_,w⟩
 ·induction w with|mk _ w=>
  induction w with|mk aV aL=>
  have z:=LB (A:=A.in1) (s:=s) aL b0 hk
  induction no
  ·exact in_tupleAt k.is ⟨_,aV,rfl,_,rfl⟩ z.2 (Y z.1 (.dj H rfl q))
  ·exact notIn_tupleAt k.is ⟨_,aV,rfl,_,rfl⟩ z.2 (Y z.1 (.dj H rfl q))
 ·induction w with|mk _ w=>
  induction w with|mk aV aL=>
  have z:=LB (A:=A.in1) (s:=s) aL b0 hk
  induction no
  ·exact in_listAt k.is ⟨_,aV,rfl,_,rfl⟩ z.2 (Y z.1 (.dj H rfl q))
  ·exact notIn_listAt k.is ⟨_,aV,rfl,_,rfl⟩ z.2 (Y z.1 (.dj H rfl q))
theorem acs (H:aR g s.heap N O hp)(bP:aE g s.heap N O a u)(av:aE g s.heap N O b v)(h:Fn hp (fun x=>K (if no then !x else x) hp) a b):qV g A O N s (mL (FJ no) u v) K X:=by
 induction cQ.of h with|mk gH h=>
 have hk:=nP gH bP
 induction dq:fK hp b with
 |some l=>rw[dq] at h;exact acq H hk (oL H dq av) h
 |none=>
  rw[dq] at h
  induction cQ.of h with|mk dq h=>exact acr H hk dq av h.1 h.2
theorem Ts (H:aR g s.heap N O hp)(jN:A.handled=ab)(bP:aE g s.heap N O a u)(av:aE g s.heap N O b v)(h:K6 hp (fun x=>K (if no then !x else x) hp) a b):qV g A O N s (mL (FJ no) u v) K X:=by
 cases b<;>first|exact acs H bP av h|skip
 cases a<;>first|exact h.elim| (cases bP;cases av;cases no)
 ·exact Sl (gf _ _ _) E6 E5 (E4 _ _) (To _ _ _ _ h.1.1 h.1.2) ⟨_,rfl,.dj H rfl h.2⟩
 ·exact Sk (gf _ _ _) E6 E5 (E4 _ _) (To _ _ _ _ h.1.1 h.1.2) ⟨_,rfl,.dj H rfl h.2⟩
 ·exact Sl (gf _ _ _) E6 E5 (E4 _ _) (Tr _ _ _ _) ⟨jN,fun hV hW tk=>⟨_,rfl,.mk (.e7 fun b o e=>fV b o (fV b o e)) ((H.j3 _).j3 _) rfl h.2⟩⟩
 ·exact Sk (gf _ _ _) E6 E5 (E4 _ _) (Tr _ _ _ _) ⟨jN,fun hV hW tk=>⟨_,rfl,.mk (.e7 fun b o e=>fV b o (fV b o e)) ((H.j3 _).j3 _) rfl h.2⟩⟩
theorem act (H:aR g s.heap N O hp)(jN:A.handled=ab)(Tt:A.units+3 < l7)(bP:aE g s.heap N O a u)(av:aE g s.heap N O b v)(h:eg op a b hp fun x=>K x hp):qV g A O N s (mL op u v) K X:=by
 have aD:=fun {P:aq→aq→Prop} (h:kY a b P)=>Tb h bP av (C:=fun u v=>qV g A O N s (mL op u v) K X)
 induction op with
 |Eq=>exact Tj (ne:=ae) H Tt bP av h
 |NotEq=>exact Tj (ne:=af) H Tt bP av h
 |In=>exact Ts (no:=ae) H jN bP av h
 |NotIn=>exact Ts (no:=af) H jN bP av h
 |Lt=>exact aD h fun I I I I h=>S' (.dj H rfl h)
 |LtE=>exact aD h fun I I I I h=>U' (.dj H rfl h)
 |Gt=>exact aD h fun I I I I h=>Q' (.dj H rfl h)
 |GtE=>exact aD h fun I I I I h=>T' (.dj H rfl h)
 |Is=>cases Lm h.1;cases av;exact D' (.dj H (by cases a<;>cases bP<;>rfl) h.2)
 |IsNot=>cases Lm h.1;cases av;exact B' (.dj H (by cases a<;>cases bP<;>rfl) h.2)
end
end
section
open PySem.SeqAt
section
variable {g:ci}{h:b8}{a b d:D}{K:a0}
set_option tactic.hygienic true in
theorem acu (slice:b7)(o i:au):∃ops,subscripted slice ae o i=EL ops (EN o i):=by
 cases slice<;>first|exact⟨_,rfl⟩| (rename_i a b c d;cases a<;>cases b<;>cases c<;>exact⟨_,rfl⟩)
theorem t5 {T id:gg}(di:s.TypeIs o T)(aw:mK (.type T) "__getitem__"=bV (B (.builtin id)))(h:bM (bB g.p g.w) A (EN o i) Q E s):bM (bB g.p g.w) A (Ar value slice o i) Q E s:=by
 refine(acu slice o i).elim fun ops aG=>?_
 unfold Ar
 refine aX ?_
 refine Y (getitemInPython_of_ne di.not_modules) ?_
 refine aX (tw di aw ?_)
 have fin:bM (bB g.p g.w) A (subscripted slice ae o i) (fun r c4=>bM (bB g.p g.w) A (letTemporaryGo value o r>>=fun I=>bV r) Q E c4) E s:=by
  exact Y aG (wpAny_operating (ou h (fun r c4 vZ=>aX (Ra (cq vZ))) fun I I x=>x))
 first
  |exact cq (aX fin)
  |exact wpAny_bind (wpAny_pure (wpAny_bind fin))
  |exact wpAny_bind fin
theorem acv (H:aR g s.heap N O hp)(bP:aE g s.heap N O a u)(av:aE g s.heap N O b v)(h:K8 hp K a b):eF g A O N s (Ar value slice u v) K X:=by
 unfold K8 at h
 induction dq:fK hp a with
 |some l=>
  rw[dq] at h
  induction cQ.of h with|mk gH h=>
  cases cQ.of h with|mk gI h=>
  induction oL H dq bP with|mk _ w=>
  induction w with|mk hd aL=>
  induction aL.fv gI with|mk eI t6=>
  exact t5 hd.typeIs slot_dict_getitem.lookup (wpAny_getItem_of (knd:=hF g.p g.w) (nP gH av) hd.mapOf eI (.dV H t6 h))
 |none=>
  rw[dq] at h
  induction cQ.of h with|mk dq h=>
  induction cQ.of h with|@mk i lI h=>
  induction cQ.of h.2 with|mk hd hk=>
  cases oJ lI
  induction av
  have gF:=(gc.mp hd).1
  have h0:=h.1.1
  rcases Bf H dq bP with⟨_,w⟩|⟨_,w⟩
  ·induction w with|mk _ w=>
   induction w with|@mk vs n aV aL=>
   induction aL.fv hd with|mk eI t6=>
   have aw:i.toNat < vs.toArray.size:=by exact Y dD (Y aL.bJ gF)
   have da:seqIndex? i vs.toArray.size=B i.toNat:=by
    simp only[seqIndex?,(ph.mpr h0:¬ i < 0),AP,h0,((P6 h0).mp aw:i < vs.toArray.size),decide_true,Bool.and_self,E9]
   exact t5 (T:="tuple") ⟨_,aV,rfl⟩ Eu.lookup (C' ⟨_,aV,rfl,_,rfl⟩ (by lia) (by omega) da (by refine Y rL ?_;exact eI) (.dj H t6 hk))
  ·induction w with|mk _ w=>
   induction w with|mk aV aL=>
   induction aL.fv hd with|mk eI t6=>
   exact t5 (T:="list") ⟨_,aV,rfl⟩ JB.lookup (wpAny_getItem_list ⟨_,aV,rfl,_,rfl⟩ h0 (by omega) (by refine Y rL ?_;exact eI) (.dj H t6 hk))
theorem acw (H:aR g s.heap N O hp)(bP:aE g s.heap N O a u)(av:aE g s.heap N O b v)(h:g9 hp K a b):eF g A O N s (Ar value slice u v) K X:=by
 cases a<;>first|exact acv H bP av h|skip
 induction cQ.of h with|@mk i lI h=>
 induction cQ.of h.2 with|mk hc hk=>
 cases oJ lI
 induction bP;induction av
 have aw:=(gc.mp hc).1
 refine t5 (gf _ _ _) Kv.lookup (W.getItem_bytes (by have:=h.1.2;lia) h.1.1 (by omega) ?_)
 refine Y xr (Y hc ?_)
 exact .dV H (aE.i _ _) hk
theorem yv (l:J α)(lo hi:ax aq):c1 l lo hi=(l.drop (lo.elim 0 (ia l.length))).take (hi.elim l.length (ia l.length) - lo.elim 0 (ia l.length)):=by
 induction lo<;>induction hi<;>exact I7
theorem cp.sp (x:cp g h N O l vs)(n:ah):cp g h N O (l.drop n) (vs.drop n):=by
 induction n generalizing l vs with
 |zero=>exact x
 |succ n az=>
  induction l with
  |nil=>induction x;exact .mk
  |cons=>induction x with|mk _ r=>exact az r
theorem cp.acx (x:cp g h N O l vs)(n:ah):cp g h N O (l.take n) (vs.take n):=by
 induction n generalizing l vs with
 |zero=>exact .mk
 |succ n az=>
  induction l with
  |nil=>induction x;exact .mk
  |cons=>induction x with|mk a r=>exact .mk a (az r)
theorem cp.yw (x:cp g h N O l vs)(lo hi:ax aq):cp g h N O (c1 l lo hi) (c1 vs lo hi):=Y (yv ..) (Y (yv ..) (Y (x.bJ ..) ((x.sp _).acx _)))
theorem cp.sf (x:cp g h N O l vs):cp g h N O l.reverse vs.reverse:=by
 induction l generalizing vs with
 |nil=>induction x;exact .mk
 |cons d l az=>
  induction x with|mk a r=>
  exact Y xu (Y xu ((az r).app (.mk a .mk)))
theorem acy (lo hi:ax aq)(n:ah):J6 lo hi 1 (n:aq)=(((lo.elim 0 (ia n):ah):aq),((hi.elim n (ia n):ah):aq)):=by
 have go:∀v:aq,(if v < 0 then max (v+(n:aq)) 0 else min v (n:aq))=((ia n v:ah):aq):=fun v=>by
  refine Y (clipAt_cast ..) ?_
  by_cases h:v < 0
  ·exact Y (b3 h) (Y (b3 h) (Y (Int.min_eq_left (qt (PZ (Int.le_of_lt h) _) (DS (IL _)))) (Y (Int.max_comm ..) rfl)))
  ·exact Y (bL h) (Y (bL h) (Y (Int.max_eq_right (Int.le_min.mpr ⟨ph.mp h,gY n⟩)) rfl))
 induction lo<;>induction hi<;>simp[J6,go]
theorem acz (a b:ah):EY (a:aq) (b:aq) 1=b - a:=by
 unfold EY
 refine Y (b3 (by decide)) (Y (Int.ediv_one ..) ?_)
 split<;>lia
theorem Tu (av:ET v k)(h:Q k s):bM (bB g.p g.w) A (aav v) Q E s:=by
 induction av with
 |none=>exact QZ h
 |int i t=>exact slicePart_int h
theorem acA {lo hi:ax aq}(bE:s.heap.get? t=B (hU "tuple" vs m))(aG:s.heap.IsSliceOf ch qW qX .none)(c5:ET qW lo)(Bm:ET qX hi)(ea:vs.length≤1000)(aY:c1 vs lo hi=vs→Q (.ref t) s)(bu:Q (.ref s.heap.objs.size) {s with heap:=s.heap.push {cls:=.type "tuple",data:=.seq (c1 vs lo hi).toArray}}):bM (bB g.p g.w) A (EN (.ref t) (.ref ch)) Q E s:=by
 have FL:sizeOk (.seq (c1 vs lo hi).toArray):=by
  show(c1 vs lo hi).toArray.size≤kT
  exact Y (dD ..) (Y (yv ..) (Y (vg ..) (Y (xv ..) (ao (ao (ao (Jq _ _) (xF _ _)) ea) (by decide)))))
 have di:IsTup s.heap t vs.toArray:=⟨_,bE,rfl,_,rfl⟩
 refine(id aG).elim fun os cj=>cj.elim fun FM d3=>d3.elim fun yx Bn=>?_
 unfold EN
 try with_reducible refine pq ?_
 first|refine aX (cq ?_)|skip
 refine aX (wpAny_sequenceKey di.typeIs (by decide) ?_)
 refine aX (wpAny_callSpecial?_slot (name:=ly "__getitem__") di.typeIs Eu (As Eu di.typeIs entry_tuple_getitem ?_ (args_tuple_getitem _ _)))
 show bM _ _ (aaz (.ref t)>>=_) _ _ s
 refine aX (tupleItemsOf_ di (aX (xM (⟨os,FM,yx⟩:s.TypeIs (.ref ch) "slice") ?_)))
 refine Y (b3 (by decide)) ?_
 refine aX ?_
 unfold aaw aax
 refine aX (aX (rU FM Bn (x:=qW) rfl (aX (rU FM Bn (x:=qX) rfl (aX (rU FM Bn (x:=.none) rfl (cq ?_)))))))
 refine aX (QZ ?_)
 refine Y (bL (by decide)) ?_
 refine aX (Tu c5 (aX (Tu Bm (aX (cq ?_)))))
 show bM _ _ (match J6 lo hi 1 (vs.toArray.size:aq)with| (lo,hi)=>bV (lo,(1:aq),EY lo hi 1)) _ _ s
 refine Y (acy ..) ?_
 have Tv:c1 vs lo hi=(vs.drop (lo.elim 0 (ia vs.toArray.size))).take (hi.elim vs.toArray.size (ia vs.toArray.size) - lo.elim 0 (ia vs.toArray.size)):=yv vs lo hi
 generalize lo.elim 0 (ia vs.toArray.size)=x at *
 generalize hi.elim vs.toArray.size (ia vs.toArray.size)=y at *
 show bM _ _ (bV ((x:aq),(1:aq),EY (x:aq) (y:aq) 1)) _ _ s
 refine Y (acz ..) ?_
 refine cq ?_
 have acB:((g0 (y - x)).filterMap fun(k:ah)=>vs.toArray[((x:aq)+(k:aq) *1).toNat]?).toArray=(c1 vs lo hi).toArray:=by
  have e:(fun(k:ah)=>vs.toArray[((x:aq)+(k:aq) *1).toNat]?)=(fun k=>vs.toArray[k]?)∘fun k=>x+k:=by funext k;refine Y (IM ..) (cN (DQ ..) (Y (ol ..) ?_));rfl
  exact Y e (cN (List.filterMap_map ..) (Y (pick_run ..) (Y Tv rfl)))
 show bM _ _ (if(((x:aq)==0&&(1:aq)==1&&(y - x)==vs.toArray.size))=af then _ else _) _ _ s
 by_cases hw:((x:aq)==0&&(1:aq)==1&&(y - x)==vs.toArray.size)=af
 ·refine Y (b3 hw) ?_
  have bH:Q (.ref t) s:=by
   refine aY ?_
   simp only[IF,qH,Int.natCast_eq_zero] at hw
   exact Y Tv (Y hw.2 (Y hw.1.1 (DV (a8 _))))
  refine aX ?_
  unfold aay
  exact aX (xM di.typeIs (cq (Y (b3 (by decide)) (aX (oq (aX (cq (cq ⟨_,rfl,cq bH⟩))))))))
 ·refine Y (bL hw) (Y acB ?_)
  first
   |exact aX (m:=aaA _) (pn (cq ⟨_,rfl,cq bu⟩) FL)
   |exact wpAny_bind (m:=Builtin.Tuple.tupleExact _) (wpAny_newObj_type (wpAny_bind (wpAny_pure (wpAny_pure ⟨_,rfl,wpAny_pure bu⟩))) FL)
   |exact wpAny_bind (wpAny_bind (m:=Builtin.Tuple.tupleExact _) (wpAny_newObj_type (wpAny_pure (wpAny_pure ⟨_,rfl,wpAny_pure bu⟩)) FL))
   |exact wpAny_bind (wpAny_bind (m:=Builtin.Tuple.tupleExact _) (wpAny_newObj_type (wpAny_pure ⟨_,rfl,wpAny_pure bu⟩) FL))
abbrev t7 (g:ci)(h:b8)(N O:J aC)(o:ax D):au→Prop:=bS o (aE g h N O) (tM fun I:g5=>.none)
theorem t7.dw (M:cz N O bw cF h aj)(x:t7 g h N O o v):t7 g aj bw cF o v:=by
 induction o with
 |none=>exact x
 |some d=>exact M.v x
theorem Tw (e:K7 o=B k)(av:t7 g h N O o v):ET v k:=by
 induction o with
 |none=>have h2:=bo e;subst h2;cases av;exact .none
 |some d=>cases d<;>cases e<;>cases av<;>constructor
theorem Tx (ea:vs.length≤100)(h:Q (.ref s.heap.objs.size) {s with heap:=s.heap.push {cls:=.type ty,data:=.fields vs.toArray}}):bM M A (newFields ty vs) Q E s:=
 pn h (by show vs.toArray.size≤_;exact Y dD (ao ea (by decide)))
abbrev Tz (g:ci)(A:dc)(O N:J aC)(s:a3)(value slice:b7)(u:au)(Bo:dn au)(K:a0)(X:J ap→Prop):Prop:=
 bM (bB g.p g.w) A (Ar value slice u (.ref s.heap.objs.size)) (fe g A [] O N s (fun h N=>aE g h N O) K) (gR g A [] O N s X) {s with heap:=s.heap.push {cls:=.type "slice",data:=.fields Bo}}
theorem yy (b:aC)(cO:ee)(e:h.get? b=B cO):((h.push o).push o').get? b=B cO:=fV b cO (fV b cO e)
theorem acC {lo hi:ax D}(H:aR g s.heap N O hp)(bP:aE g s.heap N O a u)(aw:t7 g s.heap N O lo qW)(bU:t7 g s.heap N O hi qX)(h:Fo a lo hi hp K):Tz g A O N s value slice u #[qW,qX,.none] K X:=by
 induction cQ.of h with|@mk k gH h=>
 induction cQ.of h with|@mk c2 acD h=>
 have c5:=Tw gH aw
 have Bm:=Tw acD bU
 have aG:=Sg s.heap qW qX .none
 cases a with
 |V b=>
  induction bP
  have e:KBy.picked b.toArray k c2=(c1 b k c2).toArray:=by rw[KBc.picked_eq,yv];simp
  refine t5 (gf _ _ _) Kv.lookup (getItem_meets (gf _ _ _) (by decide) Kv W.FB.entry_bytes_getitem (W.FB.args_bytes_getitem_2 _ _) (KBc.meets_slice2 _ _ _ c5 Bm) ⟨aG,ao (KBc.size_picked_le _ _ _) h.1,fun t' k=>?_⟩)
  rw[e]
  exact .mk (.e7 fV) (H.j3 _) (aE.b _ _) h.2
 |aW l=>
  induction bP with|mk f w=>
  cases w with|@mk vs n aV aL=>
  have e2:=lx {cls:=.type "slice",data:=.fields #[qW,qX,.none]} aV
  refine t5 (T:="tuple") ⟨_,e2,rfl⟩ Eu.lookup (acA e2 aG c5 Bm (aL.bJ▸h.1) (fun e=>?_) ?_)
  ·have:=(cz.cw H (fV (o:={cls:=.type "slice",data:=.fields #[qW,qX,.none]}))).vs (aL.yw k c2)
   rw[e] at this
   exact .mk (b:=.aW _) (.e7 (k:=s.toks) fV) (H.j3 _) (f0.mk f (.mk e2 this)) h.2
  ·exact .mk (b:=.aW _) (.e7 (k:=s.toks) yy) ((H.j3 _).j3 _) (f0.mk (H.j3 _).nC (.mk (ic _ rfl) ((cz.cw H yy).vs (aL.yw k c2)))) h.2
 |aP l=>
  induction bP with|mk f w=>
  induction w with|@mk vs n aV aL=>
  have e2:=lx {cls:=.type "slice",data:=.fields #[qW,qX,.none]} aV
  have e:slicePick vs.toArray k c2 ab=(c1 vs k c2).toArray:=by rw[slicePick_plain,yv];simp
  refine t5 (T:="list") ⟨_,e2,rfl⟩ JB.lookup (Q6 (st:=ab) ⟨_,e2,rfl,_,rfl⟩ aG c5 Bm .none (by simp) ?_ (by rw[dD,aL.bJ];exact ao h.1 (by decide)))
  rw[e]
  exact .mk (b:=.aP _) (.e7 (k:=s.toks) yy) ((H.j3 _).j3 _) (f0.mk (H.j3 _).nC (.mk (ic _ rfl) ((cz.cw H yy).vs (aL.yw k c2)))) h.2
 |_=>exact h.elim
theorem acE (H:aR g s.heap N O hp)(bP:aE g s.heap N O a u)(h:bF (gB hp a) fun l=>l.length≤1000∧K (.aP l.reverse) hp):Tz g A O N s value slice u #[.none,.none,.int (-1) t] K X:=by
 induction cQ.of h with|mk dq h=>
 induction oK H dq bP with|mk f w=>
 cases w with|@mk vs n aV aL=>
 have e2:=lx {cls:=.type "slice",data:=.fields #[.none,.none,.int (-1) t]} aV
 refine t5 (T:="list") ⟨_,e2,rfl⟩ JB.lookup (Q6 (lo:=ab) (hi:=ab) (st:=B (-1)) ⟨_,e2,rfl,_,rfl⟩ (Sg _ _ _ _) .none .none (.int _ _) (by simp) ?_ (by rw[dD,aL.bJ];exact ao h.1 (by decide)))
 rw[krv_pick]
 exact .mk (b:=.aP _) (.e7 (k:=s.toks) yy) ((H.j3 _).j3 _) (f0.mk (H.j3 _).nC (.mk (ic _ rfl) ((cz.cw H yy).vs aL.sf))) h.2
end
end
section
open PySem.SeqAt
noncomputable def sq:ah→aC
 |0=>131
 |_=>208
inductive sr (h:b8)(c:ah)(gp:aO→ax au):Prop
 |mk {nm q sn sub pT col j9 gq jp ik lJ pU}(bC:h.get? (pC c)=B (rV nm q (pC c) (sq c) [.type "object"] [.type "object"] af sn sub pT col j9 gq jp ik lJ pU "object.__new__"))
  (aA:h.Ns (sq c) gp) (ga:gp "__getattribute__"=ab) (gt:gp "__getattr__"=ab) (own:∀x∈tL c,gp x=ab)
theorem TA:∀c:ah,pC c∉gh∧sq c∉gh
 |0=>by decide
 |_+1=>show(209:ah)∉[421,454]∧(208:ah)∉[421,454] by decide
theorem acF (e:JS "object" x=B ab):mK (.type "object") x=bV ab:=Y (fG ..) (Y (fF ..) (Y e rfl))
theorem acG (c:ah):∀x∈tL c,mK (.type "object") x=bV ab:=by
 have go:∀l:J aO,(l.all fun x=>match JS "object" x with|some ab=>af|_=>ae)=af→∀x∈l,mK (.type "object") x=bV ab:=fun l h x m=>by
  have:=gy.mp h x m
  refine acF ?_
  generalize JS "object" x=o at this
  induction o with
  |none=>exact nb this
  |some r=>induction r with
   |none=>rfl
   |some _=>exact nb this
 induction c with
 |zero=>exact go ["kind","scope","first","bounds"] (by kernel_rfl)
 |succ=>exact go ["table","scope","parent","values"] (by kernel_rfl)
theorem TB:∀c:ah,(tL c).Nodup
 |0=>by decide
 |_+1=>show List.Nodup [("table":aO),"scope","parent","values"] by decide
section
variable {g:ci}{O N:J aC}{K:a0}{h:b8}{es:J iS}{c:ah}
theorem aR.oO (H:aR g h N O hp)(x:g.b.Ns a m)(n:a∉gh):h.Ns a m:=x.at fun o e=>H.cw a o e n
theorem sr.up (H:aR g h N O hp):sr g.b c gp→sr h c gp
 | .mk a b x y z=>.mk (H.cw _ _ a (TA c).1) (H.oO b (TA c).2) x y z
theorem lA.oy (k:lA w es dp):∀e∈es,∃x t,e.key=.str x t∧x∈dp:=by
 induction k with
 |fj=>exact fun I m=>dz m
 |dN bU hk _ az=>
  intro e m
  rcases cV.mp m with m|m
  ·exact⟨_,_,m▸hk,.head _⟩
  ·exact(az e m).imp fun x=>gb fun t z=>⟨z.1,.tail _ z.2⟩
theorem FN:(x3 x t).isStr y=af↔x=y:=qH
theorem lA.uniq (k:lA w es dp)(bY:dp.Nodup):UniqKeys es.toArray:=by
 induction k with
 |fj=>exact .nil
 |dN bU hk r az=>
  have bY:=mG.mp bY
  refine ve.mpr ⟨fun b ay n aY bu=>?_,az bY.2⟩
  refine(r.oy b ay).elim fun x cj=>cj.elim fun t d3=>d3.elim fun e m=>?_
  rw[hk] at aY
  rw[e] at bu
  exact bY.1 ((FN.mp aY).trans (FN.mp bu).symm▸m)
theorem TC (hk:e.key=.str x t):tC (e::es).toArray y=if x=y then B e.val else tC es.toArray y:=by
 unfold tC findBy
 refine Y (Qj ..) (Y (Qj ..) (Y (xw ..) (Y hk ?_)))
 split
 ·next h=>refine Y (b3 (FN.mp h)) ?_;rfl
 ·next h=>exact Y (bL fun q=>by have:=(FN (t:=t)).mpr q;have this:=(show(x3 x t).isStr y=ae from h)▸this;cases this) rfl
theorem lA.oA (k:lA w es dp)(bY:dp.Nodup){i:ah}(e:dp[i]?=B y):tC es.toArray y=(es.map (·.val))[i]?:=by
 induction k generalizing i with
 |fj=>exact nn e
 |dN bU hk r az=>
  have bY:=mG.mp bY
  refine Y (TC hk) ?_
  induction i with
  |zero=>exact b3 (bo e)
  |succ i=>
   rw[bL]
   ·exact az bY.2 e
   ·exact fun q=>bY.1 (q▸gZ e)
theorem lA.acH (k:lA w es dp)(m:y∉dp):tC es.toArray y=ab:=by
 induction k with
 |fj=>rfl
 |dN bU hk r az=>
  rw[TC hk,bL]
  ·exact az fun q=>m (.tail _ q)
  ·exact fun q=>m (cV.mpr (.inl q.symm))
theorem aE.acI (av:aE g h N O d v):handedOut v=bV v:=by cases d<;>cases av<;>rfl
inductive TD (g:ci)(h:b8)(N O:J aC)(c:ah)(l:J D):au→Prop
 |mk {p:aC}{es:J iS}(aD:h.Inst p (pC c) (tC es.toArray))(hk:lA g.w es (tL c))(aL:cp g h N O l (es.map (·.val))):TD g h N O c l (.ref p)
theorem aE.TE (av:aE g h N O (.cO c l) v):TD g h N O c l v:=by
 induction av with|mk _ w=>
 induction w with|mk bH aV hd hk aL=>
 exact .mk ⟨_,aV,rfl,fun I q=>qF q,.inr ⟨_,rfl,(fun q=>by have hd:=aV▸(q▸hd);cases hd),_,_,_,hd,rfl,fun e m=>(hk.oy e (Ag.mp m)).imp fun I=>gb fun I=>DH,hk.uniq (TB c),fun I=>rfl⟩⟩ hk aL
theorem k4 {l:J aO}(e:l.idxOf? x=B i):l[i]?=B x:=by
 obtain⟨aY,bu, -⟩:=List.idxOf?_eq_some_iff.mp e
 refine Y (hQ aY) ?_;exact bl B (by simpa using bu)
set_option tactic.hygienic true in
theorem acJ (eu:∀c,∃gp,sr g.b c gp)(H:aR g s.heap N O hp)(av:aE g s.heap N O d v)(h:oC d x hp K):eF g A O N s (getAttr v x ex) K X:=by
 cases d<;>first|exact h.elim|skip
 rename_i c l
 induction cQ.of h with|mk lI h=>
 induction cQ.of h with|mk Bp h=>
 induction av.TE with|mk aD hk aL=>
 induction aL.fv Bp with|mk eI t6=>
 refine(eu c).elim fun gp hc=>?_
 induction hc.up H with|mk bC aA aY bu cu=>
 have bZ:=gZ (k4 lI)
 exact load_attr bC aA aY (cu x bZ) (acG c x bZ) aD ((hk.oA (TB c) (k4 lI)).trans eI) t6.acI (.dV H t6 h)
end
end
noncomputable def yz:yh→au
 | .bJ=>.builtin "len" | .fS=>.builtin "sorted" | .V=>.type "bytes" | .pK=>.type "bytearray" | .bv=>.type "dict" | .br=>.type "list" | .nH=>.type "tuple" | .ac=>.type "int" | .A0=>.builtin "ord" | .aF=>.type "str"
noncomputable def yA:ah→au
 |0=>.type "dict" |1=>.type "int" |_=>.type "bool"
abbrev acK (sc:dU)(env:eo):Prop:=gC sc kE=af→env.code=.ref 425∨env.code=.ref 456
abbrev acL (sc:dU)(env:eo):Prop:=∀x,sc.names.lookup x=B .cell∨sc.names.lookup x=B .free→vS env x
structure pV (sc:dU)(env:eo):Prop where
 cd:acK sc env
 g:∀x,gC sc x=af→env.kindOf x=B .globalImplicit
 c:acL sc env
structure bz (g:ci)(A:dc)(n:ah)(O N:J aC)(s:a3)(env:eo)(sc:dU)(loc:cD)(hp:J ap):Prop where
 C:fc A n O s.heap
 H:aR g s.heap N O hp
 F:f7 g s.heap N O env (b4 sc) loc
 G:pV sc env
abbrev acM (dr:aO→ax au):Prop:=∀f x,qR[f]?=B x→(f !=14&&f !=15&&f !=16)=af→dr x=B (.ref (fm.getD f 0))
abbrev acN (dr:aO→ax au)(fM:aO→ax au):Prop:=∀k x,Ba A8 x=B k→dr x=ab∧fM x=B (yz k)
abbrev acO (dr:aO→ax au)(fM:aO→ax au):Prop:=∀k x,A9[k]?=B x→dr x=ab∧fM x=B (yA k)
abbrev acP (dr:aO→ax au):Prop:=∀x∈[("isinstance":aO),"enumerate","range"],dr x=ab
abbrev acQ (g:ci)(c:e9)(dr:aO→ax au):Prop:=∀i x,yo[i]?=B x→∃v d,dr x=B v∧c.La i=B d∧∀h N O hp,aR g h N O hp→aE g h N O d v
structure LC (g:ci)(c:e9)(dr fM:aO→ax au):Prop where
 fn:acM dr
 TF:∀k x,yn[k]?=B x→dr x=B (.ref (pC k))
 bn:acN dr fM
 TG:acO dr fM
 bi:acP dr
 ji:fM "isinstance"=B (.builtin "isinstance")
 vO:fM "enumerate"=B (.type "enumerate")
 qO:fM "range"=B (.type "range")
 fx:acQ g c dr
 ez:dr "BadOption"=B (.ref 46)
 TH:dr kE=B (.ref 414)
noncomputable abbrev t8:aO:="__debug__"
section
variable {g:ci}{A:dc}{s ar:a3}{K:a0}{f:α→dM LD}
theorem U.of (h:T g A aS O N s t R K1 X):U g A aS O N s t R K1 X:=bK.of h
theorem U.gT (h:U g A aS O N s (t ()) R K1 X):U g A aS O N s (ku pos>>=t) R K1 X:=nA h
theorem bz.un (e:bz g A n O N s env sc loc hp):A.units+50 < l7:=ts (QJ (e6 (ed _ _) e.C.un) 50) (by decide)
theorem bz.f3 (e:bz g A n O N s env sc loc hp)(st:b9 A [] N s bw ar)(jq:aR g ar.heap bw O bq):bz g A n O bw ar env sc loc bq:=⟨e.C.f3 e.H st,jq,e.F.f3 e.C e.H st,e.G⟩
theorem bz.qY (e:bz g A n O N s env sc loc hp)(st:b9 A aS N s bw ar)(jq:aR g ar.heap bw O bq)(lB:f7 g ar.heap bw O env (b4 sc) hL):bz g A n O bw ar env sc hL bq:=⟨e.C.f3 e.H st,jq,lB,e.G⟩
theorem bz.gj (e:bz g A n O N s env sc loc hp)(h:U g A [] O N s t R K1 X)(k:∀a aB bj bN b,bz g A n O bj aB env sc loc bN→cz N O bj O s.heap aB.heap→R aB.heap bj b a→K1 b bN→U g A [] O bj aB (f a) R2 K2 X):U g A [] O N s (t>>=f) R2 K2 X:=
 h.gj fun a aB bj bN b st H r q=>k a aB bj bN b (e.f3 st H) (st.dw e.C) r q
theorem bz.pW (e:bz g A n O N s env sc loc hp)(h:U g A [] O N s t R K1 X)(k:∀a aB bj bN b,bz g A n O bj aB env sc loc bN→cz N O bj O s.heap aB.heap→R aB.heap bj b a→K1 b bN→U g A [] O bj aB (f a) R2 K2 X):U g A [] O N s (kV vs t>>=f) R2 K2 X:=
 e.gj (fi h) k
abbrev LF (g:ci)(A:dc)(s:a3)(env:eo)(e:b7)(v:au):Prop:=∀(Q:au→a3→Prop) (E:au→a3→Prop),Q v s→bM (bB g.p g.w) A (eval e env) Q E s
theorem bz.oO (e:bz g A n O N s env sc loc hp)(hx:gC sc x=af)(hd:(x==t8)=ae)(bZ:g.b.Ns i8 dr)(av:dr x=B v):LF g A s env (.Name x pos) v:=fun I I q=>
 J7 e.F.ok.bk (e.G.g x hx) (RP (Y e.F.ok.iY (e.H.oO bZ (by decide))) av q) hd
theorem bz.tU (e:bz g A n O N s env sc loc hp)(hx:gC sc x=af)(hd:(x==t8)=ae)(bZ:g.b.Ns i8 dr)(ay:g.b.Ns lu fM)(aA:dr x=ab)(av:fM x=B v):LF g A s env (.Name x pos) v:=fun I I q=>
 J7 e.F.ok.bk (e.G.g x hx) (loadGlobal_builtin (Y e.F.ok.iY (e.H.oO bZ (by decide))) aA (Y e.F.ok.tU (e.H.oO ay (by decide))) av q) hd
theorem acR (H:aR g s.heap N O hp)(h:SS k=B d)(q:K d hp):dP g A O N s (constValue env k) K X:=by
 cases k<;>cases h
 ·exact cs (.dj H aE.z q)
 ·exact cs (.dj H (aE.o _) q)
 ·exact bK.of (Av (.dV H (aE.i _ _) q))
 ·exact bK.of (JN (.dV H (aE.x _ _) q))
 ·exact bK.of (wpAny_mkTextBytes (.dV H (aE.b _ _) q))
set_option tactic.hygienic true in
theorem TJ (h:tY o=af):attributeBase o x env t=t:=by
 cases o<;>first|rfl|skip
 rename_i f as mj p
 cases f<;>first|rfl|skip
 induction as<;>first|rfl|skip
 cases mj<;>first|rfl|exact nb h
noncomputable abbrev c5 (es:J b7)(env:eo):J (aZ×dM au):=es.map fun e=>(ae,eval e env)
theorem acS (h:sm e=ae):EJ (e::r) env=(ae,eval e env)::EJ r env:=by
 cases e<;>first|rfl|exact iV h
theorem TK:∀{es:J b7},i0 es=af→EJ es env=c5 es env
 | [],_=>rfl
 |e::r,h=>by
  have h:=ct.mp h
  refine Y (acS (l2.mp h.1)) (Y (TK h.2) ?_);rfl
theorem TL:∀es:J b7,backTo pos (c5 es env)=c5 es env
 | []=>rfl
 |e::r=>bl (_::·) (TL r)
theorem TM:∀es:J b7,(c5 es env).any (·.1)=ae
 | []=>rfl
 |e::r=>TM r
theorem TN:∀es:J b7,(c5 es env).all (!·.1)=af
 | []=>rfl
 |e::r=>TN r
theorem FO:mN ((ae,x)::rest)=(x>>=fun v=>(bV [v]>>=fun here=>kV here (mN rest)>>=fun r=>bV (here++r))):=rfl
theorem bz.dN {K:J D→J ap→Prop}(e:bz g A n O N s env sc loc hp)(h:dP g A O N s x K1 X)(k:∀d bN aB bj,bz g A n O bj aB env sc loc bN→K1 d bN→AY g A O bj aB (mN rest) (fun ds hp=>K (d::ds) hp) X):AY g A O N s (mN ((ae,x)::rest)) K X:=Y FO (e.gj h fun v aB bj bN d E I r kd=>cc (cs (E.pW (k d bN aB bj E kd) fun vs c6 fk il ds dQ M i1 kk=>U.mb (b:=d::ds) dQ.H (.mk (M.v r) i1) kk)))
abbrev acT (g:ci)(A:dc)(O N:J aC)(s:a3)(t:dM Args)(R:b8→J aC→δ→J au→Prop)(K:δ→J ap→Prop)(X:J ap→Prop):Prop:=U g A [] O N s t (fun h N ds a=>a.kw=[]∧R h N ds a.pos) K X
theorem TO (f:au):∀es:J b7,AA f af (c5 es env) []=(mN (c5 es env)>>=fun pos=>kV (pos++[]) (evalAll []>>=fun I=>bV ⟨pos,[]⟩))
 | []=>by unfold AA;simp[mN,evalAll]
 |_::_=>by unfold AA;simp[evalAll]
theorem U.acU {f:au}(h:U g A [] O N s (mN (c5 es env)) R K2 X):acT g A O N s (AA f af (c5 es env) []) R K2 X:=Y (TO ..) (h.gj fun vs aB bj bN ds I H r k=>fi (cc (cs (cs (.dj H ⟨rfl,r⟩ k)))))
inductive su (g:ci)(A:dc)(f:au)(s:a3):Prop
 |FP (h:∀(Q:Keeper→a3→Prop) (E:au→a3→Prop),Q .machine s→bM (bB g.p g.w) A (AB f) Q E s)
 |TP (h:∀(Q:Keeper→a3→Prop) (E:au→a3→Prop),Q .frame s→bM (bB g.p g.w) A (AB f) Q E s)
theorem su.mb {f:au}(e:AB f=bV .machine):su g A f s:=.FP fun Q I q=>e▸(cq q)
theorem TQ {f:au}(aA:es.length≤30)(h:bK (bB g.p g.w) A (AA f af (c5 es env) []) (fun a aB=>(a.kw=[]∧su g A f aB)∧bK (bB g.p g.w) A (cY f (first++a.pos) []) Q E aB) E s):
  bK (bB g.p g.w) A (vt pos f first (c5 es env) []) Q E s:=by
 unfold vt
 refine cc (fi (ew h (fun a aB r=>nA ?_) fun I I q=>q))
 obtain⟨⟨e,hk⟩,FQ⟩:=r
 have fin:∀t:dM au,bK (bB g.p g.w) A t Q E aB→bK (bB g.p g.w) A (t>>=fun r=>kV [r] point>>=fun I=>bV r) Q E aB:=fun t h=>cc (ew h (fun I I q=>cc (fi (KN (cs q)))) fun I I q=>q)
 refine Y e (Y (TM ..) ?_)
 induction hk with
 |FP h=>exact d1 (h _ _ (fin _ FQ))
 |TP h=>
  refine d1 (h _ _ ?_)
  show bK _ _ (if _ then _ else _) _ _ _
  refine Y (bL (by refine Y (cH ..) ?_;exact mI.mpr aA)) ?_
  exact fin _ (aaJ FQ)
theorem Bq {f:au}(aA:es.length≤30)(b0:U g A [] O N s (mN (c5 es env)) R K1 X)(hk:∀(aB:a3) bj bN,aR g aB.heap bj O bN→su g A f aB)(k:∀ds vs bN aB bj,b9 A [] N s bj aB→aR g aB.heap bj O bN→R aB.heap bj ds vs→K1 ds bN→bK (bB g.p g.w) A (cY f (first++vs) []) Q E aB)(gA:∀x ar,gR g A [] O N s X x ar→E x ar):bK (bB g.p g.w) A (vt pos f first (c5 es env) []) Q E s:=
 TQ aA (b0.acU.jH (fun a aB bj bN ds st H r kk=>⟨⟨r.1,hk aB bj bN H⟩,k ds a.pos bN aB bj st H r.2 kk⟩) gA)
theorem acV {f:au}(hk:su g A f s)(h:bK (bB g.p g.w) A (cY f [] []) Q E s):bK (bB g.p g.w) A (vt pos f [] (c5 [] env) []) Q E s:=
 TQ (jD _) (Y (TO ..) (cc (cs (fi (cc (cs (cs ⟨⟨rfl,hk⟩,h⟩)))))))
theorem bz.yB {f:au}{first:J au}{es:J b7}{K1:d0→J ap→Prop}{R:b8→J aC→d0→J au→Prop}(e:bz g A n O N s env sc loc hp)(aA:es.length≤30)(b0:U g A [] O N s (mN (c5 es env)) R K1 X)
  (hk:∀(aB:a3) bj bN,aR g aB.heap bj O bN→su g A f aB)
  (k:∀ds vs bN aB bj,bz g A n O bj aB env sc loc bN→cz N O bj O s.heap aB.heap→R aB.heap bj ds vs→K1 ds bN→dP g A O bj aB (cY f (first++vs) []) K X):dP g A O N s (vt pos f first (c5 es env) []) K X:=
 Bq aA b0 hk (fun ds vs bN aB bj st H r q=>ew (k ds vs bN aB bj (e.f3 st H) (st.dw e.C) r q) (fun I I=>.jG st) fun I I=>.jG st) fun I I q=>q
end
noncomputable def Ty.nm:Ty→gg
 | .V=>"bytes" | .nH=>"tuple" | .br=>"list" | .bv=>"dict" | .pK=>"bytearray"
noncomputable def oz.nm:oz→gg
 | .eP=>"append" | .mc=>"extend" | .tQ=>"update" | .sd=>"pop" | .fv=>"get" | .oA=>"find" | .se=>"startswith" | .pL=>"split" | .A1=>"replace" | .A2=>"join" | .tR=>"index"
noncomputable abbrev Br (f:oz)(t:Ty):gg:=t.nm++"."++f.nm
abbrev acW (g:ci):Prop:=∀f x,qR[f]?=B x→∃o fd,g.b.get? (fm.getD f 0)=B o∧o.cls=.type "function"∧o.data=.func fd∧fm.getD f 0∉gh
abbrev acX (g:ci):Prop:=∃gp,sr g.b 1 gp∧gp "get"=B (.ref 191)∧gp "set"=B (.ref 199)∧gp "unset"=B (.ref 206)
abbrev acY (g:ci)(c:e9):Prop:=∀{A O N s hp f vs ds K X},fc A c.lv O s.heap→aR g s.heap N O hp→cp g s.heap N O ds vs→c.bp c.lv f ds hp K X→dP g A O N s (cY (.ref (fm.getD f 0)) vs []) K X
abbrev acZ (g:ci)(c:e9):Prop:=∀{A O N s hp k vs ds K X},fc A c.lv O s.heap→aR g s.heap N O hp→cp g s.heap N O ds vs→c.e0 c.lv k ds hp K X→dP g A O N s (cY (.ref (pC k)) vs []) K X
abbrev ac0 (g:ci)(c:e9):Prop:=∀{A O N s hp m f vs ds K X},fc A c.lv O s.heap→aR g s.heap N O hp→cp g s.heap N O ds vs→j5 m f ds hp K→dP g A O N s (cY (yz f) vs []) K X
abbrev ac1 (g:ci)(c:e9):Prop:=∀{A O N s hp t v d K X},fc A c.lv O s.heap→aR g s.heap N O hp→aE g s.heap N O d v→sj hp d t K→dP g A O N s (cY (.builtin "isinstance") [v,yA t] []) K X
abbrev ac2 (g:ci)(c:e9):Prop:=∀{A O N s hp f t v vs d ds K X},fc A c.lv O s.heap→aR g s.heap N O hp→aE g s.heap N O d v→cp g s.heap N O ds vs→k0 hp d=B t→A5 f t=af→mg f d ds hp K→dP g A O N s (cY (.builtin (Br f t)) (v::vs) []) K X
structure ft (g:ci)(c:e9):Prop where
 mm:∀k,∃gp,sr g.b k gp
 iY:∃dr fM,g.b.Ns i8 dr∧g.b.Ns lu fM∧LC g c dr fM
 fn:acW g
 fJ:acX g
 bp:acY g c
 e0:acZ g c
 bi:ac0 g c
 ji:ac1 g c
 bm:ac2 g c
abbrev FR (g:ci)(h:b8)(N O:J aC):J (D×D)→J (au×au)→Prop
 | []=>j0
 | (a,b)::l=>mQ (fun p=>aE g h N O a p.1∧aE g h N O b p.2) (FR g h N O l)
abbrev ac3 (g:ci)(c:e9)(n:ah):Prop:=∀{k e sc env X loc hp K A O N s},bz g A c.lv O N s env sc loc hp→bT c n (b1 bA k sc e) X loc hp K→dP g A O N s (eval e env) K X
abbrev ac4 (g:ci)(c:e9)(n:ah):Prop:=∀{k es sc env X loc hp K A O N s},bz g A c.lv O N s env sc loc hp→j7 c n (fT bA k sc es) X loc hp K→AY g A O N s (mN (c5 es env)) K X
abbrev ac5 (g:ci)(c:e9)(n:ah):Prop:=∀{k cK vs sc env X loc hp K A O N s pos},bz g A c.lv O N s env sc loc hp→A7 c n (fT bA k sc cK) (fT bA k sc vs) X loc hp K→U g A [] O N s (evalPairs (pairTrees (cK.map B) vs env pos)) (fun h N=>FR g h N O) K X
abbrev ac6 (g:ci)(c:e9)(n:ah):Prop:=∀{k o sc env X loc hp K A O N s},bz g A c.lv O N s env sc loc hp→yl c n (tZ bA k sc o) X loc hp K→U g A [] O N s (valueOrNone (evalOpt o env)) (fun h N=>t7 g h N O) K X
abbrev ac7 (g:ci)(c:e9)(n:ah):Prop:=∀{k es sc env X loc hp K A O N s pos op},bz g A c.lv O N s env sc loc hp→A6 c n (op==xX) (fT bA k sc es) X loc hp K→dP g A O N s (boolOp pos op (evalEach es env)) K X
abbrev ac8 (g:ci)(c:e9)(n:ah):Prop:=∀{k es sc env X loc hp K A O N s op},bz g A c.lv O N s env sc loc hp→oE c n (op==xX) (qT bA k sc es) X loc hp K→yg g A O N s (allTrue op es env) K X
structure db (g:ci)(c:e9)(n:ah):Prop where
 e:ac3 g c n
 l:ac4 g c n
 p:ac5 g c n
 o:ac6 g c n
 cA:ac7 g c n
 b:∀{k e sc env X loc hp K A O N s},bz g A c.lv O N s env sc loc hp→jl c n (m2 bA k sc e) X loc hp K→yg g A O N s (xV e env (eval e env)) K X
 eQ:ac8 g c n
section
variable {K:a0}
theorem kH (h:bT c n .ez X loc hp K):bt:=by induction n<;>exact h
theorem h3 (h:bT c n (hJ b x) X loc hp K):b=af∧bT c n x X loc hp K:=by
 induction b with
 |true=>exact⟨rfl,h⟩
 |false=>exact(kH h).elim
theorem nS (h:bT c n (iw o f) X loc hp K):cQ o fun a=>bT c n (f a) X loc hp K:=by
 induction o with
 |some a=>exact .mk rfl h
 |none=>exact(kH h).elim
theorem t9 (h:bT c n (bS o f y) X loc hp K):cQ o (fun a=>bT c n (f a) X loc hp K)∨bT c n y X loc hp K:=by
 induction o with
 |some a=>exact .inl (.mk rfl h)
 |none=>exact .inr h
theorem U.ua {K:aZ→J ap→Prop}(h:U g A [] O N s t (fun I I b v=>v=.bool b) K X)(k:∀b hp,K b hp→K' (.be b) hp):dP g A O N s t K' X:=
 ew h (fun I I x=>by induction x with|mk a b c d=>exact Y c (.mk a b (aE.o _) (k _ _ d))) fun I I x=>x
theorem Bs (h:ei b P Q)(bE:P→bK M A a Qq Ee s)(hf:b=ae→Q→bK M A d Qq Ee s):bK M A (if b=af then a else d) Qq Ee s:=by
 induction b with
 |true=>exact bE h
 |false=>exact hf rfl h
theorem ac9 {l:cD}{i:ah}(h:l[i]?.join=B d):l[i]?=B (B d):=by
 generalize l[i]?=o at *
 induction o with
 |none=>exact nn h
 |some o=>exact bl B h
theorem Bt:∀l∈[yo,qR,yn,A9,A8.map fun p=>ly p.1],∀x∈l,(x==t8)=ae:=by decide+kernel
theorem ada (W:ft g c)(E:bz g A c.lv O N s env sc loc hp)(h:bT c (n+1) (bS ((b4 sc).idxOf? x) .aa (hJ (gC sc x) (iw (yo.idxOf? x) .fl))) X loc hp K):dP g A O N s (eval (.Name x pos) env) K X:=by
 refine(t9 h).elim (fun h=>?_) fun h=>?_
 ·induction h with|mk e h=>
  induction cQ.of h with|mk q h=>
  exact .of (T.aa8 E.F E.H (k4 e) (ac9 q) h)
 ·refine(h3 h).elim fun hx h=>?_
  induction nS h with|mk e h=>
  obtain⟨dr,fM,bZ, -,gl⟩:=W.iY
  refine(gl.fx _ x (k4 e)).elim fun v cj=>cj.elim fun d d3=>d3.elim fun aY fW=>fW.elim fun bu cu=>?_
  induction cQ.of h with|mk q h=>
  cases bo (bu.symm.trans q)
  exact .of (E.oO hx (Bt _ (.head _) x (gZ (k4 e))) bZ aY _ _ (.dj E.H (cu _ _ _ _ E.H) h))
theorem adb (aD:db g c n)(E:bz g A c.lv O N s env sc loc hp)(h:bT c n (b1 bA k sc l) X loc hp fun a hp=>bT c n (b1 bA k sc r) X loc hp fun b hp=>pM m op a b hp K):dP g A O N s (eval (.BinOp l op r pos) env) K X:=
 E.gj (aD.e E h) fun a aB bj bN d bX oP jr h=>bX.pW (aD.e bX h) fun b c6 fk il sv dQ kI i1 h=>U.gT (KL (.of (ab5 dQ.H (kI.v jr) i1 h)))
theorem LG (aD:db g c n)(E:bz g A c.lv O N s env sc loc hp)(h:bT c n (b1 bA k sc x) X loc hp K1)(q:∀{N s hp a v},bz g A c.lv O N s env sc loc hp→aE g s.heap N O a v→K1 a hp→eF g A O N s (EM op v) K X):dP g A O N s (eval (.UnaryOp op x pos) env) K X:=
 E.gj (aD.e E h) fun a aB bj bN d bX oP jr h=>U.gT (fi (.of (q bX jr h)))
theorem adc (H:aR g s.heap N O hp)(av:aE g s.heap N O a v)(h:si a fun b=>K (.be (!b)) hp):eF g A O N s (EM .Not v) K X:=
 not_value (ou (Ls (K:=fun b hp=>K (.be (!b)) hp) H av h) (fun I I x=>by induction x with|mk a b c d=>exact Y c (.mk a b (aE.o _) d)) fun I I x=>x)
theorem ade (aD:db g c n)(E:bz g A c.lv O N s env sc loc hp)(h:jl c n (m2 bA k sc t) X loc hp fun v hp=>ei v (bT c n (b1 bA k sc b) X loc hp K) (bT c n (b1 bA k sc o) X loc hp K)):dP g A O N s (eval (.IfExp t b o pos) env) K X:=
 E.gj (aD.b E h) fun v aB bj bN b bX I e h=>by subst e;exact Bs h (aD.e bX) fun I=>aD.e bX
theorem LH (h:bT c n (b1 bA k sc (.Set es j p)) X loc hp K):bt:=by induction k<;>exact kH h
theorem TR (h:bT c n (b1 bA k sc r) X loc hp K):JH op r t=t:=by
 refine markedBehindIn_of_false ?_
 cases r<;>first|rfl|exact(LH h).elim
noncomputable abbrev adf (op:qC)(u v:au):dM au:=EL [u,v] (mL op u v)
noncomputable abbrev adg (op:qC)(u v:au):dM aZ:=do let c←EL [u,v] (mL op u v);kV [c] (ES c)
abbrev FS (g:ci)(w:aZ→α)(fin:qC→au→au→dM α):Prop:=∀{A n O N s env sc loc hp op u v a b K X},bz g A n O N s env sc loc hp→aE g s.heap N O a u→aE g s.heap N O b v→(eg op a b hp fun x=>K x hp)→U g A [] O N s (fin op u v) (fun I I b v=>v=w b) K X
theorem LI {K:aZ→J ap→Prop}(E:bz g A n O N s env sc loc hp)(bP:aE g s.heap N O a u)(av:aE g s.heap N O b v)(h:eg op a b hp fun x=>K x hp):U g A [] O N s (mL op u v) (fun I I b v=>v=.bool b) K X:=
 .of (act E.H E.C.hd (e6 (eH (by decide) _) E.un) bP av h)
theorem TS:FS g Sm adf:=fun E bP av h=>KL (LI E bP av h)
theorem TU:FS g (fun b=>b) adg:=fun E bP av h=>E.gj (KL (LI E bP av h)) fun v aB bj bN b bX I e k=>by subst e;exact fi (bK.of (xH (.dj bX.H rfl k)))
variable {fin:qC→au→au→dM α}
theorem TV (aD:db g c n)(F:FS g w fin)(E:bz g A c.lv O N s env sc loc hp)(h:bT c n (b1 bA k sc l) X loc hp fun a hp=>bT c n (b1 bA k sc r) X loc hp fun b hp=>eg op a b hp fun v=>K' v hp):
  U g A [] O N s (eval l env>>=fun a=>kV [a] (JH op r (eval r env))>>=fun b=>ku pos>>=fun I=>fin op a b) (fun I I b v=>v=w b) K' X:=
 E.gj (aD.e E h) fun a aB bj bN d bX oP jr h=>by
  exact Y (TR h) (bX.pW (aD.e bX h) fun b c6 fk il sv dQ kI i1 h=>U.gT (F dQ (kI.v jr) i1 h))
theorem TW (aD:db g c n)(F:FS g w fin){stop:au→dM α}(aG:stop (.bool ae)=bV (w ae))(E:bz g A c.lv O N s env sc loc hp)(h:bT c n (b1 bA k sc l) X loc hp fun a hp=>bT c n (b1 bA k sc x) X loc hp fun b hp=>eg hV a b hp fun v=>ei v (bT c n (b1 bA k sc r) X loc hp fun d hp=>eg hW b d hp fun v=>K' v hp) (K' ae hp)):
  U g A [] O N s (eval l env>>=fun a=>kV [a] (eval x env)>>=fun b=>ku pos>>=fun I=>kV [a,b] (mL hV a b)>>=fun c=>release [a,b] [c]>>=fun I=>kV [c,b] (ES c)>>=fun t=>if t=af then(kV [b] (JH hW r (eval r env))>>=fun d=>ku pos>>=fun I=>fin hW b d)else stop c) (fun I I b v=>v=w b) K' X:=
 E.gj (aD.e E h) fun a aB bj bN d bX oP jr h=>bX.pW (aD.e bX h) fun b c6 fk il sv dQ kI i1 h=>U.gT (dQ.pW (LI (K:=fun v hp=>ei v (bT c n (b1 bA k sc r) X loc hp fun d hp=>eg hW sv d hp fun v=>K' v hp) (K' ae hp)) dQ (kI.v jr) i1 h) fun v c4 hb k5 yC fy v2 e h=>by
  subst e
  refine cc (Sy (cc (fi (bK.of (xH (Bs h (fun h=>?_) fun e h=>?_))))))
  ·exact Y (TR h) (fy.pW (aD.e fy h) fun b pX LJ LK ap9 qZ adh LL h=>U.gT (F qZ (adh.v (v2.v i1)) LL h))
  ·subst e
   exact Y aG (U.mb fy.H rfl h))
theorem adi (aD:db g c n)(E:bz g A c.lv O N s env sc loc hp){K:J D→J ap→Prop}(h:j7 c (n+1) (fT bA k sc es) X loc hp K):AY g A O N s (mN (c5 es env)) K X:=by
 cases k with
 |zero=>exact(kH (show bT c n .ez X loc hp _ from h)).elim
 |succ k=>
  induction es with
  |nil=>exact cs (.dj (b:=[]) E.H j0.mk h)
  |cons e r=>exact E.dN (aD.e E h) fun d bN aB bj bX h=>aD.l bX h
theorem adj (aD:db g c n)(E:bz g A c.lv O N s env sc loc hp){K:ax D→J ap→Prop}(h:yl c (n+1) (tZ bA k sc o) X loc hp K):U g A [] O N s (valueOrNone (evalOpt o env)) (fun h N=>t7 g h N O) K X:=by
 cases k with
 |zero=>exact(kH (show bT c n .ez X loc hp _ from h)).elim
 |succ k=>
  induction o with
  |none=>exact cs (.dj (b:=ab) E.H (tM.mk ()) h)
  |some e=>exact ew (aD.e E h) (fun I I x=>by induction x with|mk a b c d=>exact .mk (b:=B _) a b c d) fun I I x=>x
theorem adk (aD:db g c n)(E:bz g A c.lv O N s env sc loc hp){K:J (D×D)→J ap→Prop}(h:A7 c (n+1) (fT bA k sc cK) (fT bA k sc vs) X loc hp K):U g A [] O N s (evalPairs (pairTrees (cK.map B) vs env pos)) (fun h N=>FR g h N O) K X:=by
 cases k with
 |zero=>exact(kH (show bT c n .ez X loc hp _ from h)).elim
 |succ k=>
  cases cK with
  |nil=>induction vs with
   |nil=>exact cs (.dj (b:=[]) E.H j0.mk h)
   |cons=>exact h.elim
  |cons e cK=>induction vs with
   |nil=>exact h.elim
   |cons v vs=>
    exact E.gj (aD.e E h) fun ka aB bj bN d bX oP r h=>bX.pW (R:=fun h N=>aE g h N O) (bX.gj (aD.e bX h) fun ub c6 fk il sv dQ kI i1 h=>U.gT (U.mb dQ.H i1 h)) fun ub c6 fk il sv dQ kI i1 h=>
     dQ.pW (aD.p dQ h) fun l c4 hb k5 m fy v2 sx h=>U.mb (b:=(d,sv)::m) fy.H (.mk ⟨v2.v (kI.v r),v2.v i1⟩ sx) h
theorem adl (aD:db g c n)(E:bz g A c.lv O N s env sc loc hp){op:BoolOp}{K:aZ→J ap→Prop}(h:oE c (n+1) (op==xX) (qT bA k sc es) X loc hp K):yg g A O N s (allTrue op es env) K X:=by
 cases k with
 |zero=>
  induction n with
  |zero=>exact(show bt from h).elim
  |succ n=>exact(show bt from h).elim
 |succ k=>
  cases es with
  |nil=>exact cs (.dj E.H rfl h)
  |cons e r=>
   refine E.gj (aD.b E h) fun t aB bj bN b bX oP e h=>?_
   subst e
   induction op<;>induction t
   ·exact U.mb bX.H rfl h
   ·exact aD.eQ bX h
   ·exact aD.eQ bX h
   ·exact U.mb bX.H rfl h
theorem adm (aD:db g c n)(E:bz g A c.lv O N s env sc loc hp){op:BoolOp}(h:A6 c (n+1) (op==xX) (fT bA k sc es) X loc hp K):dP g A O N s (boolOp pos op (evalEach es env)) K X:=by
 cases k with
 |zero=>exact(kH (show bT c n .ez X loc hp _ from h)).elim
 |succ k=>
  cases es with
  |nil=>exact h.elim
  |cons e es=>
   cases k with
   |zero=>
    cases n with
    |zero=>induction es<;>exact(show bt from h).elim
    |succ n=>induction es<;>exact(show bt from h).elim
   |succ k=>
    cases es with
    |nil=>exact aD.e E h
    |cons aN r=>
     refine E.gj (aD.e E h) fun v aB bj bN d bX oP jr h=>U.gT ?_
     refine bX.pW (.of (Ls (K:=fun v hp=>ei (v==(op==xX)) (A6 c n (op==xX) (fT bA (k+1) sc (aN::r)) X loc hp K) (K d hp)) bX.H jr h)) fun t c6 fk il b dQ kI e h=>?_
     subst e
     induction op<;>induction t
     ·exact U.mb dQ.H (kI.v jr) h
     ·exact aD.cA dQ h
     ·exact aD.cA dQ h
     ·exact U.mb dQ.H (kI.v jr) h
theorem TX {K:aZ→J ap→Prop}(aD:db g c n)(E:bz g A c.lv O N s env sc loc hp)(cP:xV e env (eval e env)=(do let v←eval e env;ku e.pos;kV [v] (ES v)))(h:bT c n (b1 bA k sc e) X loc hp fun d hp=>si d fun b=>K b hp):yg g A O N s (xV e env (eval e env)) K X:=Y cP (E.gj (aD.e E h) fun v aB bj bN d bX oP r h=>U.gT (fi (.of (Ls bX.H r h))))
end
namespace M
theorem adn:xN "bytearray":=⟨⟨"bytearray.__getattribute__",by rw[fG,fF];kernel_rfl,by decide+kernel⟩,by rw[fG,fF];kernel_rfl⟩
theorem TY:Kk.lookup (Kw ['y','a','r','r','a','e','t','y','b'].reverse)=B Manifest.sig_bytearray:=by kernel_rfl
theorem ado:xN "bytes":=⟨⟨"bytes.__getattribute__",by rw[fG,fF];kernel_rfl,by decide+kernel⟩,by rw[fG,fF];kernel_rfl⟩
theorem Bu:Kk.lookup (Kw ['s','e','t','y','b'].reverse)=B Manifest.sig_bytes:=by kernel_rfl
theorem adp:xN "list":=⟨⟨"list.__getattribute__",by rw[fG,fF];kernel_rfl,by decide+kernel⟩,by rw[fG,fF];kernel_rfl⟩
theorem adq:xN "dict":=⟨⟨"dict.__getattribute__",by rw[fG,fF];kernel_rfl,by decide+kernel⟩,by rw[fG,fF];kernel_rfl⟩
theorem adr:xN "tuple":=⟨⟨"tuple.__getattribute__",by rw[fG,fF];kernel_rfl,by decide+kernel⟩,by rw[fG,fF];kernel_rfl⟩
theorem ads:Kk.lookup (Kw ['e','l','p','u','t'].reverse)=B Manifest.sig_tuple:=by kernel_rfl
theorem adt:kv "list" "append" "list.append":=
 .of (owner:="list") (n:="append") (by rw[fG,fF];kernel_rfl) (by decide+kernel) (by decide+kernel) (by decide+kernel)
  (by first|exact .inl (by decide+kernel)|exact .inr (by decide+kernel)) (by rw[kS];kernel_rfl)
theorem adu:kW (.builtin "list.append")=bV (.type "method_descriptor"):=by show ny _=_;refine nx▸?_;kernel_rfl
theorem adv:kv "list" "extend" "list.extend":=
 .of (owner:="list") (n:="extend") (by rw[fG,fF];kernel_rfl) (by decide+kernel) (by decide+kernel) (by decide+kernel)
  (by first|exact .inl (by decide+kernel)|exact .inr (by decide+kernel)) (by rw[kS];kernel_rfl)
theorem adw:kW (.builtin "list.extend")=bV (.type "method_descriptor"):=by show ny _=_;refine nx▸?_;kernel_rfl
theorem TZ:kv "bytearray" "append" "bytearray.append":=
 .of (owner:="bytearray") (n:="append") (by rw[fG,fF];kernel_rfl) (by decide+kernel) (by decide+kernel) (by decide+kernel)
  (by first|exact .inl (by decide+kernel)|exact .inr (by decide+kernel)) (by rw[kS];kernel_rfl)
theorem adx:kW (.builtin "bytearray.append")=bV (.type "method_descriptor"):=by show ny _=_;refine nx▸?_;kernel_rfl
theorem ady:kU jb "bytearray.append"=B Builtin.«bytearray.append»:=qy (by kernel_rfl)
theorem adz (a b:au):ja "bytearray.append" ⟨[a,b],[]⟩:=by
 unfold ja;refine(tx (id:="bytearray.append") (n:=['d','n','e','p','p','a']) (o:=['y','a','r','r','a','e','t','y','b']) (by kernel_rfl) TY)▸?_;kernel_rfl
theorem T1:kv "bytearray" "extend" "bytearray.extend":=
 .of (owner:="bytearray") (n:="extend") (by rw[fG,fF];kernel_rfl) (by decide+kernel) (by decide+kernel) (by decide+kernel)
  (by first|exact .inl (by decide+kernel)|exact .inr (by decide+kernel)) (by rw[kS];kernel_rfl)
theorem adA:kW (.builtin "bytearray.extend")=bV (.type "method_descriptor"):=by show ny _=_;refine nx▸?_;kernel_rfl
theorem adB:kU jb "bytearray.extend"=B Builtin.«bytearray.extend»:=qy (by kernel_rfl)
theorem adC (a b:au):ja "bytearray.extend" ⟨[a,b],[]⟩:=by
 unfold ja;refine(tx (id:="bytearray.extend") (n:=['d','n','e','t','x','e']) (o:=['y','a','r','r','a','e','t','y','b']) (by kernel_rfl) TY)▸?_;kernel_rfl
theorem adD:kv "dict" "update" "dict.update":=
 .of (owner:="dict") (n:="update") (by rw[fG,fF];kernel_rfl) (by decide+kernel) (by decide+kernel) (by decide+kernel)
  (by first|exact .inl (by decide+kernel)|exact .inr (by decide+kernel)) (by rw[kS];kernel_rfl)
theorem adE:kW (.builtin "dict.update")=bV (.type "method_descriptor"):=by show ny _=_;refine nx▸?_;kernel_rfl
theorem adF:kv "dict" "pop" "dict.pop":=
 .of (owner:="dict") (n:="pop") (by rw[fG,fF];kernel_rfl) (by decide+kernel) (by decide+kernel) (by decide+kernel)
  (by first|exact .inl (by decide+kernel)|exact .inr (by decide+kernel)) (by rw[kS];kernel_rfl)
theorem adG:kW (.builtin "dict.pop")=bV (.type "method_descriptor"):=by show ny _=_;refine nx▸?_;kernel_rfl
theorem adH:kv "dict" "get" "dict.get":=
 .of (owner:="dict") (n:="get") (by rw[fG,fF];kernel_rfl) (by decide+kernel) (by decide+kernel) (by decide+kernel)
  (by first|exact .inl (by decide+kernel)|exact .inr (by decide+kernel)) (by rw[kS];kernel_rfl)
theorem adI:kW (.builtin "dict.get")=bV (.type "method_descriptor"):=by show ny _=_;refine nx▸?_;kernel_rfl
theorem T2:kv "bytes" "find" "bytes.find":=
 .of (owner:="bytes") (n:="find") (by rw[fG,fF];kernel_rfl) (by decide+kernel) (by decide+kernel) (by decide+kernel)
  (by first|exact .inl (by decide+kernel)|exact .inr (by decide+kernel)) (by rw[kS];kernel_rfl)
theorem adJ:kW (.builtin "bytes.find")=bV (.type "method_descriptor"):=by show ny _=_;refine nx▸?_;kernel_rfl
theorem adK:kU jb "bytes.find"=B Builtin.«bytes.find»:=qy (by kernel_rfl)
theorem adL (a b:au):ja "bytes.find" ⟨[a,b],[]⟩:=by
 unfold ja;refine(tx (id:="bytes.find") (n:=['d','n','i','f']) (o:=['s','e','t','y','b']) (by kernel_rfl) Bu)▸?_;kernel_rfl
theorem T3:kv "bytes" "startswith" "bytes.startswith":=
 .of (owner:="bytes") (n:="startswith") (by rw[fG,fF];kernel_rfl) (by decide+kernel) (by decide+kernel) (by decide+kernel)
  (by first|exact .inl (by decide+kernel)|exact .inr (by decide+kernel)) (by rw[kS];kernel_rfl)
theorem adM:kW (.builtin "bytes.startswith")=bV (.type "method_descriptor"):=by show ny _=_;refine nx▸?_;kernel_rfl
theorem adN:kU jb "bytes.startswith"=B Builtin.«bytes.startswith»:=qy (by kernel_rfl)
theorem adO (a b:au):ja "bytes.startswith" ⟨[a,b],[]⟩:=by
 unfold ja;refine(tx (id:="bytes.startswith") (n:=['h','t','i','w','s','t','r','a','t','s']) (o:=['s','e','t','y','b']) (by kernel_rfl) Bu)▸?_;kernel_rfl
theorem T4:kv "bytes" "split" "bytes.split":=
 .of (owner:="bytes") (n:="split") (by rw[fG,fF];kernel_rfl) (by decide+kernel) (by decide+kernel) (by decide+kernel)
  (by first|exact .inl (by decide+kernel)|exact .inr (by decide+kernel)) (by rw[kS];kernel_rfl)
theorem adP:kW (.builtin "bytes.split")=bV (.type "method_descriptor"):=by show ny _=_;refine nx▸?_;kernel_rfl
theorem adQ:kU jb "bytes.split"=B Builtin.«bytes.split»:=qy (by kernel_rfl)
theorem adR (a b:au):ja "bytes.split" ⟨[a,b],[]⟩:=by
 unfold ja;refine(tx (id:="bytes.split") (n:=['t','i','l','p','s']) (o:=['s','e','t','y','b']) (by kernel_rfl) Bu)▸?_;kernel_rfl
theorem T5:kv "bytes" "replace" "bytes.replace":=
 .of (owner:="bytes") (n:="replace") (by rw[fG,fF];kernel_rfl) (by decide+kernel) (by decide+kernel) (by decide+kernel)
  (by first|exact .inl (by decide+kernel)|exact .inr (by decide+kernel)) (by rw[kS];kernel_rfl)
theorem adS:kW (.builtin "bytes.replace")=bV (.type "method_descriptor"):=by show ny _=_;refine nx▸?_;kernel_rfl
theorem adT:kU jb "bytes.replace"=B Builtin.«bytes.replace»:=qy (by kernel_rfl)
theorem adU (a b c:au):ja "bytes.replace" ⟨[a,b,c],[]⟩:=by
 unfold ja;refine(tx (id:="bytes.replace") (n:=['e','c','a','l','p','e','r']) (o:=['s','e','t','y','b']) (by kernel_rfl) Bu)▸?_;kernel_rfl
theorem T6:kv "bytes" "join" "bytes.join":=
 .of (owner:="bytes") (n:="join") (by rw[fG,fF];kernel_rfl) (by decide+kernel) (by decide+kernel) (by decide+kernel)
  (by first|exact .inl (by decide+kernel)|exact .inr (by decide+kernel)) (by rw[kS];kernel_rfl)
theorem adV:kW (.builtin "bytes.join")=bV (.type "method_descriptor"):=by show ny _=_;refine nx▸?_;kernel_rfl
theorem adW:kU jb "bytes.join"=B Builtin.«bytes.join»:=qy (by kernel_rfl)
theorem adX (a b:au):ja "bytes.join" ⟨[a,b],[]⟩:=by
 unfold ja;refine(tx (id:="bytes.join") (n:=['n','i','o','j']) (o:=['s','e','t','y','b']) (by kernel_rfl) Bu)▸?_;kernel_rfl
theorem T7:kv "tuple" "index" "tuple.index":=
 .of (owner:="tuple") (n:="index") (by rw[fG,fF];kernel_rfl) (by decide+kernel) (by decide+kernel) (by decide+kernel)
  (by first|exact .inl (by decide+kernel)|exact .inr (by decide+kernel)) (by rw[kS];kernel_rfl)
theorem adY:kW (.builtin "tuple.index")=bV (.type "method_descriptor"):=by show ny _=_;refine nx▸?_;kernel_rfl
theorem adZ:kU jb "tuple.index"=B Builtin.«tuple.index»:=qy (by kernel_rfl)
theorem ad0 (a b:au):ja "tuple.index" ⟨[a,b],[]⟩:=by
 unfold ja;refine(tx (id:="tuple.index") (n:=['x','e','d','n','i']) (o:=['e','l','p','u','t']) (by kernel_rfl) ads)▸?_;kernel_rfl
end M
section
variable {g:ci}{c:e9}{A:dc}{O N bw bj:J aC}{s ar aB:a3}{n k:ah}{hp bN:J ap}{X:J ap→Prop}{env:eo}{sc:dU}{loc:cD}{K:a0}{h aj:b8}{a:aC}{pos:ib}
theorem cz.yD (aG:hq a h aj):cz N (a::O) (N++[a]) O h aj:=
 .pE (fun b I e o=>(aG.2 b fun q=>o.n (q▸.head _)).trans e) (fun I I I o=>⟨fun m=>(fE.mp m).elim o.r fun q=>o.n (df.mp q▸.head _),fun m=>o.n (.tail _ m),o.s⟩) fun i p e=>(jC (gc.mp e).1).trans e
theorem cz.sp (aG:hq a h aj):cz N (a::O) N O h aj:=
 .pE (fun b I e o=>(aG.2 b fun q=>o.n (q▸.head _)).trans e) (fun I I I o=>⟨o.r,fun m=>o.n (.tail _ m),o.s⟩) fun I I e=>e
theorem cz.q0 (k:∀b o,h.get? b=B o→aj.get? b=B o)(b0:h.get? a=ab):cz N O N (a::O) h aj:=
 .pE (fun I I e I=>k _ _ e) (fun b I e o=>⟨o.r,fun m=>(cV.mp m).elim (fun q=>fb b0 (q▸e)) o.n,o.s⟩) fun I I e=>e
theorem aR.dz (H:aR g h N O hp)(b0:h.get? a=ab):a∉O:=(H.ma b0).n
theorem aR.yD (H:aR g h N (a::O) hp)(aA:a∉O)(aG:hq a h aj){o:ap}(bC:ht g aj (N++[a]) O a o):aR g aj (N++[a]) O (hp++[o]):=
 have lo:=(H.gi a (.head _)).1
 have ne:a∉N:=fun m=>(H.lo _ m).2 (.head _)
 H.yf (.yD aG) (fun b o e I q=>(aG.2 b fun z=>fb lo (z▸e)).trans q) ne lo aA (fun I=>.tail _) (fun p m I q=>(aG.2 p fun z=>ne (z▸m)).trans q) (fun p m I q=>(aG.2 p fun z=>aA (z▸m)).trans q) bC
theorem aR.sp (H:aR g h N (a::O) hp)(aG:hq a h aj)(aw:∃o,aj.get? a=B o):aR g aj N O hp:=(H.nE (.head _) aG aw).hH fun I=>.tail _
theorem aR.q0 (H:aR g h N O hp)(k:∀b o,h.get? b=B o→aj.get? b=B o)(b0:h.get? a=ab)(aw:∃o,aj.get? a=B o):aR g aj N (a::O) hp:=
 H.e7 k (fun p m=>(cV.mp m).elim (fun q=>.inr (q▸b0)) .inl) fun p m=>(cV.mp m).elim (fun q=>q▸aw) fun m=>(H.gi p m).2.imp fun o=>k p o
theorem fc.q0 (C:fc A n O h)(hk:∀b o,h.get? b=B o→aj.get? b=B o):fc A n (a::O) aj:=
 ⟨C.hd,C.qM,C.un,C.fr.imp fun I y=>⟨y.1,fun env cP=>⟨(y.2 env cP).1,(y.2 env cP).2.imp fun L=>gb fun o q=>⟨q.1,hk _ _ q.2.1,q.2.2⟩⟩⟩,fun L m=>.tail _ (C.dS L m)⟩
theorem bz.q0 (e:bz g A n O N s env sc loc hp){k:dv}(hk:∀b o,s.heap.get? b=B o→aj.get? b=B o)(b0:s.heap.get? a=ab)(aw:∃o,aj.get? a=B o):bz g A n (a::O) N {s with heap:=aj,toks:=k} env sc loc hp:=
 ⟨e.C.q0 hk,e.H.q0 hk b0 aw,e.F.dw (.q0 hk b0) (fun I I=>.tail _) fun b I o q=>⟨o,hk b o q,rfl⟩,e.G⟩
theorem b9.LM {aS:J aC}{k:dv}(st:b9 A aS N s bw aB)(b0:s.heap.get? a=ab)(aG:hq a aB.heap aj)(aw:∃o,aj.get? a=B o):b9 A aS N s bw {aB with heap:=aj,toks:=k}:=
 ⟨⟨fun b o e=>(st.e8.ey b o e).imp fun o' cR=>(aG.2 b fun q=>fb b0 (q▸e)).trans cR,fun b o e n j t=>(st.e8.cw b o e n j t).imp fun I y=>⟨(aG.2 b fun q=>fb b0 (q▸e)).trans y.1,y.2⟩⟩,fun b m o o' e cR=>st.hS b m o o' e ((aG.2 b fun q=>fb b0 (q▸e)).symm.trans cR),st.mS,st.e0,st.hv⟩
theorem b9.hX (st:b9 A [] N s bw aB)(b0:s.heap.get? a=ab):b9 A [] N s (bw++[a]) aB:=
 ⟨st.e8,st.hS,st.mS.trans ⟨_,rfl⟩,fun p m=>(fE.mp m).elim (st.e0 p) fun q=>.inr (df.mp q▸b0),st.hv⟩
theorem gR.q0 {k:dv}{x:au}(hk:∀b o,s.heap.get? b=B o→aj.get? b=B o):gR g A [] (a::O) N {s with heap:=aj,toks:=k} X x ar→gR g A [] O N s X x ar
 | .mk st H e q=>.mk (b9.eJ (.e7 hk) st) (H.hH fun I=>.tail _) (e.pJ fun b o z=>⟨o,hk b o z⟩) q
theorem fc.hS (C:fc A n O h)(H:aR g h N O hp)(b0:h.get? a=ab):a∉fH A:=fun m=>H.dz b0 (C.dS a m)
theorem b9.tP {k:dv}{o:ee}(st:b9 A [] N {s with heap:=aj,toks:=k} bw aB)(C:fc A n O s.heap)(H:aR g s.heap N O hp)(b0:s.heap.get? a=ab)(e:aj.get? a=B o):aB.heap.get? a=B o:=
 (st.e8.cw a o e (H.ma b0).r (fun m=>dz m) fun m=>(H.ma b0).s (vK m)).pH (C.hS H b0)
theorem fe.bv {m:aZ}{l:J (bf×D)}{kvs:J (bf×au)}{tk:dv}(b0:s.heap.get? a=ab)(hk:aR g s.heap N O hp)(st:b9 A [] N s bj aB)(H:aR g aB.heap bj (a::O) bN)(aG:hq a aB.heap aj)
  (hd:nB g aj a kvs) (aL:dA g aB.heap bj (a::O) l kvs) (h:hX m (.bv l) (.a5 l) bN K):fe g A [] O N s (fun h N=>aE g h N O) K (.ref a) {aB with heap:=aj,toks:=tk}:=by
 have aw:∃o,aj.get? a=B o:=hd.imp fun o z=>z.elim fun I z=>z.elim fun I z=>z.1
 have T8:=st.LM (k:=tk) b0 aG aw
 induction m with
 |false=>exact .mk (b:=.a5 l) T8 (H.sp aG aw) (f0.mk ⟨fun m=>(H.lo a m).2 (.head _),hk.dz b0,(hk.ma b0).s⟩ (jd.mk hd ((cz.sp aG).aI aL))) h
 |true=>exact .mk (b:=.bb bN.length) (T8.hX b0) (H.yD (o:=.bv l) (hk.dz b0) aG (jd.mk hd ((cz.yD aG).aI aL))) (f0.mk (Bd H) cy) h
theorem T9 {vs:J au}{ds:J D}(r:cp g h N O ds vs)(h:ds.length≤1000):sizeOk (.seq vs.toArray):=ao (r.bJ▸h) (by decide)
theorem yE {es:J b7}(h:i0 es=af):backTo pos (EJ es env)=c5 es env:=by rw[TK h,TL]
theorem Ua (aD:db g c n)(E:bz g A c.lv O N s env sc loc hp){es:J b7}{j:ah}(bq:i0 es=af)(h:j7 c n (fT bA k sc es) X loc hp fun ds hp=>ds.length≤1000∧K (.aW ds) hp):dP g A O N s (eval (.Tuple es j pos) env) K X:=Y (arm_eval_Tuple ..) (Y (yE bq) (U.gT (E.gj (aD.l E h) fun vs aB bj bN ds bX I r h=>bK.of (pn (.Lo bX.H h.2 r) (T9 r h.1)))))
theorem ad1 (aD:db g c n)(E:bz g A c.lv O N s env sc loc hp){es:J b7}{m:aZ}(bq:i0 es=af)(h:j7 c n (fT bA k sc es) X loc hp fun ds hp=>ds.length≤1000∧hX m (.br ds) (.aP ds) hp K):dP g A O N s (eval (.List es pos) env) K X:=Y (arm_eval_List ..) (Y (yE bq) (U.gT (E.gj (aD.l E h) fun vs aB bj bN ds bX I r h=>bK.of (pn (.Ln bX.H h.2 r) (T9 r h.1)))))
theorem q1 {α d0:Type}{f:α→ax d0}{a:α}{r:J α}{m:J d0}(e:dF f (a::r)=B m):∃b l,f a=B b∧dF f r=B l∧m=b::l:=by
 induction nO e with|mk aT aN=>
 exact(iu.mp aN).elim fun l cj=>cj.elim fun aY bu=>⟨_,l,aT,aY,bu.symm⟩
theorem ad2 {α:Type}:∀{l:J (ax α)} {m:J α},dF id l=B m→l=m.map B:=by
 intro l
 induction l with
 |nil=>intro m e;exact bo e▸rfl
 |cons a l az=>
  intro m e
  obtain⟨b,l,aT,aN,rfl⟩:=q1 e
  exact(bl (·::_) aT).trans (bl (B b::·) (az aN))
theorem v3 {α d0:Type}{f:α→ax d0}:∀{l:J α} {m:J d0},dF f l=B m→m.length=l.length:=by
 intro l
 induction l with
 |nil=>intro m e;exact bo e▸rfl
 |cons a l az=>
  intro m e
  obtain⟨b,l, -,aN,rfl⟩:=q1 e
  exact bl (·+1) (az aN)
theorem ad3 {m:J (D×D)}:∀{l:J (au×au)} {aI:J (bf×D)},FR g h N O m l→dF (fun p=>(dy p.1).map (·,p.2)) m=B aI→∃kvs:J (bf×au),Carries (hF g.p g.w) l kvs∧dA g h N O aI kvs:=by
 induction m with
 |nil=>intro l aI r e;induction r;exact bo e▸⟨[],cy,j0.mk⟩
 |cons p m az=>
  intro l aI r e
  induction r with|mk av aL=>
  obtain⟨b,l,aT,aN,rfl⟩:=q1 e
  obtain⟨ky,q,rfl⟩:=iu.mp aT
  exact(az aL aN).elim fun kvs z=>⟨(ky,_)::kvs,⟨nP q av.1,rfl,z.1⟩,mQ.mk (.mk av.2) z.2⟩
theorem dA.LN {aI:J (bf×D)}:∀{kvs:J (bf×au)} {acc:J (bf×au)} {l:J (bf×D)},dA g h N O aI kvs→dA g h N O l acc→dA g h N O (jk l aI) (JO acc kvs):=by
 induction aI with
 |nil=>intro kvs acc l x a;induction x;exact a
 |cons p aI az=>
  intro kvs acc l x a
  induction x with|mk y r=>
  induction y with|mk av=>
  have q:=az r (a.Lr (k:=p.1) av)
  exact q
theorem FT {o:ee}(e:h.get? a=B o)(q:o={cls:=.type "dict",data:=.dict #[]}):nB g h a []:=by subst q;exact⟨_,_,_,e,⟨rfl,rfl,rfl⟩,rfl,fun I m=>cr m (Array.not_mem_empty _),.nil,.nil⟩
theorem ad4 (aD:db g c n)(E:bz g A c.lv O N s env sc loc hp){cK vs:J b7}{m:aZ}(aN:cK.length=vs.length∧cK.length≤15)
  (h:bT c (n+1) (.a5 m (fT bA k sc cK) (fT bA k sc vs)) X loc hp K):dP g A O N s (eval (.Dict (cK.map B) vs pos) env) K X:=by
 have h:A7 c n (fT bA k sc cK) (fT bA k sc vs) X loc hp fun aI hp=>bF (dF (fun p=>(dy p.1).map (·,p.2)) aI) fun aI=>aI.length≤15∧hX m (.bv (jk [] aI)) (.a5 (jk [] aI)) hp K:=h
 have b0:=hZ s.heap
 have yF:(cK.map B).all (·.isSome)=af:=by simp
 have aw:(cK.map B).length=vs.length:=by rw[cH];exact aN.1
 rw[arm_eval_Dict,zip_pairTrees _ vs env pos yF aw]
 refine U.gT ?_
 induction cK with
 |nil=>
  induction vs with
  |cons=>cases aN.1
  |nil=>
   have aj:hX m (.bv []) (.a5 []) hp K:=by
    cases n with
    |zero=>exact(show bt from h).elim
    |succ n=>
     induction k with
     |zero=>exact(kH (show bT c n .ez X loc hp _ from h)).elim
     |succ k=>exact h.2
   have hd:=FT (g:=g) (ic s.heap (o:={cls:=.type "dict",data:=.dict #[]}) rfl) rfl
   show dP g A O N s newDict K X
   exact bK.of (pn (.e0 E.H fV b0 aj (jd.mk hd j0.mk) fun f=>f0.mk f (jd.mk hd j0.mk)))
 |cons gq cK=>
  have bX:=E.q0 (k:=s.toks) (fV (o:={cls:=.type "dict",data:=.dict #[]})) b0 ⟨_,ic _ rfl⟩
  have aA:=pairTrees_length _ vs env pos yF aw
  rw[cH] at aA
  rw[dictDisplay_pairs _ (fun cP=>by rw[cP] at aA;cases aA) (by rw[aA];exact e6 aN.2 (by decide))]
  unfold subDict
  refine cc (d1 (wpAny_alloc (cc (fi ?_))))
  rw[b3 (by rw[aA];exact aN.2)]
  refine cc (U.jH (aD.p bX h) (fun l aB bj bN m st H r h=>?_) fun x aB=>.q0 fV)
  induction cQ.of h with|mk e h=>
  obtain⟨kvs,hc,aL⟩:=ad3 r e
  have ad5:=FT (g:=g) (st.tP (k:=s.toks) E.C E.H b0 (ic _ rfl)) rfl
  exact fi (cc (bK.of (wpAny_storeAll (knd:=hF g.p g.w) l kvs [] aB _ hc ad5 (by rw[aL.bJ];exact ao (eH h.1 _) (by decide)) fun aj ad6 gr=>cs (cs (cs (.bv b0 E.H (b9.eJ (.e7 fV) st) H gr ad6 (aL.LN (l:=[]) j0.mk) h.2))))))
end
abbrev ad7 (g:ci)(c:e9)(n:ah):Prop:=∀{k elt gens aJ pos sc env X loc hp K A O N s},bz g A c.lv O N s env sc loc hp→(oF aJ&&k1 sc aJ)=af→bT c (n+1) (FC bA k sc aJ elt gens) X loc hp K→dP g A O N s (eval (.ListComp elt gens aJ pos) env) K X
abbrev ad8 (g:ci)(c:e9)(n:ah):Prop:=∀{k gA lK ge aJ pos sc env t X loc hp K A O N s},bz g A c.lv O N s env sc loc hp→(oF aJ&&k1 sc aJ)=af→(ge.ifs.isEmpty&&(ge.is_async==0)&&jn aJ ge.target)=af→(gD (b4 aJ) ge.target).bind dW=B t→
  bT c (n+1) (.qN (b1 bA k aJ gA) (b1 bA k aJ lK) t (j8 bA k sc ge.target ge.iter) (ii aJ (b4 sc))) X loc hp K→dP g A O N s (eval (.DictComp gA lK [ge] aJ pos) env) K X
abbrev ad9 (g:ci)(c:e9)(n:ah):Prop:=∀{k et b aJ sy np pos sc env X loc hp K A O N s},bz g A c.lv O N s env sc loc hp→gC sc kE=af→yp et sc aJ=af→bT c (n+1) (.jj (b1 bA k aJ b) (ii aJ (b4 sc))) X loc hp K→dP g A O N s (eval (.Call (.Name kE np) [.Lambda et b aJ sy] [] pos) env) K X
structure Bv (g:ci)(c:e9)(n:ah):Prop where
 lc:ad7 g c n
 qN:ad8 g c n
 jj:ad9 g c n
theorem sz {α:Type}{r:α}{e:b7}{P:b7→Prop} {nm at_ cl vU oG ch st ij un Fw}(h:qS nm at_ cl vU oG ch st ij un Fw e=B r)(aY:∀x p,nm x=B r→P (.Name x p))(bu:∀o x p,at_ o x p=B r→P (.Attribute o x p))(cu:∀f as mj p,cl f as mj p=B r→P (.Call f as mj p))
  (fg:∀et b sc p,vU et b sc=B r→P (.Lambda et b sc p)) (js:∀es j p,oG es=B r→P (.Tuple es j p)) (oQ:∀lo hi st p,ch lo hi st=B r→P (.Slice lo hi st p)) (Bw:∀e p,st ()=B r→P (.Starred e p)) (Bx:∀c j p,ij c=B r→P (.Constant c j p))
  (sA:∀op x p,un op x=B r→P (.UnaryOp op x p)) (aea:∀o i p,Fw o i=B r→P (.Subscript o i p)):P e:=by
 cases e<;>first|exact aY _ _ h|exact bu _ _ _ h|exact cu _ _ _ _ h|exact fg _ _ _ _ h|exact js _ _ _ h|exact oQ _ _ _ _ h|exact Bw _ _ h|exact Bx _ _ _ h|exact sA _ _ _ h|exact aea _ _ _ h|exact nn h
theorem cE {α:Type}{r:α}{P:Prop}(h:ab=B r):P:=nn h
theorem yG {e:b7}{x:aO}(h:nM e=B x):∃p,e=.Name x p:=by
 delta nM at h
 exact sz (P:=fun e=>∃p,e=.Name x p) h (fun I p q=>bo q▸⟨p,rfl⟩) (fun I I I=>cE) (fun I I I I=>cE) (fun I I I I=>cE) (fun I I I=>cE) (fun I I I I=>cE) (fun I I=>cE) (fun I I I=>cE) (fun I I I=>cE) fun I I I=>cE
theorem aeb {e:b7}{r:b7×aO×ib}(h:Ld e=B r):e=.Attribute r.1 r.2.1 r.2.2:=by
 delta Ld at h
 exact sz (P:=fun e=>e=.Attribute r.1 r.2.1 r.2.2) h (fun I I=>cE) (fun I I I q=>bo q▸rfl) (fun I I I I=>cE) (fun I I I I=>cE) (fun I I I=>cE) (fun I I I I=>cE) (fun I I=>cE) (fun I I I=>cE) (fun I I I=>cE) fun I I I=>cE
theorem LO {e:b7}{r:b7×J b7×J AC×ib}(h:tX e=B r):e=.Call r.1 r.2.1 r.2.2.1 r.2.2.2:=by
 delta tX at h
 exact sz (P:=fun e=>e=.Call r.1 r.2.1 r.2.2.1 r.2.2.2) h (fun I I=>cE) (fun I I I=>cE) (fun I I I I q=>bo q▸rfl) (fun I I I I=>cE) (fun I I I=>cE) (fun I I I I=>cE) (fun I I=>cE) (fun I I I=>cE) (fun I I I=>cE) fun I I I=>cE
theorem aec {e:b7}{r:vq×b7×dU}(h:Le e=B r):∃p,e=.Lambda r.1 r.2.1 r.2.2 p:=by
 delta Le at h
 exact sz (P:=fun e=>∃p,e=.Lambda r.1 r.2.1 r.2.2 p) h (fun I I=>cE) (fun I I I=>cE) (fun I I I I=>cE) (fun I I I p q=>bo q▸⟨p,rfl⟩) (fun I I I=>cE) (fun I I I I=>cE) (fun I I=>cE) (fun I I I=>cE) (fun I I I=>cE) fun I I I=>cE
theorem FU {e:b7}{r:J b7}(h:pP e=B r):∃j p,e=.Tuple r j p:=by
 delta pP at h
 exact sz (P:=fun e=>∃j p,e=.Tuple r j p) h (fun I I=>cE) (fun I I I=>cE) (fun I I I I=>cE) (fun I I I I=>cE) (fun I j p q=>bo q▸⟨j,p,rfl⟩) (fun I I I I=>cE) (fun I I=>cE) (fun I I I=>cE) (fun I I I=>cE) fun I I I=>cE
theorem aed {e:b7}{r:ax b7×ax b7×ax b7}(h:Fx e=B r):∃p,e=.Slice r.1 r.2.1 r.2.2 p:=by
 delta Fx at h
 exact sz (P:=fun e=>∃p,e=.Slice r.1 r.2.1 r.2.2 p) h (fun I I=>cE) (fun I I I=>cE) (fun I I I I=>cE) (fun I I I I=>cE) (fun I I I=>cE) (fun I I I p q=>bo q▸⟨p,rfl⟩) (fun I I=>cE) (fun I I I=>cE) (fun I I I=>cE) fun I I I=>cE
theorem aee {e:b7}{r:b7×b7}(h:Lg e=B r):∃p,e=.Subscript r.1 r.2 p:=by
 delta Lg at h
 exact sz (P:=fun e=>∃p,e=.Subscript r.1 r.2 p) h (fun I I=>cE) (fun I I I=>cE) (fun I I I I=>cE) (fun I I I I=>cE) (fun I I I=>cE) (fun I I I I=>cE) (fun I I=>cE) (fun I I I=>cE) (fun I I I=>cE) fun I I p q=>bo q▸⟨p,rfl⟩
set_option tactic.hygienic true in
theorem aef {e:b7}{r:g5}(h:Lf e=B r):∃j p,e=.Constant (.int 1) j p:=by
 delta Lf at h
 refine sz (P:=fun e=>∃j p,e=.Constant (.int 1) j p) h (fun I I=>cE) (fun I I I=>cE) (fun I I I I=>cE) (fun I I I I=>cE) (fun I I I=>cE) (fun I I I I=>cE) (fun I I=>cE) (fun c j p q=>?_) (fun I I I=>cE) fun I I I=>cE
 induction c<;>first|exact cE q|skip
 rename_i i
 by_cases z:i=1
 ·exact z▸⟨j,p,rfl⟩
 ·exact cE ((bL z).symm.trans q)
theorem aeg {e:b7}{r:g5}(h:Fy e=B r):∃j p q,e=.UnaryOp .USub (.Constant (.int 1) j p) q:=by
 delta Fy at h
 exact sz (P:=fun e=>∃j p q,e=.UnaryOp .USub (.Constant (.int 1) j p) q) h (fun I I=>cE) (fun I I I=>cE) (fun I I I I=>cE) (fun I I I I=>cE) (fun I I I=>cE) (fun I I I I=>cE) (fun I I=>cE) (fun I I I=>cE)
   (fun op x p q=>by induction op<;>first|exact cE q|exact(aef q).elim fun j z=>z.elim fun d5 e=>⟨j,d5,p,bl (fun e=>Expr.UnaryOp .USub e p) e⟩) fun I I I=>cE
section
variable {g:ci}{c:e9}{A:dc}{O N:J aC}{s:a3}{n k:ah}{hp:J ap}{X:J ap→Prop}{env:eo}{sc:dU}{loc:cD}{K:a0}{pos np apos:ib}
theorem aeh (aD:db g c n)(E:bz g A c.lv O N s env sc loc hp){v i:b7}(h:bT c n (b1 bA k sc v) X loc hp fun a hp=>bT c n (b1 bA k sc i) X loc hp fun b hp=>g9 hp K a b):dP g A O N s (eval (.Subscript v i pos) env) K X:=
 E.gj (aD.e E h) fun a aB bj bN d bX oP jr h=>bX.pW (aD.e bX h) fun b c6 fk il sv dQ kI i1 h=>U.gT (.of (acw dQ.H (kI.v jr) i1 h))
theorem aei (aD:db g c n)(E:bz g A c.lv O N s env sc loc hp){v:b7}{lo hi:ax b7}{c3:ib}(h:bT c n (b1 bA k sc v) X loc hp fun a hp=>yl c n (tZ bA k sc lo) X loc hp fun lo hp=>yl c n (tZ bA k sc hi) X loc hp fun hi hp=>Fo a lo hi hp K):dP g A O N s (eval (.Subscript v (.Slice lo hi ab c3) pos) env) K X:=
 E.gj (aD.e E h) fun a aB bj bN d bX oP jr h=>by
  refine cc (fi (cc (U.jH (aD.o bX h) (fun qW c6 fk il dl iy kc i1 h=>?_) fun x c6 q=>q)))
  refine cc (fi (U.jH (aD.o (bX.f3 iy kc) h) (fun qX c4 hb k5 aqa gJ gs sx h=>?_) fun x c4 q=>q.jG iy))
  exact cc (fi (cs (bK.of (Tx (vs:=[qW,qX,.none]) (by show(3:ah)≤100;decide) (nA (ew (bK.of (acC (A:=A) (X:=X) gs ((gJ.dw (bX.f3 iy kc).C).v ((iy.dw bX.C).v jr)) (.dw (gJ.dw (bX.f3 iy kc).C) i1) sx h)) (fun I I=>.jG (iy.eJ gJ)) fun I I=>.jG (iy.eJ gJ)))))))
theorem aej (aD:db g c n)(E:bz g A c.lv O N s env sc loc hp){v:b7}{c3 p d5:ib}{j:ah}(h:bT c n (b1 bA k sc v) X loc hp fun a hp=>bF (gB hp a) fun l=>l.length≤1000∧K (.aP l.reverse) hp):dP g A O N s (eval (.Subscript v (.Slice ab ab (B (.UnaryOp .USub (.Constant (.int 1) j p) d5)) c3) pos) env) K X:=
 E.gj (aD.e E h) fun a aB bj bN d bX oP jr h=>by
  exact cc (fi (cc (cs (cc (fi (cs (cc (fi (cc (bK.of (Av (nA (fi (bK.of (Q4 (bK.of (Tx (vs:=[.none,.none,_]) (by show(3:ah)≤100;decide) (nA (ew (bK.of (acE (A:=A) (X:=X) (s:={aB with toks:=aB.toks+1+1}) bX.H jr h)) (fun I I=>.jG .dV) fun I I=>.jG .dV)))))))))))))))))))
theorem aek (W:ft g c)(aD:db g c n)(E:bz g A c.lv O N s env sc loc hp){v:b7}{x:aO}(ay:tY v=af)(h:bT c n (b1 bA k sc v) X loc hp fun a hp=>oC a x hp K):dP g A O N s (eval (.Attribute v x pos) env) K X:=Y (arm_eval_Attribute ..) (Y (TJ ay) (E.gj (aD.e E h) fun a aB bj bN d bX oP jr h=>U.gT (bX.pW (.of (acJ W.mm bX.H jr h)) fun Bg c6 fk il sv dQ kI i1 h=>cc (bK.of (Ra (cs (.dj dQ.H i1 h)))))))
theorem yH {x:aO}{as:J b7}{f:au}{Q Ee:au→a3→Prop}(aA:LF g A s env (.Name x np) f)(bq:i0 as=af)(h:bK (bB g.p g.w) A (vt pos f [] (c5 as env) []) Q Ee s):bK (bB g.p g.w) A (eval (.Call (.Name x np) as [] pos) env) Q Ee s:=Y (Ev ..) (Y (yE bq) (d1 (aA _ _ h)))
theorem Ub {α:Type}{l:J (gg×α)}{x:aO}{a:α}(h:Ba l x=B a):∃s,(s,a)∈l∧x=ly s:=by
 obtain⟨p,aY,rfl⟩:=iu.mp h
 exact⟨p.1,tl aY,(c9 (xx (p:=fun p:gg×α=>ly p.1==x) aY)).symm⟩
theorem Uc (W:ft g c){f:ah}{x:aO}(hx:qR[f]?=B x):∃o fd,(∀(aB:a3) bj bN,aR g aB.heap bj O bN→aB.heap.get? (fm.getD f 0)=B o)∧o.cls=.type "function"∧o.data=.func fd:=(W.fn f x hx).elim fun o cj=>cj.elim fun fd d3=>d3.elim fun bC fW=>fW.elim fun hc sB=>sB.elim fun hd aY=>⟨o,fd,fun aB bj bN H=>H.cw _ _ bC aY,hc,hd⟩
theorem FV {a:aC}{o:ee}{fd:i9}(bC:s.heap.get? a=B o)(hd:o.data=.func fd):su g A (.ref a) s:=.TP fun Q Ee q=>by
 unfold AB
 exact aX (rX bC (Y hd (cq q)))
variable {as:J b7}{x:aO}
theorem ael (W:ft g c)(aD:db g c n)(E:bz g A c.lv O N s env sc loc hp){f:ah}(hx:qR.idxOf? x=B f)(LP:(f !=14&&f !=15&&f !=16)=af)(aV:gC sc x=af)(bq:i0 as=af)(aA:as.length≤30)(h:j7 c n (fT bA k sc as) X loc hp fun ds hp=>c.bp c.lv f ds hp K X):
  dP g A O N s (eval (.Call (.Name x np) as [] pos) env) K X:=by
 obtain⟨dr,fM,bZ, -,gl⟩:=W.iY
 obtain⟨o,fd,bC, -,FW⟩:=Uc (O:=O) W (k4 hx)
 exact yH (E.oO aV (Bt _ (.tail _ (.head _)) x (gZ (k4 hx))) bZ (gl.fn f x (k4 hx) LP)) bq (E.yB aA (aD.l E h) (fun aB bj bN H=>FV (bC aB bj bN H) FW) fun ds vs bN aB bj bX I r kk=>W.bp bX.C bX.H r kk)
theorem aem (W:ft g c)(aD:db g c n)(E:bz g A c.lv O N s env sc loc hp){f:ah}(hx:yn.idxOf? x=B f)(aV:gC sc x=af)(bq:i0 as=af)(aA:as.length≤30)(h:j7 c n (fT bA k sc as) X loc hp fun ds hp=>c.e0 c.lv f ds hp K X):
  dP g A O N s (eval (.Call (.Name x np) as [] pos) env) K X:=by
 obtain⟨dr,fM,bZ, -,gl⟩:=W.iY
 obtain⟨gp,eu⟩:=W.mm f
 exact yH (E.oO aV (Bt _ (.tail _ (.tail _ (.head _))) x (gZ (k4 hx))) bZ (gl.TF f x (k4 hx))) bq (E.yB aA (aD.l E h) (fun aB bj bN H=>by induction eu.up H with|mk hc=>exact .FP fun Q Ee q=>Re hc q) fun ds vs bN aB bj bX I r kk=>W.e0 bX.C bX.H r kk)
theorem aen (f:yh):AB (yz f)=bV .machine:=by induction f<;>rfl
theorem aeo (W:ft g c)(aD:db g c n)(E:bz g A c.lv O N s env sc loc hp){f:yh}{m:aZ}(hx:Ba A8 x=B f)(aV:gC sc x=af)(bq:i0 as=af)(aA:as.length≤30)(h:j7 c n (fT bA k sc as) X loc hp fun ds hp=>j5 m f ds hp K):
  dP g A O N s (eval (.Call (.Name x np) as [] pos) env) K X:=by
 refine W.iY.elim fun dr cj=>cj.elim fun fM d3=>d3.elim fun bZ fW=>fW.elim fun uc gl=>?_
 refine(gl.bn f x hx).elim fun pY av=>?_
 refine(Ub hx).elim fun y cj=>cj.elim fun eI pZ=>?_;subst pZ
 exact yH (E.tU aV (Bt _ (.tail _ (.tail _ (.tail _ (.tail _ (.head _))))) _ (xs (f:=fun p=>ly p.1) eI)) bZ uc pY av) bq (E.yB aA (aD.l E h) (fun aB bj bN H=>.mb (aen f)) fun ds vs bN aB bj bX I r kk=>W.bi bX.C bX.H r kk)
theorem aep (W:ft g c)(aD:db g c n)(E:bz g A c.lv O N s env sc loc hp){t:ah}{y:aO}{e:b7}{oG:ib}(eI:A9.idxOf? y=B t)(aV:gC sc "isinstance"=af)(aeq:gC sc y=af)(bq:i0 [e,.Name y oG]=af)(h:bT c n (b1 bA k sc e) X loc hp fun a hp=>sj hp a t K):
  dP g A O N s (eval (.Call (.Name "isinstance" np) [e,.Name y oG] [] pos) env) K X:=by
 refine W.iY.elim fun dr cj=>cj.elim fun fM d3=>d3.elim fun bZ fW=>fW.elim fun uc gl=>?_
 refine(gl.TG t y (k4 eI)).elim fun aer bP=>?_
 refine yH (E.tU aV (by decide) bZ uc (gl.bi _ (.head _)) gl.ji) bq (E.yB (R:=fun h N d vs=>∃v,vs=[v,yA t]∧aE g h N O d v) (K1:=fun d hp=>sj hp d t K) (by show(2:ah)≤30;decide) ?_ (fun aB bj bN H=>.mb rfl) fun d vs bN aB bj bX I r kk=>?_)
 ·show U g A [] O N s (mN ((ae,eval e env)::(ae,eval (.Name y oG) env)::[])) _ _ X
  exact Y FO (E.gj (aD.e E h) fun v aB bj bN d bX I r h=>cc (cs (cc (fi (FO▸(d1 (bX.tU aeq (Bt _ (.tail _ (.tail _ (.tail _ (.head _)))) y (gZ (k4 eI))) bZ uc aer bP _ _ (cc (cs (cc (fi (cs (cs (cs (.dj bX.H ⟨v,rfl,r⟩ h)))))))))))))))
 ·obtain⟨v,rfl,r⟩:=r
  exact W.ji bX.C bX.H r kk
abbrev LQ (s:a3)(v:au)(n:gg):Prop:=s.TypeIs v n∧∀a,v=.ref a→∃o,s.heap.get? a=B o∧o.dict=ab
theorem LR {T:gg}{p:aC}{P:J au→Prop}(w:kz T s.heap p P):LQ s (.ref p) T:=by
 induction w with|mk aV _=>exact⟨⟨_,aV,rfl⟩,fun a e=>tI e▸⟨_,aV,rfl⟩⟩
theorem Ud {p:aC}{P:J (bf×au)→Prop}(w:jd g s.heap p P):LQ s (.ref p) "dict":=by
 induction w with|mk hd _=>exact hd.elim fun o cj=>cj.elim fun I d3=>d3.elim fun I fW=>fW.elim fun aV sB=>sB.elim fun hc I=>⟨⟨_,aV,hc.1⟩,fun a e=>tI e▸⟨_,aV,hc.2.1⟩⟩
theorem aes {d:D}{v:au}{T:Ty}(H:aR g s.heap N O hp)(h:k0 hp d=B T)(av:aE g s.heap N O d v):LQ s v T.nm:=by
 cases d with
 |V b=>exact cN (bo h) (by cases av;exact⟨gf _ _ _,fun I e=>vz e⟩)
 |aW=>exact cN (bo h) (by cases av with|mk _ w=>exact LR w)
 |aP=>exact cN (bo h) (by cases av with|mk _ w=>exact LR w)
 |a5=>exact cN (bo h) (by cases av with|mk _ w=>exact Ud w)
 |bb i=>
  obtain⟨o,e,rfl⟩:=iu.mp h
  induction nN H e av with|mk _ w=>
  induction o with
  |br=>exact LR w
  |bv=>exact Ud w
  |er b=>exact⟨⟨_,w,rfl⟩,fun a e=>tI e▸⟨_,w,rfl⟩⟩
 |_=>exact cE h
theorem aet (T:Ty):xN T.nm:=by induction T with|V=>exact M.ado|nH=>exact M.adr|br=>exact M.adp|bv=>exact M.adq|pK=>exact M.adn
def aeu (f:oz)(T:Ty):Prop:=kv T.nm (ly f.nm) (Br f T)∧kW (.builtin (Br f T))=bV (.type "method_descriptor")
theorem Ue {f:oz}{T:Ty}(h:A5 f T=af):aeu f T:=by
 induction f<;>induction T<;>first|exact(dO h).elim|skip
 ·exact⟨M.adt,M.adu⟩
 ·exact⟨M.TZ,M.adx⟩
 ·exact⟨M.adv,M.adw⟩
 ·exact⟨M.T1,M.adA⟩
 ·exact⟨M.adD,M.adE⟩
 ·exact⟨M.adF,M.adG⟩
 ·exact⟨M.adH,M.adI⟩
 ·exact⟨M.T2,M.adJ⟩
 ·exact⟨M.T3,M.adM⟩
 ·exact⟨M.T4,M.adP⟩
 ·exact⟨M.T5,M.adS⟩
 ·exact⟨M.T6,M.adV⟩
 ·exact⟨M.T7,M.adY⟩
end
section
variable {K:a0}
theorem Uf (ay:tY o=af)(q2:(apos.endLine==pos.line)=af)(bq:i0 as=af)(aA:as.length < 25):
  ∃LS:dM aZ,eval (.Call (.Attribute o x apos) as [] pos) env=(eval o env>>=fun lL=>ku apos.atName>>=fun I=>kV [lL] (getMethod lL x LS)>>=fun p=>(bV pos:dM ib)>>=fun aev=>vt aev p.1 p.2 (c5 as env) []):=by
 refine⟨(do return (←importBound o env).getD af),?_⟩
 refine Y (arm_eval_Call ..) (Y (TJ ay) (Y (yE bq) ?_))
 have aew:Rw (as.length+([]:J AC).length) (c5 as env) (backToKw pos (keywordEach [] env))=af:=by
  unfold Rw
  refine Y (show backToKw pos (keywordEach ([]:J AC) env)=[] from rfl) (Y (TN ..) ?_)
  simp;lia
 unfold methodCall
 refine Y aew ?_
 have aex:Rz af o env apos pos=bV pos:=by unfold Rz;simp[q2]
 refine Y aex ?_
 rfl
theorem aey (W:ft g c)(aD:db g c n)(E:bz g A c.lv O N s env sc loc hp)(hx:x=ly f.nm)(ay:tY o=af)(q2:(apos.endLine==pos.line)=af)(bq:i0 as=af)(aA:as.length < 25)(h:bT c n (b1 bA k sc o) X loc hp fun a hp=>bF (k0 hp a) fun t=>A5 f t=af∧j7 c n (fT bA k sc as) X loc hp fun ds hp=>k0 hp a=B t∧mg f a ds hp K):dP g A O N s (eval (.Call (.Attribute o x apos) as [] pos) env) K X:=by
 refine(Uf (env:=env) (x:=x) ay q2 bq aA).elim fun LS e=>?_
 refine Y e ?_
 refine E.gj (aD.e E h) fun lL aB bj bN d bX I r h=>U.gT ?_
 induction cQ.of h with|mk LU h=>
 have t:=aes bX.H LU r
 subst hx
 exact cc (fi (bK.of (getMethod_builtin t.1 (aet _) (Ue h.1).1 (Ue h.1).2 t.2 (cc (cs (bX.yB (ao (ir aA) (by decide)) (aD.l bX h.2) (fun aB bj bN H=>.mb rfl) fun ds vs il c6 fk dQ kI i1 kk=>W.bm dQ.C dQ.H (kI.v r) i1 kk.1 h.1 kk.2))))))
theorem LV (W:ft g c)(aD:db g c n)(E:bz g A c.lv O N s env sc loc hp)(ay:tY o=af)(q2:(apos.endLine==pos.line)=af)(bq:i0 as=af)(aA:as.length < 25)(bZ:∀gp:aO→ax au,gp "get"=B (.ref 191)→gp "set"=B (.ref 199)→gp "unset"=B (.ref 206)→gp x=B (.ref (fm.getD f 0)))(hf:∃y,qR[f]?=B y)(hx:x∉tL 1)(sC:mK (.type "object") x=bV ab)(h:bT c n (b1 bA k sc o) X loc hp fun a hp=>Fs a fun l=>j7 c n (fT bA k sc as) X loc hp fun ds hp=>c.bp c.lv f (.cO 1 l::ds) hp K X):dP g A O N s (eval (.Call (.Attribute o x apos) as [] pos) env) K X:=by
 refine(Uf (env:=env) (x:=x) ay q2 bq aA).elim fun LS e=>?_
 refine Y e ?_
 refine E.gj (aD.e E h) fun lL aB bj bN d bX I r h=>U.gT ?_
 cases d<;>first|exact h.elim|skip
 obtain⟨rfl,h⟩:=h
 refine W.fJ.elim fun gp cj=>cj.elim fun eu d3=>d3.elim fun By fW=>fW.elim fun iZ v4=>?_
 refine hf.elim fun y eI=>?_
 refine(Uc (O:=O) W eI).elim fun of cj=>cj.elim fun fd d3=>d3.elim fun bC fW=>fW.elim fun LW FW=>?_
 induction r.TE with|mk i hk aL=>
 induction eu.up bX.H with|mk hc k6 g1 g2 g3=>
 exact cc (fi (bK.of (method_of hc k6 g1 g2 (bZ gp By iZ v4) (bC aB bj bN bX.H) LW sC i (hk.acH hx) (cc (cs (bX.yB (ao (ir aA) (by decide)) (aD.l bX h) (fun aB bj bN H=>FV (bC aB bj bN H) FW) fun ds vs bN aB bj bX M jr kk=>W.bp (ds:=_::ds) bX.C bX.H (mQ.mk (M.v r) jr) kk))))))
theorem aez (W:ft g c)(q3:Bv g c n)(aD:db g c n)(E:bz g A c.lv O N s env sc loc hp)(aV:gC sc x=af)(bq:i0 as=af)(aA:as.length≤30)(h:bT c (n+1) (SV bA k sc x as pos) X loc hp K):dP g A O N s (eval (.Call (.Name x np) as [] pos) env) K X:=by
 cases k with
 |zero=>exact(kH h).elim
 |succ k=>
  obtain⟨-,h⟩:=h3 h
  refine(t9 h).elim (fun h=>?_) fun h=>?_
  ·induction h with|@mk p e aj=>
   clear h
   by_cases z:x="isinstance"
   ·rw[b3 z] at e
    cases yt e
    induction nS aj with|mk gu h=>
    refine(yG gu).elim fun oG q=>?_
    refine(h3 h).elim fun aeA h=>?_
    induction nS h with|mk p0 sA=>
    subst z
    obtain⟨i2,p2⟩:=p
    dsimp only at q
    subst q
    exact aep W aD E p0 aV aeA bq sA
   ·rw[bL z] at e;exact nn e
  ·obtain⟨-,h⟩:=h3 h
   rcases t9 h with h|h
   ·induction h with|mk e h=>
    refine(h3 h).elim fun LP h=>?_
    exact ael W aD E e LP aV bq aA h
   ·refine(t9 h).elim (fun h=>?_) fun h=>?_
    ·induction h with|mk e h=>exact aem W aD E e aV bq aA h
    ·induction nS h with|mk e h=>exact aeo W aD E e aV bq aA h
theorem aeB (W:ft g c)(aD:db g c n)(E:bz g A c.lv O N s env sc loc hp)(ay:tY o=af)(q2:(apos.endLine==pos.line)=af)(bq:i0 as=af)(aA:as.length < 25)(h:bT c (n+1) (SW bA k sc o x as) X loc hp K):dP g A O N s (eval (.Call (.Attribute o x apos) as [] pos) env) K X:=by
 cases k with
 |zero=>exact(kH h).elim
 |succ k=>
  refine(t9 h).elim (fun h=>?_) fun h=>?_
  ·induction h with|@mk f e sA=>
   by_cases z:x="set"
   ·rw[b3 z] at e
    have h2:=bo e;subst h2;subst z
    exact LV (f:=15) W aD E ay q2 bq aA (fun I I bu I=>bu) ⟨_,rfl⟩ (by decide) rfl sA
   ·rw[bL z] at e
    by_cases z:x="unset"
    ·have e:=(b3 z)▸e
     have h2:=bo e;subst h2;subst z
     exact LV (f:=16) W aD E ay q2 bq aA (fun I I I cu=>cu) ⟨_,rfl⟩ (by decide) rfl sA
    ·rw[bL z] at e
     by_cases z:x="get"∧as.length=1
     ·rw[b3 z] at e
      have h2:=bo e;subst h2;obtain⟨rfl, -⟩:=z
      exact LV (f:=14) W aD E ay q2 bq aA (fun I aY I I=>aY) ⟨_,rfl⟩ (by decide) rfl sA
     ·rw[bL z] at e;exact nn e
  ·induction nS h with|mk e h=>
   refine(Ub e).elim fun y cj=>cj.elim fun eI hx=>?_
   have:∀p∈SR,p.1=p.2.nm:=by decide+kernel
   exact aey W aD E (hx.trans (bl ly (this _ eI))) ay q2 bq aA h
theorem aeC (W:ft g c)(q3:Bv g c n)(aD:db g c n)(E:bz g A c.lv O N s env sc loc hp)(h:bT c (n+1) (b1 bA (k+1) sc (.Call f as mj pos)) X loc hp K):dP g A O N s (eval (.Call f as mj pos) env) K X:=by
 refine(h3 h).elim fun aY h0=>?_
 refine(ct.mp aY).elim fun hk aY=>?_
 refine(ct.mp aY).elim fun aA bq=>?_
 have aA:=dg aA
 cases ks.mp hk
 rcases t9 h0 with h|h
 ·induction h with|@mk x e fg=>
  refine(yG e).elim fun np pZ=>?_;subst pZ
  refine(h3 fg).elim fun bu js=>?_
  have aV:=(ct.mp bu).2
  refine(t9 js).elim (fun h=>?_) fun h=>?_
  ·induction h with|@mk a aN aj=>
   clear h
   by_cases z:x=kE
   ·rw[b3 z] at aN
    cases ml aN
    induction nS aj with|mk dq h=>
    refine(aec dq).elim fun p pZ=>?_;subst pZ
    refine(h3 h).elim fun cu h=>?_
    subst z
    exact q3.jj E aV cu h
   ·rw[bL z] at aN;exact nn aN
  ·exact aez W q3 aD E aV bq (ao (ir aA) (by decide):as.length≤30) h
 ·induction nS h with|@mk p e fg=>
  cases aeb e
  exact(h3 fg).elim fun bu h=>(ct.mp bu).elim fun ay aw=>aeB W aD E ay aw bq aA h
theorem Ug {P:cS→Prop}{Q:Prop}(ay:P .ez→Q)(aY:∀k op r,ops=[op]→rs=[r]→P (.aH op (b1 bA k sc l) (b1 bA k sc r))→Q)(bu:∀k hV hW x r,ops=[hV,hW]→rs=[x,r]→P (.jJ hV hW (b1 bA k sc l) (b1 bA k sc x) (b1 bA k sc r))→Q)(h:P (Li bA k sc l ops rs)):Q:=by
 have LX:∀{α:Type} (o:ax α) (f:α→cS),P (iw o f)→(∀a,o=B a→P (f a)→Q)→Q:=fun o f h q=>by
  induction o with
  |none=>exact ay h
  |some a=>exact q a rfl h
 induction k with
 |zero=>exact ay h
 |succ k=>
  have h:P (bS (dW ops) _ _):=h
  generalize e:dW ops=aeD at h
  induction aeD with
  |some o=>exact LX _ _ h fun r mn h=>aY k o r (ml e) (ml mn) h
  |none=>exact LX _ _ h fun o p1 h=>LX _ _ h fun r mn h=>bu k o.1 o.2 r.1 r.2 (yt p1) (yt mn) h
theorem aeE (aD:db g c n)(E:bz g A c.lv O N s env sc loc hp){K:aZ→J ap→Prop}(h:jl c (n+1) (m2 bA k sc e) X loc hp K):yg g A O N s (xV e env (eval e env)) K X:=by
 cases k with
 |zero=>exact(show bt from h).elim
 |succ k=>
  cases e with
  |UnaryOp op x pos=>
   induction op with
   |Not=>exact E.gj (aD.b E h) fun v aB bj bN b bX I e h=>by subst e;exact U.mb bX.H rfl h
   |_=>exact TX aD E rfl h
  |BoolOp op es pos=>exact aD.eQ E h
  |IfExp t b o pos=>exact E.gj (aD.b E h) fun v aB bj bN b bX I e h=>by subst e;exact Bs h (aD.b bX) fun I=>aD.b bX
  |Compare l ops rs pos=>exact Ug (P:=fun e=>jl c (n+1) e X loc hp K) (fun h=>(show bt from h).elim) (fun k op r aT aN q=>by subst aT aN;exact TV aD TU E q) (fun k hV hW x r aT aN q=>by subst aT aN;exact TW (stop:=fun I=>bV ae) aD TU rfl E q) h
  |_=>exact TX aD E rfl h
theorem aeF (aD:db g c n)(E:bz g A c.lv O N s env sc loc hp)(e:Fx i=B p)(h:bT c (n+1) (bS p.2.2 (fun st=>hJ (p.1.isNone&&p.2.1.isNone&&(Fy st).isSome) (.sf (b1 bA k sc v))) (.fs (b1 bA k sc v) (tZ bA k sc p.1) (tZ bA k sc p.2.1))) X loc hp K):dP g A O N s (eval (.Subscript v i pos) env) K X:=by
 refine(aed e).elim fun c3 lI=>?_
 refine Y lI ?_
 clear e lI
 obtain⟨lo,hi,st⟩:=p
 induction st with
 |none=>exact aei aD E h
 |some st=>
  have y:=ct.mp (h3 h).1
  have z:=ct.mp y.1
  refine Y (show lo=ab from l4.mp z.1) (Y (show hi=ab from l4.mp z.2) ?_)
  refine(iR.mp y.2).elim fun u aeG=>?_
  obtain⟨j,p,q,rfl⟩:=aeg aeG
  exact aej aD E (h3 h).2
theorem aeH (W:ft g c)(q3:Bv g c n)(aD:db g c n)(E:bz g A c.lv O N s env sc loc hp)(h:bT c (n+1) (b1 bA k sc e) X loc hp K):dP g A O N s (eval e env) K X:=by
 cases k with
 |zero=>exact(kH h).elim
 |succ k=>
  cases e with
  |Constant c2 j p=>induction nS h with|mk e h=>exact acR E.H e h
  |Name x p=>exact ada W E h
  |BoolOp op es pos=>exact aD.cA E h
  |BinOp l op r pos=>exact adb aD E h
  |UnaryOp op x pos=>
   induction op with
   |USub=>exact LG aD E (K1:=fun a hp=>bF a.eK fun i=>K (.ac (-i)) hp) h fun E r h=>ab6 E.H h r
   |Invert=>exact LG aD E (K1:=fun a hp=>bF a.eK fun i=>K (.ac (qE i)) hp) h fun E r h=>ab7 E.H h r
   |Not=>exact LG aD E (K1:=fun a hp=>si a fun b=>K (.be (!b)) hp) h fun E r h=>adc E.H r h
   |UAdd=>exact(kH h).elim
  |IfExp t b o pos=>exact ade aD E h
  |Compare l ops rs pos=>exact Ug (P:=fun e=>bT c (n+1) e X loc hp K) (fun h=>(kH h).elim) (fun k op r aT aN q=>by subst aT aN;exact(TV (K':=fun v hp=>K (.be v) hp) aD TS E q).ua fun I I q=>q) (fun k hV hW x r aT aN q=>by subst aT aN;exact(TW (K':=fun v hp=>K (.be v) hp) (stop:=bV) aD TS rfl E q).ua fun I I q=>q) h
  |Tuple es j pos=>have h:=h3 h;exact Ua aD E h.1 h.2
  |List es pos=>have h:=h3 h;exact ad1 aD E h.1 h.2
  |Dict cK vs pos=>
   induction nS h with|mk e aY=>
   cases ad2 e
   exact ad4 aD E (dg (h3 aY).1) (h3 aY).2
  |Subscript v i pos=>
   refine(t9 h).elim (fun h=>?_) fun h=>?_
   ·induction h with|mk e fg=>exact aeF aD E e fg
   ·exact aeh aD E h
  |Attribute v x pos=>have h:=h3 h;exact aek W aD E h.1 h.2
  |Call f as mj pos=>exact aeC W q3 aD E h
  |ListComp elt gens aJ pos=>have h:=h3 h;exact q3.lc E h.1 h.2
  |DictComp gA lK gens aJ pos=>
   have h:=h3 h
   induction nS h.2 with|mk e cu=>
   cases ml e
   induction nS (h3 cu).2 with|mk p0 js=>exact q3.qN E h.1 (h3 cu).1 p0 js
  |_=>exact(kH h).elim
theorem aeI:db g c 0:=⟨fun I h=>qr h,fun I h=>qr h,fun I h=>qr h,fun I h=>qr h,fun I h=>qr h,fun I h=>qr h,fun I h=>qr h⟩
theorem aeJ (W:ft g c)(aD:db g c n)(q3:Bv g c n):db g c (n+1):=⟨fun E h=>aeH W q3 aD E h,fun E h=>adi aD E h,fun E h=>adk aD E h,fun E h=>adj aD E h,fun E h=>adm aD E h,fun E h=>aeE aD E h,fun E h=>adl aD E h⟩
end
def k7 (aS:J aC)(h aj:b8):Prop:=∀b o,b∉aS→h.get? b=B o→aj.get? b=B o
inductive FX (h:b8)(a:aC):Prop
 |mk {o:ee}{vs:dn au}(e:h.get? a=B o)(d:o.data=.fields vs)
section
variable {g:ci}{A:dc}{O cF N bw aS own:J aC}{s aB:a3}{n:ah}{hp:J ap}{h aj:b8}
theorem FX.ey:FX h a→∃o,h.get? a=B o
 | .mk e _=>⟨_,e⟩
theorem cz.oR (aG:∀a∈cF,a∈O)(eh:∀a∈aS,a∈O)(k:k7 aS h aj):cz N O N cF h aj:=.pE (fun b o e f=>k b o (fun m=>f.n (eh b m)) e) (fun I I I o=>⟨o.r,fun m=>o.n (aG _ m),o.s⟩) fun I I e=>e
theorem cz.mo (eh:∀a∈aS,a∈O)(k:k7 aS h aj):cz N O N O h aj:=.oR (fun I m=>m) eh k
theorem aR.oR (H:aR g h N O hp)(aG:∀a∈cF,a∈O)(eh:∀a∈aS,a∈O)(k:k7 aS h aj)(aw:∀a∈cF,∃o,aj.get? a=B o):aR g aj N cF hp:=
 H.to (.oR aG eh k:cz N O N cF h aj) (fun b o e cO q=>k b cO (fun m=>fb (H.gi b (eh b m)).1 e) q) H.bY (fun p m=>⟨(H.lo p m).1,fun q=>(H.lo p m).2 (aG p q)⟩) (fun p m=>⟨(H.gi p (aG p m)).1,aw p m⟩) H.bJ fun i p o aT aN=>(H.pG i p o aT aN).dw (.oR aG eh k:cz N O N cF h aj) fun cO q=>k p cO (fun m=>(H.lo p (gZ aT)).2 (eh p m)) q
theorem aR.mo (H:aR g h N O hp)(eh:∀a∈aS,a∈O)(k:k7 aS h aj)(aw:∀a∈aS,∃o,aj.get? a=B o):aR g aj N O hp:=H.oR (fun I m=>m) eh k fun p m=>by
 by_cases q:p∈aS
 ·exact aw p q
 ·exact(H.gi p m).2.imp fun o=>k p o q
theorem aR.Uh (H:aR g h N (aS++O) hp)(hd:∀a∈aS,a∉O)(k:k7 aS h aj):aR g aj N O hp:=H.oR (fun I=>ho _) (fun I=>mE _) k fun p m=>(H.gi p (ho _ m)).2.imp fun o=>k p o fun q=>hd p q m
theorem b9.mo (k:k7 aS s.heap aj)(aw:∀a∈aS,∃o,aj.get? a=B o)(hS:∀a∈aS,∀o o',s.heap.get? a=B o→aj.get? a=B o'→jF o→jF o'):b9 A aS N s N {s with heap:=aj,toks:=tk}:=
 ⟨⟨fun b o e=>by
   by_cases q:b∈aS
   ·exact aw b q
   ·exact⟨o,k b o q e⟩,fun b o e I n I=>.qK (k b o n e)⟩,hS,tm _,.iX _ _,rfl,rfl,rfl⟩
theorem f7.mo (F:f7 g h N O env ch loc)(eh:∀a∈aS,a∈O)(aA:∀a∈aS,a∉dG env)(k:k7 aS h aj):f7 g aj N O env ch loc:=
 F.dw (.mo eh k) (fun I I m=>m) fun a m o e=>⟨o,k a o (fun q=>aA a q m) e,rfl⟩
abbrev IterZ_mv (aS:J aC)(St:J D→b8→J aC→J aC→Prop):Prop:=∀{ds h aj N bw O cF},St ds h N O→cz N O bw cF h aj→(∀a∈aS,∀o,h.get? a=B o→aj.get? a=B o)→St ds aj bw cF
abbrev IterZ_selfZ (g:ci)(A:dc)(it:au)(St:J D→b8→J aC→J aC→Prop):Prop:=∀{ds s N O} {Q:au→a3→Prop} {E:au→a3→Prop},St ds s.heap N O→Q it s→bM (bB g.p g.w) A (tD it) Q E s
structure q4 (g:ci)(A:dc)(target:b7)(it:au)(aS:J aC)(St:J D→b8→J aC→J aC→Prop):Prop where
 FY:∀{ds h N O},St ds h N O→∀a∈aS,FX h a
 dw:IterZ_mv aS St
 Bz:∀{d ds s N O hp} {Q:ax au→a3→Prop} {E:au→a3→Prop},aR g s.heap N O hp→(∀a∈aS,a∈O)→St (d::ds) s.heap N O→
  (∀v cM oS,(∀FZ:g5→a3→Prop,(∀fR v5,aE g fR N O d v→St ds fR N O→k7 aS s.heap fR→FZ () {s with heap:=fR,toks:=v5})→
   bM (bB g.p g.w) A (vm target it v) FZ E {s with heap:=cM,toks:=oS})→Q (B v) {s with heap:=cM,toks:=oS})→bM (bB g.p g.w) A (tE it) Q E s
 jj:∀{s N O} {Q:ax au→a3→Prop} {E:au→a3→Prop},St [] s.heap N O→(∀cM oS,k7 aS s.heap cM→Q ab {s with heap:=cM,toks:=oS})→bM (bB g.p g.w) A (tE it) Q E s
 oU:IterZ_selfZ g A it St
structure aeK (g:ci)(aD:aC)(q5:J aC)(n:ah)(P:ah→au→Prop)(p3:ah→b8→Prop)(i:ah)(ds:J D)(h:b8)(N O:J aC):Prop where
 st:p3 i h
 q5:∀b∈q5,b≠aD→hs N O b∧∃o,h.get? b=B o
 bJ:i+ds.length=n
 dq:∀j v,P (i+j) v→cQ ds[j]? fun d=>aE g h N O d v
theorem q4.aeL (W:AE g.p g.w A aD q5 [aD] m P p3)(hf:∀i h,p3 i h→FX h aD)(LY:∀i (s:a3) v (Q:g5→a3→Prop) (E:au→a3→Prop),p3 i s.heap→Q () s→bM (bB g.p g.w) A (vm target (.ref aD) v) Q E s):
  q4 g A target (.ref aD) [aD] fun ds h N O=>∃i,aeK g aD q5 m P p3 i ds h N O where
 FY:=fun eb a b0=>eb.elim fun i w=>df.mp b0▸hf i _ w.st
 dw:=fun {ds h aj N bw O cF} eb M k=>eb.elim fun i w=>by
  refine⟨i,W.frame i h aj w.st fun b ay o e=>?_,fun b ay gn=>?_,w.bJ,fun j v p=>?_⟩
  ·by_cases q:b=aD
   ·exact k b (q▸.head _) o e
   ·exact hG.cw M b o cy e (w.q5 b ay q).1
  ·exact(w.q5 b ay gn).elim fun of cj=>cj.elim fun o' cR=>⟨hG.nC M b o' cy cR of,o',hG.cw M b o' cy cR of⟩
  ·induction w.dq j v p with|mk e r=>exact .mk e (M.v r)
 Bz:=fun {d ds s N O hp Q E} H eh eb k=>eb.elim fun i w=>by
  refine W.item i s Q E (w.bJ▸Eo (tt _)) w.st fun v aj tk aeM nT bC=>k v aj tk fun FZ q=>LY (i+1) _ v _ _ nT ?_
  refine q aj tk ?_ ⟨i+1,nT,fun b ay gn=>?_,(QL i 1 _).trans w.bJ,fun j v p=>?_⟩ bC
  ·induction w.dq 0 v aeM with|mk e r=>exact Y (bo e) ((.mo eh bC:cz N O N O s.heap aj).v r)
  ·exact⟨(w.q5 b ay gn).1,(w.q5 b ay gn).2.imp fun o=>bC b o fun m=>gn (df.mp m)⟩
  ·induction w.dq (j+1) v (by rw[QL] at p;exact p)with|mk e r=>exact .mk e ((.mo eh bC:cz N O N O s.heap aj).v r)
 jj:=fun {s N O Q E} eb k=>eb.elim fun i w=>W.done s Q E (w.bJ▸w.st) fun aj tk bC=>k aj tk bC
 oU:=fun eb q=>eb.elim fun i w=>W.self i _ _ _ w.st q
noncomputable abbrev F0:J gg:=["enumerate","zip","dict_itemiterator","dict_reverseitemiterator","odict_iterator","itertools.zip_longest","itertools.pairwise"]
theorem aeN {T:gg}(bC:s.heap.get? aD=B o)(hc:o.cls=.type T)(hd:o.data=.fields vs)(di:F0.contains T=ae)(q:Q () s):
  bM (bB g.p g.w) A (vm target (.ref aD) v) Q E s:=by
 have key:∀a:aC,bM (bB g.p g.w) A (do
   let o←load aD
   match o.cls,o.data with
   | .type n,.fields vs=>
    if["enumerate","zip","dict_itemiterator","dict_reverseitemiterator","odict_iterator","itertools.zip_longest","itertools.pairwise"].contains n&&vs[0]?==B (l6 a)then
     rule "for.unpacks-the-owned-tuple"
     updateField aD 0 .none
   |_,_=>bV ()) Q E s:=fun a=>by
  refine aX (rX bC ?_)
  refine Y hc (Y hd ?_)
  show bM _ _ (if(_&&_)=af then _ else _) _ _ _
  exact Y di (Y (IG ..) (Y (bL dO) (cq q)))
 cases target<;>first|exact cq q| (cases v<;>first|exact cq q|exact key _)
inductive BA (g:ci)(A:dc)(target:b7)(O N:J aC)(h aj:b8)(it:au)(aS:J aC)(P:J D→Prop):Prop
 |mk {St:J D→b8→J aC→J aC→Prop}{ds:J D}(aD:q4 g A target it aS St)(st:St ds aj N (aS++O))(p:P ds)(k:∀b o,h.get? b=B o→aj.get? b=B o)(eh:∀a∈aS,h.get? a=ab∧∃o,aj.get? a=B o)
theorem BB {T:gg}{vs:dn au}(W:AE g.p g.w A h.objs.size q5 [h.objs.size] m P0 p3)(st:p3 0 (h.push o))(hc:∀i aj,p3 i aj→∃o vs,aj.get? h.objs.size=B o∧o.cls=.type T∧o.data=.fields vs)(di:F0.contains T=ae)(aeO:∀b∈q5,b≠h.objs.size→hs N O b∧∃o,h.get? b=B o)(aw:ds.length=m)(bI:∀j v,P0 j v→cQ ds[j]? fun d=>aE g h N O d v)(p:P ds):BA g A target O N h (h.push o) (.ref h.objs.size) [h.objs.size] P:=by
 have M:cz N O N (h.objs.size::O) h (h.push o):=.q0 fV (hZ _)
 refine .mk (.aeL W (fun i h x=>?_) fun i s v Q E x q=>?_) ⟨0,st,fun b ay gn=>?_,(iP _).trans aw,fun j v x=>?_⟩ p fV fun a b0=>?_
 ·obtain⟨o,vs,aY, -,cu⟩:=hc i h x;exact .mk aY cu
 ·exact(hc i _ x).elim fun o cj=>cj.elim fun vs d3=>d3.elim fun aY fW=>fW.elim fun bu cu=>aeN aY bu cu di q
 ·exact(aeO b ay gn).elim fun of cj=>cj.elim fun o' e=>⟨hG.nC M b o' cy e of,o',fV b o' e⟩
 ·rw[iP] at x;induction bI j v x with|mk e r=>exact .mk e (M.v r)
 ·exact Y (df.mp b0) (⟨hZ _,(hc 0 _ st).imp fun o z=>z.elim fun I y=>y.1⟩)
theorem aeP (bU:A.handled=ab)(aD:aC)(b:dn am)(t:dv):AE prog w A aD [aD] [aD] b.size (fun i v=>∃c u,b[i]?=B c∧v=.int (c.toNat:aq) u) (fun i h=>KBw.IsBytesIter h aD b t i) where
 sub:=fun I ay=>ay
 frame:=fun I I I st hk=>st.elim fun o cj=>cj.elim fun bC r=>⟨o,hk aD (.head _) o bC,r⟩
 item:=fun i s Q E hi st dJ=>KBw.next_item st (DJ hi) fun aj LZ gr=>dJ _ aj (s.toks+1) ⟨_,_,DJ hi,rfl⟩ LZ fun b o ay e=>gr.extBut b o (fun h=>ay (h▸.head _)) e
 done:=fun s Q E st dJ=>KBw.next_end bU st (Array.getElem?_eq_none (a8 _)) fun aj aeQ=>dJ aj s.toks fun b o ay e=>aeQ b o (fun h=>ay (h▸.head _)) e
 self:=fun I I I I st dJ=>KBw.pyIter_self st dJ
theorem Ui {T U:gg}(aV:h.get? p=B (hU T vs m))(hf:hs N O p)(aL:cp g h N O l vs)(W:AE g.p g.w A h.objs.size [h.objs.size,p] [h.objs.size] vs.toArray.size (fun i v=>vs.toArray[i]?=B v) p3)(st:p3 0 (h.push {cls:=.type U,data:=.fields Bo}))(hc:∀i aj,p3 i aj→∃o vs,aj.get? h.objs.size=B o∧o.cls=.type U∧o.data=.fields vs)(di:F0.contains U=ae)(q:P l):
  BA g A target O N h (h.push {cls:=.type U,data:=.fields Bo}) (.ref h.objs.size) [h.objs.size] P:=
 BB (vs:=Bo) W st hc di (fun b ay gn=>by
  rcases cV.mp ay with e|e
  ·exact cr e gn
  ·exact Y (df.mp e) (⟨hf,_,aV⟩)) (Y dD (aL.bJ.symm▸rfl)) (fun j v e=>by
  have e:=rL▸e
  have gF:j < l.length:=aL.bJ▸(gc.mp e).1
  induction aL.fv (hQ gF)with|mk cR r=>exact .mk (hQ gF) (bo (e.symm.trans cR)▸r)) q
theorem yI (e:h.get? p=B o):p≠h.objs.size:=fun q=>fb (hZ _) (q▸e)
theorem Uj (bU:A.handled=ab)(H:aR g s.heap N O hp)(av:aE g s.heap N O d v)(h:vQ P d)(k:∀it aS aj,BA g A target O N s.heap aj it aS P→Q it {s with heap:=aj}):bM (bB g.p g.w) A (tD v) Q E s:=by
 have self:∀{aD:aC} {b:aC} {o:Prop},b∈[aD]→b≠aD→o:=fun m n=>cr (df.mp m) n
 cases d with
 |V b=>
  induction av with|mk t=>
  refine KBw.pyIter_bytes (k _ _ _ (BB (vs:= #[]) (ds:=b.map fun c=>.ac c.toNat) (aeP bU _ b.toArray t) ⟨_,ic _ rfl,rfl,rfl⟩ (fun i h=>gb fun o z=>⟨_,z⟩) (by decide) (fun b ay gn=>self ay gn) (by simp) (fun j v q=>xp q fun c q=>xp q fun u q=>?_) h.2))
  refine q.2▸.mk ?_ (aE.i _ _)
  rw[gP,←rL,q.1];rfl
 |aF x=>
  induction av with|mk t=>
  have fin:∀(T:gg),(∀aD,AE g.p g.w A aD [aD] [aD] x.cps.size (SignAt x) (fun i h=>h.IsStrIter aD T x t i))→F0.contains T=ae→Q (.ref s.heap.objs.size) {s with heap:=s.heap.push {cls:=.type T,data:=.fields #[.str x t,.int 0 0]}}:=fun T W di=>by
   refine k _ _ _ (BB (vs:= #[]) (ds:=x.cps.toList.map fun c=>.aF ⟨#[c]⟩) (W _) ⟨_,ic _ rfl,rfl,rfl⟩ (fun i h=>gb fun o z=>⟨_,z⟩) di (fun b ay gn=>self ay gn) (by simp) (fun j v q=>xp q fun c q=>xp q fun u q=>?_) h.2)
   refine q.2▸.mk ?_ (aE.x _ _)
   rw[gP,IA,q.1];rfl
  cases b0:x.cps.all (· < 128)
  ·exact wpAny_pyIter_wide b0 (fin _ (fun aD=>Walks.strWide bU aD x t) (by decide))
  ·exact wpAny_pyIter_ascii b0 (fin _ (fun aD=>Walks.strAscii bU aD x t) (by decide))
 |aW l=>
  induction av with|@mk p of w=>
  induction w with|@mk vs m aV aL=>
  exact wpAny_pyIter_tuple ⟨_,aV,rfl,m,rfl⟩ (k _ _ _ (Ui aV of aL (Walks.tuple bU _ p (yI aV) vs.toArray) ⟨⟨_,ic _ rfl,rfl,rfl⟩,⟨_,fV _ _ aV,rfl,m,rfl⟩⟩ (fun i h q=>gb (fun o z=>⟨_,z⟩) q.1) (by decide) h.2))
 |aP l=>
  induction av with|@mk p of w=>
  induction w with|@mk vs m aV aL=>
  exact Rh ⟨_,aV,rfl,m,rfl⟩ (k _ _ _ (Ui aV of aL (Walks.list bU _ p (yI aV) vs.toArray) ⟨⟨_,ic _ rfl,rfl,rfl⟩,⟨_,fV _ _ aV,rfl,m,rfl⟩⟩ (fun i h q=>gb (fun o z=>⟨_,z⟩) q.1) (by decide) h.2))
 |a5 l=>
  induction av with|@mk p of w=>
  induction w with|@mk kvs hd aL=>
  obtain⟨ep,bZ⟩:=hd.dictAt
  obtain⟨od,es,bY,aV,hc,FW,_⟩:=id hd
  refine wpAny_pyIter_dict (vY of.s) bZ (k _ _ _ (BB (vs:= #[]) (ds:=l.map fun p=>p.1.d) (Walks.dictKeys (knd:=hF g.p g.w) bU _ p (yI aV) kvs ep) ⟨⟨_,ic _ rfl,rfl,rfl⟩,bZ.push _⟩ (fun i h q=>gb (fun o z=>⟨_,z⟩) q.1) (by decide) (fun b ay gn=>?_) (by rw[cH,aL.bJ]) (fun j v q=>xp q fun ky q=>xp q fun x z=>?_) h.2))
  ·rcases cV.mp ay with e|e
   ·exact cr e gn
   ·exact df.mp e▸⟨of,_,aV⟩
  ·have q:=bl (fun l=>l[j]?) aL.oy
   rw[gP,gP,z.1] at q
   refine(iu.mp q.symm).elim fun pr y=>.mk (a:=ky.d) ?_ (bf.h1 z.2)
   rw[gP,y.1];exact bl (fun k=>B (bf.d k)) y.2
 |_=>exact h.elim
end
section
variable {g:ci}{O N bw aS:J aC}{n k:ah}
theorem aeR (bU:A.handled=ab)(aL:IsRange s.heap r 0 i 1 t u v)(hi:0≤i∧i≤1000)(p:P (vR i))(k:∀it aS aj,BA g A target O N s.heap aj it aS P→Q it {s with heap:=aj}):bM (bB g.p g.w) A (tD (.ref r)) Q E s:=by
 have hK:RO 0 i 1=(i.toNat:aq):=by rw[rangeSize_one];split<;>lia
 refine wpAny_pyIter_range aL (small_one (by decide) (by decide) (by lia) (by lia)) (k _ _ _ (BB (vs:= #[]) (T:="range_iterator") (ds:=vR i) ((Walks.range bU _ 0 1 i.toNat).bound) ?_ (fun j h x=>⟨_,_,x,rfl,rfl⟩) (by decide) (fun b ay gn=>cr (df.mp ay) gn) (by simp[vR]) (fun j v x=>?_) p))
 ·show IsRangeIter _ _ (0+((0:ah):aq) *1) ((i.toNat:aq) - ((0:ah):aq)) 1
  rw[show(0+((0:ah):aq) *1)=0 by simp,show((i.toNat:aq) - ((0:ah):aq))=RO 0 i 1 by rw[hK];simp]
  exact ic _ rfl
 ·obtain⟨da,t,e⟩:=x
  subst e
  refine .mk (a:=.ac j) ?_ ?_
  ·rw[vR,gP,List.getElem?_range da];rfl
  ·rw[IL,IM];exact aE.i _ _
structure aeS (g:ci)(e it ud:aC)(i:ah)(vs:J au)(l:J D)(n:ah)(old:au)(ds:J D)(h:b8)(N O:J aC):Prop where
 gu:IsEnum h e it i old
 li:h.IsListIter it ud i
 ls:h.get? ud=B (hU "list" vs n)
 of:hs N O ud
 ne:ud≠e∧ud≠it∧e≠it
 h1:cp g h N O l vs
 ds:ds=(sl l).drop i
theorem L3 (l:J D):(sl l).length=l.length:=by rw[sl,cH,Ql]
theorem Uk {α:Type}{l:J α}{d:α}{ds:J α}(h:d::ds=l.drop i):l[i]?=B d∧ds=l.drop (i+1):=by
 have aY:=bl (fun x=>x[0]?) h
 have bu:=bl QE h
 rw[Qx] at bu
 exact⟨by rw[Qk] at aY;exact aY.symm,bu⟩
theorem q4.enum (bU:A.handled=ab):q4 g A (.Tuple elts nQ oG) (.ref e) [e,it] fun ds h N O=>∃i vs l n old,aeS g e it ud i vs l n old ds h N O where
 FY:=fun⟨i,vs,l,n,old,w⟩ a b0=>by
  refine(cV.mp b0).elim (fun q=>?_) fun q=>?_
  ·exact Y q (.mk w.gu rfl)
  ·obtain⟨o,bu, -,fg⟩:=w.li;exact Y (df.mp q) (.mk bu fg)
 dw:=fun⟨i,vs,l,n,old,w⟩ M k=>⟨i,vs,l,n,old,k e (.head _) _ w.gu,w.li.at fun o x=>k it (.tail _ (.head _)) o x,hG.cw M _ _ cy w.ls w.of,hG.nC M _ _ cy w.ls w.of,w.ne,M.vs w.h1,w.ds⟩
 Bz:=fun {d ds s N O hp Q E} H eh eb k=>eb.elim fun i gG=>gG.elim fun vs kJ=>kJ.elim fun l p4=>p4.elim fun n sD=>sD.elim fun old w=>by
  refine(Uk w.ds).elim fun hd Bn=>?_
  have gF:i < l.length:=L3 l▸(gc.mp hd).1
  induction w.h1.fv (hQ gF)with|@mk v ev h1=>
  refine wpAny_pyNext_enum_item w.gu w.li ⟨_,w.ls,rfl,n,rfl⟩ (x:=v) (by refine rL▸?_;exact ev) w.ne.2.2 fun aj aT aN dK fN p5=>?_
  refine k _ aj _ fun FZ q=>wpAny_letOwnedTupleGo_enum aT fun fR f1 f2=>?_
  have out:k7 [e,it] s.heap fR:=fun b o nb x=>(f2.2 b fun q=>nb (q▸.head _)).trans (p5 b o (fun q=>nb (q▸.head _)) (fun q=>nb (q▸.tail _ (.head _))) x)
  have aeT:ud∉[e,it]:=fun m=>(cV.mp m).elim w.ne.1 fun m=>w.ne.2.1 (df.mp m)
  refine q fR _ ?_ ⟨i+1,vs,l,n,v,f1,aN.extBut f2.extBut w.ne.2.2.symm,out ud _ aeT w.ls,w.of,w.ne,(.mo eh out:cz N O N O s.heap fR).vs w.h1,Bn⟩ out
  rw[sl,gP,List.getElem?_zipIdx,hQ gF] at hd
  exact cN (bo hd) (f0.mk H.nC (.mk (vs:=[.int _ _,v]) ((f2.2 _ (yI w.gu).symm).trans dK) (mQ.mk (Y (iP ..) (aE.i _ _)) (mQ.mk ((.mo eh out:cz N O N O s.heap fR).v h1) j0.mk))))
 jj:=fun {s N O Q E} eb k=>eb.elim fun i gG=>gG.elim fun vs kJ=>kJ.elim fun l p4=>p4.elim fun n sD=>sD.elim fun old w=>by
  have:l.length≤i:=L3 l▸Ad.mp w.ds.symm
  exact wpAny_pyNext_enum_end bU w.gu w.li ⟨_,w.ls,rfl,n,rfl⟩ (rL▸(Qd (Y w.h1.bJ this))) fun aj hx=>k aj s.toks fun b o nb x=>hx b o (fun q=>nb (q▸.tail _ (.head _))) x
 oU:=fun eb q=>eb.elim fun i gG=>gG.elim fun vs kJ=>kJ.elim fun l p4=>p4.elim fun n sD=>sD.elim fun old w=>Ri w.gu q
abbrev aeU (g:ci)(A:dc)(O N:J aC)(s:a3)(target:b7)(K:J D→J ap→Prop)(Q:au→a3→Prop):Prop:=
 ∀it aS c6 fk il St ds,q4 g A target it aS St→b9 A [] N s fk c6→aR g c6.heap fk (aS++O) il→St ds c6.heap fk (aS++O)→(∀a∈aS,s.heap.get? a=ab)→K ds il→ds.length≤1000000→Q it c6
def BC (g:ci)(A:dc)(O N:J aC)(s:a3)(target:b7)(K:J D→J ap→Prop)(x:au)(aB:a3):Prop:=
 ∀(Q:au→a3→Prop) (E:au→a3→Prop),aeU g A O N s target K Q→bM (bB g.p g.w) A (tD x) Q E aB
theorem BD (eh:∀a∈aS,h.get? a=ab):hu h O (aS++O):=fun p m=>(fE.mp m).elim (fun m=>.inr (eh p m)) .inl
theorem aR.nU (H:aR g h N O hp)(k:∀b o,h.get? b=B o→aj.get? b=B o)(eh:∀a∈aS,h.get? a=ab∧∃o,aj.get? a=B o):aR g aj N (aS++O) hp:=
 H.e7 k (BD fun a m=>(eh a m).1) fun p m=>(fE.mp m).elim (fun m=>(eh p m).2) fun m=>(H.gi p m).2.imp fun o=>k p o
theorem cz.nU (k:∀b o,h.get? b=B o→aj.get? b=B o)(eh:∀a∈aS,h.get? a=ab):cz N O N (aS++O) h aj:=.pE (fun b o x I=>k b o x) (fun b o x f=>⟨f.r,(BD eh).vL x f.n,f.s⟩) fun I I x=>x
theorem BC.of {K:J D→J ap→Prop}(st:b9 A [] N s bj aB)(H:aR g aB.heap bj O bN)(h:∀(Q:au→a3→Prop) (E:au→a3→Prop),(∀it aS aj,BA g A target O bj aB.heap aj it aS (fun ds=>K ds bN∧ds.length≤1000000)→Q it {aB with heap:=aj})→bM (bB g.p g.w) A (tD x) Q E aB):BC g A O N s target K x aB:=fun Q E q=>
 h Q E fun it aS aj b=>by induction b with|mk aD nT p hk eh=>exact q it aS _ bj bN _ _ aD (st.eJ (.e7 hk)) (H.nU hk eh) nT (fun a m=>pI st.e8.ey (eh a m).1) p.1 p.2
theorem Ul (h:vQ P d):vQ (fun l=>P l∧l.length≤1000000) d:=by
 have w:∀{k:ah},k≤1000→k≤1000000:=fun z=>ao z (by decide)
 cases d with
 |V=>exact⟨h.1,h.2,Y (cH ..) h.1⟩
 |aF=>exact⟨h.1,h.2,Y (cH ..) (Y (DK ..) (w h.1))⟩
 |aW=>exact⟨h.1,h.2,w h.1⟩
 |aP=>exact⟨h.1,h.2,h.1⟩
 |a5=>exact⟨h.1,h.2,Y (cH ..) (w h.1)⟩
 |_=>exact h.elim
theorem BE {P:cS→Prop}{Q:Prop}(ay:P .ez→Q)(h:P (hJ b x))(q:b=af→P x→Q):Q:=by
 induction b with
 |true=>exact q rfl h
 |false=>exact ay h
theorem BF {P:cS→Prop}{Q:Prop}(ay:P .ez→Q)(h:P (iw o f))(q:∀a,o=B a→P (f a)→Q):Q:=by
 induction o with
 |some a=>exact q a rfl h
 |none=>exact ay h
theorem Um (aD:db g c n)(E:bz g A c.lv O N s env sc loc hp)(h:bT c n (b1 bA kk sc e) X loc hp K1):AY g A O N s (mN (c5 [e] env)) (fun ds hp=>∃d,ds=[d]∧K1 d hp) X:=
 E.dN (aD.e E h) fun d bN aB bj bX h=>cs (.dj (b:=[]) bX.H j0.mk ⟨d,rfl,h⟩)
theorem cp.dW (x:cp g h N O [d] vs):∃v,vs=[v]∧aE g h N O d v:=by
 induction x with|mk a r=>induction r;exact⟨_,rfl,a⟩
abbrev L4 (g:ci)(A:dc)(O N:J aC)(s:a3)(target it:b7)(env:eo)(K:J D→J ap→Prop)(X:J ap→Prop):Prop:=bK (bB g.p g.w) A (eval it env) (BC g A O N s target K) (gR g A [] O N s X) s
theorem aeV (W:ft g c)(aD:db g c n)(E:bz g A c.lv O N s env sc loc hp){K:J D→J ap→Prop}(aV:gC sc "enumerate"=af)(aG:sm e=ae)(h:bT c n (b1 bA k sc e) X loc hp fun d hp=>bF d.oB fun l=>l.length≤1000∧K (sl l) hp):L4 g A O N s (.Tuple elts nQ oG) (.Call (.Name "enumerate" np) [e] [] pos) env K X:=by
 have bq:i0 [e]=af:=by show(!sm e&&af)=af;refine Y aG ?_;rfl
 refine W.iY.elim fun dr cj=>cj.elim fun fM d3=>d3.elim fun bZ fW=>fW.elim fun uc gl=>?_
 show bK _ _ (eval (.Call (.Name "enumerate" np) [e] [] pos) env) _ _ _
 refine Y (Ev ..) (Y (yE bq) ?_)
 refine d1 (E.tU aV (by decide) bZ uc (gl.bi _ (.tail _ (.head _))) gl.vO _ _ (Bq (by show(1:ah)≤30;decide) (Um aD E h) (fun I I I I=>.mb rfl) (fun ds vs bN aB bj st H r q=>bK.of ?_) fun I I q=>q))
 obtain⟨d,rfl,q⟩:=q
 obtain⟨v,rfl,h1⟩:=r.dW
 induction cQ.of q with|@mk l dq q=>
 cases S8 dq
 induction h1 with|@mk p of w=>
 induction w with|@mk vs nn F1 aL=>
 refine call_enumerate_list ⟨_,F1,rfl,nn,rfl⟩ fun aj aT aN dK fN=>fun Q mP lC=>Ri aT ?_
 have lt:p < aB.heap.objs.size:=py F1
 have L5:∀a∈[aB.heap.objs.size+1,aB.heap.objs.size],aB.heap.get? a=ab:=fun a m=>rZ ((cV.mp m).elim (fun e=>e▸iQ _) fun m=>eT (df.mp m).symm)
 have M:=cz.nU (O:=O) (N:=bj) fN L5
 exact lC (.ref (aB.heap.objs.size+1)) [aB.heap.objs.size+1,aB.heap.objs.size] _ bj bN _ (sl l) (q4.enum E.C.hd) (st.eJ (.e7 fN)) (H.nU fN (fun a m=>⟨L5 a m,(cV.mp m).elim (fun e=>e▸⟨_,aT⟩) fun m=>df.mp m▸aN.imp fun o z=>z.1⟩:∀a∈[aB.heap.objs.size+1,aB.heap.objs.size],aB.heap.get? a=ab∧∃o,aj.get? a=B o)) ⟨0,vs,l,nn,.none,aT,aN,fN _ _ F1,hG.nC M _ _ cy F1 of,⟨rQ (QM lt),rQ lt,QO _⟩,M.vs aL,rfl⟩
  (fun a m=>pI st.e8.ey (L5 a m)) q.2 (L3 l▸ao q.1 (by decide))
theorem aeW (W:ft g c)(aD:db g c n)(E:bz g A c.lv O N s env sc loc hp){K:J D→J ap→Prop}(aV:gC sc "range"=af)(aG:sm e=ae)(h:bT c n (b1 bA k sc e) X loc hp fun d hp=>bF d.eK fun i=>(0≤i∧i≤1000)∧K (vR i) hp):L4 g A O N s target (.Call (.Name "range" np) [e] [] pos) env K X:=by
 have bq:i0 [e]=af:=by show(!sm e&&af)=af;refine Y aG ?_;rfl
 refine W.iY.elim fun dr cj=>cj.elim fun fM d3=>d3.elim fun bZ fW=>fW.elim fun uc gl=>?_
 show bK _ _ (eval (.Call (.Name "range" np) [e] [] pos) env) _ _ _
 refine Y (Ev ..) (Y (yE bq) ?_)
 refine d1 (E.tU aV (by decide) bZ uc (gl.bi _ (.tail _ (.tail _ (.head _)))) gl.qO _ _ (Bq (by show(1:ah)≤30;decide) (Um aD E h) (fun I I I I=>.mb rfl) (fun ds vs bN aB bj st H r q=>bK.of ?_) fun I I q=>q))
 obtain⟨d,rfl,q⟩:=q
 obtain⟨v,rfl,h1⟩:=r.dW
 induction cQ.of q with|@mk i lI q=>
 cases oJ lI
 induction h1
 refine call_range_1 (BC.of (st.eJ (.e7 fV)) (H.j3 _) fun Q mP lC=>aeR E.C.hd (IsRange.new ..) q.1 ⟨q.2,?_⟩ lC)
 rw[vR,cH,rN];have:=q.1;omega
theorem aeX (e:((tX it).bind fun c=>(nM c.1).bind fun x=>if x="enumerate" then B (af,x,c.2.1,c.2.2.1)else if x="range" then B (ae,x,c.2.1,c.2.2.1)else ab)=B p):
  ∃np pos,it=.Call (.Name p.2.1 np) p.2.2.1 p.2.2.2 pos∧(p.2.1=match p.1 with|true=>"enumerate" |false=>"range"):=by
 induction nO e with|@mk q3 aT dK=>
 induction nO dK with|@mk x aN fN=>
 refine(yG aN).elim fun np aN=>?_
 have q:=LO aT
 have q:=aN▸q
 by_cases z:x="enumerate"
 ·have fN:=(b3 z)▸fN
  exact bo fN▸⟨np,_,q,z⟩
 ·have fN:=(bL z)▸fN
  by_cases z:x="range"
  ·have fN:=(b3 z)▸fN
   exact bo fN▸⟨np,_,q,z⟩
  ·exact nn ((bL z)▸fN)
theorem Un {P:cS→Prop}{Q:Prop}(ay:P .ez→Q)(cP:∀k np pos e r,it=.Call (.Name "enumerate" np) [e] [] pos→pP target=B r→gC sc "enumerate"=af→sm e=ae→P (.vO (b1 bA k sc e))→Q)(aL:∀k np pos e,it=.Call (.Name "range" np) [e] [] pos→gC sc "range"=af→sm e=ae→P (.qO (b1 bA k sc e))→Q)(av:∀k,P (.c0 (b1 bA k sc it))→Q)(h:P (j8 bA k sc target it)):Q:=by
 induction k with
 |zero=>exact ay h
 |succ k=>
  have h:P (bS _ _ _):=h
  generalize p1:((tX it).bind fun c=>(nM c.1).bind fun x=>if x="enumerate" then B (af,x,c.2.1,c.2.2.1)else if x="range" then B (ae,x,c.2.1,c.2.2.1)else ab)=o at h
  induction o with
  |none=>exact av k h
  |some p=>
   obtain⟨np,pos,aT,aN⟩:=aeX p1
   refine BE ay h fun g1 jp=>BF ay jp fun a jL ik=>BE ay ik fun g2 lJ=>?_
   refine(ct.mp g1).elim fun g1 g3=>?_
   obtain⟨g1, -⟩:=ct.mp g1
   rw[ks.mp g3,ml jL,aN] at aT
   rw[aN] at g1
   generalize p.1=b at *
   induction b with
   |true=>exact BE ay lJ fun BG aeY=>(iR.mp BG).elim fun r mn=>cP k np pos a r aT mn g1 (l2.mp g2) aeY
   |false=>exact aL k np pos a aT g1 (l2.mp g2) lJ
theorem Uo (W:ft g c)(aD:db g c n)(E:bz g A c.lv O N s env sc loc hp){K:J D→J ap→Prop}(h:mX c (n+1) (j8 bA k sc target it) X loc hp K):L4 g A O N s target it env K X:=
 Un (P:=fun e=>mX c (n+1) e X loc hp K) (fun h=>(show bt from h).elim) (fun k np pos e r aT mn g1 g2 z=>by
  obtain⟨j,oG,rfl⟩:=FU mn
  subst aT;exact aeV W aD E g1 g2 z) (fun k np pos e aT g1 g2 z=>by subst aT;exact aeW W aD E g1 g2 z)
  (fun k h=>(aD.e E h).jH (fun v aB bj bN d st H r q=>BC.of st H fun Q Ee lC=>Uj E.C.hd H r (Ul q) lC) fun x aB q=>q) h
theorem Up {K:J D→J ap→Prop}(h:mX c (n+1) (j8 bA k sc target it) X loc hp K)(x:au):Ex it env x=bV x:=
 Un (P:=fun e=>mX c (n+1) e X loc hp K) (fun h=>(show bt from h).elim) (fun k np pos e r aT I I I I=>by refine Y aT ?_;rfl) (fun k np pos e aT I I I=>by refine Y aT ?_;rfl)
  (fun k h=>by cases it<;>first|rfl|exact(LH (show bT c n (b1 bA k sc (.Set _ _ _)) X loc hp _ from h)).elim) h
end
def ue (aS:J aC)(env:eo)(ch:J aO)(is:J ah):Prop:=∀i∈is,∀x,ch[i]?=B x→∀a∈dG env,a∈aS∨(a≠env.locals∧env.kindOf x=B .local)
section
variable {A:dc}{O N bw aS J':J aC}{env:eo}{ch:J aO}{is:J ah}
theorem F2 (h:oH ch e=B i):∃x p,e=.Name x p∧ch[i]?=B x:=by
 induction nO h with|@mk x aT aN=>
 exact(yG aT).elim fun p q=>⟨x,p,q,k4 aN⟩
theorem L6 (h:gD ch target=B is):(∃x p i,target=.Name x p∧ch[i]?=B x∧is=[i])∨∃es j p,target=.Tuple es j p∧2≤es.length∧dF (oH ch) es=B is:=by
 unfold gD at h
 generalize p1:pP target=o at h
 induction o with
 |none=>
  exact(iu.mp h).elim fun i cj=>cj.elim fun e q=>(F2 e).elim fun x cj=>cj.elim fun p r=>.inl ⟨x,p,i,r.1,r.2,q.symm⟩
 |some es=>
  refine(FU p1).elim fun j cj=>cj.elim fun p q=>?_
  by_cases z:2≤es.length
  ·exact .inr ⟨es,j,p,q,z,(b3 z).symm.trans h⟩
  ·cases(bL z).symm.trans h
def L7 (env:eo)(ch:J aO)(p:(au→dM g5)×ah):Prop:=∃x,ch[p.2]?=B x∧∀{M:vv} {A:dc} {v:au} {Q:g5→a3→Prop} {E:au→a3→Prop} {s:a3},bM M A (EI env x v) Q E s→bM M A (p.1 v) Q E s
inductive p6 (env:eo)(ch:J aO)(as:J (au→dM g5))(is:J ah):Prop
 |mk {l:J ((au→dM g5)×ah)}(jL:l.map (·.1)=as)(lI:l.map (·.2)=is)(k:∀p∈l,L7 env ch p)
theorem p6.dN (h:L7 env ch (a,i)):p6 env ch as is→p6 env ch (a::as) (i::is)
 | .mk aT aN k=>.mk (l:=(a,i)::_) (bl (_::·) aT) (bl (_::·) aN) fun p m=>(cV.mp m).elim (fun e=>e▸h) (k p)
theorem aeZ:∀{es:J b7} {is:J ah},dF (oH ch) es=B is→((vp es env).length=es.length∧(vp es env).findIdx? (·.1)=ab)∧p6 env ch ((vp es env).map (·.2)) is:=by
 intro es
 induction es with
 |nil=>intro is h;exact⟨⟨rfl,rfl⟩,bo h▸.mk (l:=[]) rfl rfl fun I m=>dz m⟩
 |cons e r az=>
  intro is h
  obtain⟨i,l,aY,bu,rfl⟩:=q1 h
  obtain⟨x,p,rfl,hi⟩:=F2 aY
  have z:=az bu
  refine⟨⟨bl (·+1) z.1.1,?_⟩,.dN ⟨x,hi,fun h=>Jx h⟩ z.2⟩
  exact Eb.trans (bl (Ap (·+1)) z.1.2)
theorem ae0 (eh:∀a∈aS,a∈O):∀{l:J ((au→dM g5)×ah)} {vs:J au} {ds:J D} {s:a3} {loc:cD},(∀p∈l,L7 env (b4 sc) p)→cp g s.heap N O ds vs→ds.length=l.length→bz g A n O N s env sc loc hp→ue aS env (b4 sc) (l.map (·.2))→
  (∀aj tk,bz g A n O N {s with heap:=aj,toks:=tk} env sc (j6 (l.map (·.2)) ds loc) hp→b9 A aS N s N {s with heap:=aj,toks:=tk}→Q () {s with heap:=aj,toks:=tk})→bM (bB g.p g.w) A (RA (l.map (·.1)) vs) Q E s:=by
 intro l
 induction l with
 |nil=>exact fun {_ _ s _} I I I e I q=>cq (q s.heap s.toks e .iX)
 |cons p r az=>
  intro vs ds s loc hk aL aw e bC q
  refine(hk p (.head _)).elim fun x cj=>cj.elim fun hi b0=>?_
  cases ds with
  |nil=>cases aw
  |cons d ds=>
   induction aL with|@mk v vs av aL=>
   exact aX (m:=kV vs (p.1 v)) (pq (b0 (Ft e.F e.H hi av (bC p.2 (.head _) x hi) fun aj tk lB jq st=>az (s:={s with heap:=aj,toks:=tk}) (fun p m=>hk p (.tail _ m)) ((st.AZ e.C eh).vs aL) (qx aw) (e.qY st jq lB) (fun j m=>bC j (.tail _ m)) fun F3 ae1 yJ nT=>q F3 ae1 yJ (st.eJ nT))))
theorem Uq (eh:∀a∈aS,a∈O)(b0:p6 env (b4 sc) as is)(aL:cp g s.heap N O ds vs)(aw:ds.length=is.length)(e:bz g A n O N s env sc loc hp)(bC:ue aS env (b4 sc) is)(q:∀aj tk,bz g A n O N {s with heap:=aj,toks:=tk} env sc (j6 is ds loc) hp→b9 A aS N s N {s with heap:=aj,toks:=tk}→Q () {s with heap:=aj,toks:=tk}):bM (bB g.p g.w) A (RA as vs) Q E s:=by
 induction b0 with|mk aT aN k=>
 subst aT aN
 exact ae0 eh k aL (aw.trans (cH ..)) e bC q
theorem Ur {K:cD→Prop}(e:bz g A n O N s env sc loc hp)(eh:∀a∈aS,a∈O)(bZ:dF (oH (b4 sc)) es=B is)(av:aE g s.heap N O d v)(ay:bF d.me fun l=>l.length=is.length∧K (j6 is l loc))(bC:ue aS env (b4 sc) is)(q:∀aj tk hL,bz g A n O N {s with heap:=aj,toks:=tk} env sc hL hp→b9 A aS N s N {s with heap:=aj,toks:=tk}→K hL→Q () {s with heap:=aj,toks:=tk}):bM (bB g.p g.w) A (tF (.Tuple es j p) env v) Q E s:=by
 induction cQ.of ay with|@mk l dq h=>
 clear ay
 cases vW dq
 induction av with|mk of w=>
 induction w with|@mk vs m aV aL=>
 obtain⟨⟨aT,aN⟩,jL⟩:=aeZ (env:=env) bZ
 refine assign_Tuple_tuple e.C.hd ⟨_,aV,rfl,m,rfl⟩ (by refine aT▸(v3 bZ)▸h.1▸aL.bJ▸?_;rfl) aN fun aj hx=>?_
 have hk:∀b o,s.heap.get? b=B o→aj.get? b=B o:=fun b o e=>hx b o (yI e) e
 exact Uq eh jL (((.e7 hk:b9 A [] N s N {s with heap:=aj,toks:=s.toks}).dw e.C).vs aL) h.1 (e.f3 (.e7 hk:b9 A [] N s N {s with heap:=aj,toks:=s.toks}) (e.H.tO hk)) bC fun F3 tk yJ st=>q F3 tk _ yJ (((.e7 hk:b9 A [] N s N {s with heap:=aj,toks:=s.toks}).jh e.H eh).eJ st) h.2
theorem ae2 {K:cD→Prop}(e:bz g A n O N s env sc loc hp)(eh:∀a∈aS,a∈O)(bE:gD (b4 sc) target=B is)(av:aE g s.heap N O d v)(h:hI is d loc K)(bC:ue aS env (b4 sc) is)(q:∀aj tk hL,bz g A n O N {s with heap:=aj,toks:=tk} env sc hL hp→b9 A aS N s N {s with heap:=aj,toks:=tk}→K hL→Q () {s with heap:=aj,toks:=tk}):bM (bB g.p g.w) A (tF target env v) Q E s:=by
 rcases L6 bE with⟨x,p,i,rfl,hi,rfl⟩|⟨es,j,p,rfl,bu,bZ⟩
 ·exact Jx (Ft e.F e.H hi av (bC i (.head _) x hi) fun aj tk lB jq st=>q aj tk _ (e.qY st jq lB) st h)
 ·refine Ur e eh bZ av ?_ bC q
  cases is with
  |nil=>exact h
  |cons a is=>induction is with
   |nil=>exact cr (ao bu (eT (v3 bZ).symm)) (show ¬ (2:ah)≤1 by decide)
   |cons=>exact h
theorem b9.F4 (st:b9 A aS N s bw ar)(H:aR g s.heap N O hp)(b0:a∈O)(aA:a∉aS)(hf:a∉fH A)(bC:s.heap.get? a=B o):ar.heap.get? a=B o:=
 (st.e8.cw a o bC (fun m=>(H.lo a m).2 b0) aA (H.SH b0)).pH hf
theorem b9.qL (st:b9 A aS N s bw ar)(H:aR g s.heap N O hp)(aG:∀a∈aS,a∈J')(bq:∀a∈J',a∈O):b9 A J' N s bw ar:=
 ⟨st.e8.qL (.iX _ _) (.bh aG) (.iX _ _),fun a m o o' e cR h=>by
  by_cases q:a∈aS
  ·exact st.hS a q o o' e cR h
  ·exact(st.e8.tP H (bq a m) q e).elim fun I w=>by rw[w] at cR;exact bo cR▸h,st.mS,st.e0,st.hv⟩
structure sE (A:dc)(O:J aC)(env:eo)(aS J':J aC):Prop where
 dS:∀a∈aS,a∈O
 nE:∀a∈aS,a∉J'
 dG:∀a∈aS,a∉dG env
 fr:∀a∈aS,a∉fH A
 bh:∀a∈J',a∈O
theorem sE.hT (P:sE A O env aS J'):∀a∈aS++J',a∈O:=fun a m=>(fE.mp m).elim (P.dS a) (P.bh a)
theorem sE.BH (P:sE A O env (a::aS) J'):sE A O env aS J':=⟨fun b m=>P.dS b (.tail _ m),fun b m=>P.nE b (.tail _ m),fun b m=>P.dG b (.tail _ m),fun b m=>P.fr b (.tail _ m),P.bh⟩
theorem ae3 {St:J D→b8→J aC→J aC→Prop}{f:ax au→dM d0}{K:cD→Prop}(aD:q4 g A target it aS St)(P:sE A O env aS J')(e:bz g A n O N s env sc loc hp)(hf:∀v,f (B v)=(vm target it v>>=fun I=>tF target env v>>=fun I=>rest))(st:St (d::ds) s.heap N O)(bE:gD (b4 sc) target=B is)(h:hI is d loc K)(bC:ue J' env (b4 sc) is)(q:∀c4 q6,bz g A n O N c4 env sc q6 hp→St ds c4.heap N O→b9 A (aS++J') N s N c4→K q6→bK (bB g.p g.w) A rest Q E c4):
  bM (bB g.p g.w) A (tE it) (fun r ar=>bK (bB g.p g.w) A (f r) Q E ar) Us s:=by
 refine ou (aD.Bz (E:=fun I I=>bt) e.H P.dS st fun v cM oS go=>?_) (fun I I q=>q) fun I I f=>f.elim
 rw[hf]
 refine d1 (ou (go (fun I ar=>bK (bB g.p g.w) A (tF target env v>>=fun I=>rest) Q E ar) fun fR v5 h1 iy out=>?_) (fun I I q=>q) fun I I f=>f.elim)
 have lv:∀a∈aS,∃o,fR.get? a=B o:=fun a m=>(aD.FY iy a m).ey
 have s2:b9 A aS N s N {s with heap:=fR,toks:=v5}:=.mo out lv fun a m o o' aT I hS=>by
  induction aD.FY st a m with|mk aN yK=>exact cr yK (bo (aT.symm.trans aN)▸hS _)
 have F5:bz g A n O N {s with heap:=fR,toks:=v5} env sc loc hp:=e.qY s2 (e.H.mo P.dS out lv) (e.F.mo P.dS P.dG out)
 exact d1 (ae2 F5 P.bh bE h1 h bC fun vZ aqb q6 ae4 s3 hk=>q _ q6 ae4 (aD.dw iy (s3.AZ F5.C P.bh) fun a m o w=>s3.F4 F5.H (P.dS a m) (P.nE a m) (P.fr a m) w)
  ((s2.qL e.H (fun I=>mE _) P.hT).eJ (s3.qL F5.H (fun I=>ho _) P.hT)) hk)
end
noncomputable abbrev yL:=J (aO×xS)
noncomputable def he (cells:J (aO×aC)):yL→J (aO×aC)→J (aO×aC)
 | [],acc=>acc
 |p::r,acc=>he cells r (if p.2=.free then(p.1,(cells.lookup p.1).getD 0)::acc else acc)
theorem clos_c {cells:J (aO×aC)}{p:aO×xS} {r acc}:he cells (p::r) acc=he cells r (if p.2=.free then(p.1,(cells.lookup p.1).getD 0)::acc else acc):=rfl
section
variable {x:aO}{a:aC}{env:eo}{sc aJ:dU}
theorem L8:y∈he cells names acc↔y∈acc∨∃x,(x,pz)∈names∧y=(x,(cells.lookup x).getD 0):=by
 induction names generalizing acc with
 |nil=>exact⟨.inl,fun h=>h.elim id fun eb=>eb.elim fun I gG=>gG.elim fun m I=>dz m⟩
 |cons p r az=>
  obtain⟨n,k⟩:=p
  refine az.trans ?_
  by_cases z:k=.free
  ·subst z
   refine Y (b3 rfl) ?_
   constructor
   ·rintro(m|⟨x,m,e⟩)
    ·refine(cV.mp m).elim (fun e=>?_) fun m=>?_
     ·exact .inr ⟨n,.head _,e⟩
     ·exact .inl m
    ·exact .inr ⟨x,.tail _ m,e⟩
   ·rintro(m|⟨x,m,e⟩)
    ·exact .inl (.tail _ m)
    ·rcases cV.mp m with q|m
     ·cases q;exact .inl (e▸.head _)
     ·exact .inr ⟨x,m,e⟩
  ·exact Y (bL z) (or_congr_right ⟨fun eb=>eb.elim fun x gG=>gG.elim fun m e=>⟨x,.tail _ m,e⟩,fun eb=>eb.elim fun x gG=>gG.elim fun m e=>(cV.mp m).elim (fun q=>cr (bl i7 q).symm z) fun m=>⟨x,m,e⟩⟩)
theorem Ut {α d0:Type} [BEq α] [LawfulBEq α]{l:J (α×d0)}{x:α}{c:d0}(m:(x,c)∈l):∃dh,l.lookup x=B dh:=by
 induction l with
 |nil=>exact dz m
 |cons p r az=>
  refine Y qv ?_
  by_cases z:x=p.1
  ·exact⟨p.2,Y z (Y (ie ..) rfl)⟩
  ·exact Y (jY.mpr z) (az ((cV.mp m).resolve_left fun e=>z (bl lr e)))
theorem Uu (m:(x,pz)∈names)(e:cells.lookup x=B a):(he cells names []).lookup x=B a:=by
 refine(Ut (L8 (cells:=cells) (acc:=[]).mpr (.inr ⟨x,m,rfl⟩))).elim fun dh h=>?_
 rcases L8.mp (qz h)with z|⟨y, -,q⟩
 ·exact dz z
 ·cases bl lr q
  refine Y h (Y (show dh=_ from bl i7 q) (Y e ?_));rfl
theorem Uv (h:∀x,(x,pz)∈sc.names→∃c,env.cells.lookup x=B c):Ay sc env=bV (he env.cells sc.names []):=by
 have go:∀(l:yL) (acc:J (aO×aC)),(∀x,(x,pz)∈l→∃c,env.cells.lookup x=B c)→
   (ti (m:=dM) l acc fun x ij=>(if(x.2==pz)=af then do let a←ER env x.1;bV (DO ((x.1,a)::ij))else bV (DO ij)))=bV (he env.cells l acc):=by
  intro l
  induction l with
  |nil=>exact fun acc I=>rfl
  |cons x r az=>
   intro acc aw
   obtain⟨n,k⟩:=x
   have az:=fun acc=>az acc fun x m=>aw x (.tail _ m)
   rw[I4,clos_c]
   by_cases z:k=.free
   ·subst z
    refine(aw n (.head _)).elim fun c hc=>?_
    have e:ER env n=bV c:=by unfold ER;exact Y hc rfl
    rw[b3 rfl,b3 (ie _),e,hc]
    exact az _
   ·exact Y (bL z) (Y (bL fun q=>z (c9 q)) (az _))
 exact(bl (fun t=>t>>=fun ij=>bV ij) (go sc.names [] h)).trans rfl
noncomputable def yM (ch:J aO)(p:aO×xS):ax (aO×ax ah):=if p.2==.local&&p.1 !=(".0":aO)then B (p.1,ab)else if p.2==.cell||p.2==.free then B (p.1,ch.idxOf? p.1)else ab
theorem yN (ch:J aO):b4 sc=(sc.names.filterMap (yM ch)).map (·.1):=by
 refine Y Qm ?_
 refine bl (fun f=>sc.names.filterMap f) (x9 fun p=>?_)
 unfold yM
 dsimp only
 induction(p.2==NameKind.local&&p.1 !=(".0":aO))with
 |true=>rfl
 |false=>
  rw[DN,bL dO]
  cases(p.2==r0||p.2==pz)<;>rfl
theorem F6 (ch:J aO):ii sc ch=(sc.names.filterMap (yM ch)).map (·.2):=by
 refine Y Qm ?_
 refine bl (fun f=>sc.names.filterMap f) (x9 fun p=>?_)
 unfold yM
 dsimp only
 induction(p.2==NameKind.local&&p.1 !=(".0":aO))with
 |true=>rfl
 |false=>
  rw[bL dO,bL dO]
  cases(p.2==r0||p.2==pz)<;>rfl
theorem BI (h:yM ch p=B (x,o)):p.1=x∧((p.2=.local∧o=ab)∨((p.2=.cell∨p.2=.free)∧o=ch.idxOf? x)):=by
 unfold yM at h
 by_cases z:(p.2==.local&&p.1 !=(".0":aO))=af
 ·rw[b3 z] at h
  have e:=bo h
  exact⟨bl lr e,.inl ⟨c9 (ct.mp z).1,(bl i7 e).symm⟩⟩
 ·rw[bL z] at h
  by_cases z:(p.2==.cell||p.2==.free)=af
  ·rw[b3 z] at h
   have e:=bo h
   have aT:p.1=x:=bl lr e
   exact⟨aT,.inr ⟨(th.mp z).imp c9 c9,aT▸(bl i7 e).symm⟩⟩
  ·rw[bL z] at h;exact cE h
theorem Uw (h:(x,k)∈sc.names)(hk:k=.cell∨k=.free):x∈b4 sc:=rM.mpr ⟨_,h,by rcases hk with rfl|rfl<;>rfl⟩
theorem BJ {names:yL}(aA:(names.map (·.1)).Nodup)(h:(x,k)∈names):names.lookup x=B k:=by
 induction names with
 |nil=>exact dz h
 |cons y r az=>
  have aA:=mG.mp aA
  refine Y qv ?_
  refine(cV.mp h).elim (fun e=>?_) fun m=>?_
  ·exact cN e (Y (ie ..) rfl)
  ·exact Y (jY.mpr fun q=>aA.1 (h9.mpr ⟨_,m,q⟩)) (az aA.2 m)
abbrev ae5 (sc:dU):Prop:=∀x k,(x,k)∈sc.names→(x==t8)=ae∧(x==("__classdict__":aO))=ae∧k≠.cell
structure uf (sc:dU):Prop where
 bk:sc.kind=.function
 bY:(sc.names.map (·.1)).Nodup
 pO:ae5 sc
 Ux:gC sc kE=ae
theorem uf.of (h:oF sc=af):uf sc:=by
 refine(ct.mp h).elim fun h fg=>?_
 refine(ct.mp h).elim fun h cu=>?_
 refine(ct.mp h).elim fun aY bu=>?_
 refine⟨c9 aY,dg bu,fun x k m=>?_,l2.mp fg⟩
 refine(ct.mp (gy.mp cu _ m)).elim fun js oQ=>?_
 refine(ct.mp js).elim fun Bw Bx=>?_
 exact⟨l2.mp Bw,l2.mp Bx,fun e=>by subst e;cases oQ⟩
theorem F7 (h:(sc.names.map (·.1)).Nodup):(b4 sc).Nodup:=by
 have go:∀l:yL,(l.map (·.1)).Nodup→∀f:aO×xS→aZ,(l.filterMap fun p=>if f p then B p.1 else ab).Nodup:=fun l aA f=>by
  induction l with
  |nil=>exact .nil
  |cons y r az=>
   have aA:=mG.mp aA
   refine Y vd ?_
   induction f y with
   |false=>exact az aA.2
   |true=>
    refine mG.mpr ⟨fun m=>aA.1 ?_,az aA.2⟩
    refine(rM.mp m).elim fun p cj=>cj.elim fun m e=>?_
    induction z:f p with
    |false=>have e:=z▸e;exact nn e
    |true=>have e:=z▸e;exact h9.mpr ⟨p,m,bo e⟩
 exact go sc.names h _
theorem ae6 {P:aO→xS→aZ}:∀{names:yL},(names.map fun(n,k)=>if P n k=af then(n,r0)else(n,k)).lookup x=(names.lookup x).map fun k=>if P x k=af then r0 else k:=by
 intro names
 induction names with
 |nil=>rfl
 |cons p r az=>
  have e:(if P p.1 p.2=af then(p.1,r0)else(p.1,p.2))=(p.1,if P p.1 p.2=af then r0 else p.2):=by induction P p.1 p.2<;>rfl
  refine Y (bl (fun q=>QC x (q::_)) e) ?_
  by_cases z:x=p.1
  ·rw[qv,qv,z,ie];rfl
  ·rw[qv,qv,jY.mpr z];exact az
section
variable {g:ci}{O N:J aC}{h:b8}{loc:cD}
theorem yO:(lw aJ cl C env).kindOf x=(aJ.names.lookup x).map fun k=>if(k==.free&&env.scope.kind==.function&&env.kindOf x==B .cell)=af then r0 else k:=
 ae6 (P:=fun n k=>k==.free&&env.scope.kind==.function&&env.kindOf n==B .cell)
inductive Uy (g:ci)(h:b8)(N O:J aC)(env:eo)(ch:J aO)(loc:cD)(x:aO):Prop
 |mk {i:ah}{a:aC}{o:ax D}{v:ax au}(hi:ch.idxOf? x=B i)(bC:loc[i]?=B o)(hc:env.cells.lookup x=B a)(av:h.IsCell a v)(aL:nL (aE g h N O) o v):Uy g h N O env ch loc x
theorem ae7 {l:J aO}(m:x∈l):∃i,l.idxOf? x=B i:=by
 induction e:l.idxOf? x with
 |some i=>exact⟨i,rfl⟩
 |none=>exact cr m (List.idxOf?_eq_none_iff.mp e)
theorem BK (F:f7 g h N O env (b4 sc) loc)(G:pV sc env)(hc:k1 sc aJ=af)(m:(x,pz)∈aJ.names):Uy g h N O env (b4 sc) loc x:=by
 have q:=gy.mp hc _ m
 have hk:sc.names.lookup x=B .cell∨sc.names.lookup x=B .free:=(th.mp q).imp (fun q=>c9 (show(sc.names.lookup x==B .cell)=af from q)) c9
 refine(ae7 (hk.elim (fun q=>Uw (qz q) (.inl rfl)) fun q=>Uw (qz q) (.inr rfl))).elim fun i hi=>?_
 have hx:=k4 hi
 have bC:=hQ (F.bJ.symm▸(gc.mp hx).1)
 obtain⟨a,v,X,r⟩:=F.mY i x _ hx bC
 induction X with
 |aa k _=>exact(G.c x hk).elim (fun z=>nomatch k.symm.trans z) fun z=>nomatch k.symm.trans z
 |mi _ BL av=>exact .mk hi bC BL av r
theorem F8 (F:f7 g h N O env (b4 sc) loc)(G:pV sc env)(hc:k1 sc aJ=af)(m:(x,a)∈he env.cells aJ.names []):(x,pz)∈aJ.names∧env.cells.lookup x=B a:=by
 rcases L8.mp m with z|⟨y,m,q⟩
 ·exact dz z
 ·cases bl lr q
  induction BK F G hc m with|mk _ _ e _ _=>exact⟨m,by refine Y (show a=_ from bl i7 q) (Y e ?_);rfl⟩
theorem L9 (F:f7 g h N O env (b4 sc) loc)(G:pV sc env)(hc:k1 sc aJ=af):∀a∈dG (lw aJ (he env.cells aJ.names []) C env),a=C∨a∈dG env:=fun a m=>(cV.mp m).imp id fun m=>by
 obtain⟨⟨x,b⟩,iZ,rfl⟩:=h9.mp m
 exact vT (F8 F G hc iZ).2
theorem ae8 (F:f7 g h N O env (b4 sc) loc)(G:pV sc env)(aG:uf aJ)(hc:k1 sc aJ=af)(eu:C∈O)(k6:h.Ns C fun I=>ab)(gn:∀a∈dG env,a≠C):
  f7 g h N O (lw aJ (he env.cells aJ.names []) C env) (b4 aJ) (kD (ii aJ (b4 sc)) loc):=by
 have ca:∀{x a},(he env.cells aJ.names []).lookup x=B a→env.cells.lookup x=B a:=fun e=>(F8 F G hc (qz e)).2
 refine⟨⟨aG.bk,F.ok.iY,F.ok.tU,F7 aG.bY,fun x m=>?_,fun x y a aT aN=>F.ok.Lc x y a (ca aT) (ca aN),fun x a e=>gn a (vT (ca e))⟩,fun a m=>(L9 F G hc a m).elim (fun e=>e▸eu) (F.dS a),?_,fun j x o aT aN=>?_⟩
 ·rw[yN []] at m
  obtain⟨p,iZ,rfl⟩:=h9.mp m
  refine(rM.mp iZ).elim fun q cj=>cj.elim fun v4 e=>?_
  have:=aG.pO q.1 q.2 v4
  rw[(BI e).1] at this
  exact⟨this.1,this.2.1⟩
 ·rw[kD,cH,F6,yN (sc:=aJ) (b4 sc),cH,cH]
 ·rw[kD,gP,F6,gP] at aN
  obtain⟨p,dK,rfl⟩:=iu.mp (gP▸((yN (sc:=aJ) (b4 sc))▸aT))
  have aN:=dK▸aN
  cases bo aN
  obtain⟨⟨n,k⟩,m,fN⟩:=rM.mp (gZ dK)
  obtain⟨rfl,z⟩:=BI fN
  have cm:=BJ aG.bY m
  rcases z with⟨rfl,z⟩|⟨Ma,z⟩
  ·have hk:(lw aJ (he env.cells aJ.names []) C env).kindOf p.1=B .local:=by refine Y yO (Y cm ?_);rfl
   exact⟨C,ab,.aa hk k6,by show nL _ (p.2.bind _) _;exact Y z (.no)⟩
  ·rcases Ma with rfl|rfl
   ·exact cr rfl (aG.pO _ _ m).2.2
   ·induction BK F G hc m with|mk hi bC BL av aL=>
    have hk:vS (lw aJ (he env.cells aJ.names []) C env) p.1:=by
     unfold vS
     refine Y (yO ..) (Y cm (Y (QW ..) ?_))
     split
     ·exact .inl rfl
     ·exact .inr rfl
    exact⟨_,_,.mi hk (Uu m BL) av,by show nL _ (p.2.bind _) _;refine Y z (Y hi ?_);show nL _ (loc[_]?).join _;exact Y bC aL⟩
theorem ae9 (aG:uf aJ):pV aJ (lw aJ (he env.cells aJ.names []) C env):=by
 refine⟨fun q=>cr (q.symm.trans aG.Ux) xn,fun x hx=>?_,fun x hx=>?_⟩
 ·refine Y yO (Y (c9 hx) ?_);rfl
 ·refine hx.elim (fun z=>?_) fun z=>?_
  ·exact cr rfl (aG.pO _ _ (qz z)).2.2
  ·unfold vS
   refine Y (yO ..) (Y z (Y (QW ..) ?_))
   split
   ·exact .inl rfl
   ·exact .inr rfl
theorem afa (h:Fz aJ e=af)(aT:oH (b4 aJ) e=B i)(hx:(b4 aJ)[i]?=B x):aJ.names.lookup x=B .local:=by
 obtain⟨y,p,rfl,aN⟩:=F2 aT
 cases bo (hx.symm.trans aN)
 exact c9 h
theorem Uz (aw:jn aJ t=af)(bE:gD (b4 aJ) t=B is):∀i∈is,∀x,(b4 aJ)[i]?=B x→aJ.names.lookup x=B .local:=by
 rcases L6 bE with⟨x,p,i,rfl,hi,rfl⟩|⟨es,j,p,rfl, -,bZ⟩
 ·intro k m y e
  have e:=hi▸((df.mp m)▸e)
  exact bo e▸c9 aw
 ·have go:∀{es:J b7} {is:J ah},es.all (Fz aJ)=af→dF (oH (b4 aJ)) es=B is→∀i∈is,∀x,(b4 aJ)[i]?=B x→aJ.names.lookup x=B .local:=by
   intro es
   induction es with
   |nil=>intro is _ h i m;have h2:=bo h;subst h2;exact dz m
   |cons e r az=>
    intro is b0 h i m x hx
    obtain⟨k,l,aY,bu,rfl⟩:=q1 h
    have b0:=ct.mp b0
    refine(cV.mp m).elim (fun q=>?_) fun m=>?_
    ·exact afa b0.1 aY (q▸hx)
    ·exact az b0.2 bu i m x hx
  exact go aw bZ
theorem afb (F:f7 g h N O env (b4 sc) loc)(G:pV sc env)(hc:k1 sc aJ=af)(gn:∀a∈dG env,a≠C)(aw:jn aJ t=af)(bE:gD (b4 aJ) t=B is):ue [C] (lw aJ (he env.cells aJ.names []) C env) (b4 aJ) is:=fun i m x hx a b0=>
 (L9 F G hc a b0).imp (fun e=>df.mpr e) fun q=>⟨gn a q,by refine Y yO (Y (Uz aw bE i m x hx) ?_);rfl⟩
end
end
abbrev LoopAtZ_ownZ (env:eo)(sc:dU)(C:aC):Prop:=∀{t is},jn sc t=af→gD (b4 sc) t=B is→ue [C] env (b4 sc) is
structure yP (g:ci)(A:dc)(n:ah)(O N:J aC)(s:a3)(env:eo)(sc:dU)(loc:cD)(hp:J ap)(target:b7)(it:au)(aS:J aC)(St:J D→b8→J aC→J aC→Prop)(ds:J D)(C bR:aC):Prop where
 aD:q4 g A target it aS St
 P:sE A O env (bR::aS) [C]
 UA:bR∉aS
 E:bz g A n O N s env sc loc hp
 st:St ds s.heap N O
 bJ:ds.length≤1000000
 nE:LoopAtZ_ownZ env sc C
inductive Mb {α:Type}(g:ci)(A:dc)(n:ah)(O N:J aC)(s:a3)(env:eo)(sc:dU)(C bR:aC)(AR:α→b8→J aC→Prop)(K:α→cD→J ap→Prop)(cd:qD):Fin→a3→Prop
 |mk {bw:J aC}{ar:a3}{hL:cD}{bq:J ap}{acc:α}(st:b9 A [bR,C] N s bw ar)(e:bz g A n O bw ar env sc hL bq)(dd:AR acc ar.heap bw)(k:K acc hL bq):Mb g A n O N s env sc C bR AR K cd (.again cd) ar
inductive UB (g:ci)(A:dc)(n:ah)(O N:J aC)(s:a3)(env:eo)(sc:dU)(W:J aC)(St:J D→b8→J aC→J aC→Prop)(Inv:J D→a3→J aC→cD→J ap→Prop)(m:ah)(ar:a3):Prop
 |mk {bw:J aC}{hL:cD}{bq:J ap}{ds:J D}(l:ds.length=m)(st:b9 A W N s bw ar)(e:bz g A n O bw ar env sc hL bq)(it:St ds ar.heap bw O)(k:Inv ds ar bw hL bq):UB g A n O N s env sc W St Inv m ar
inductive Mc (g:ci)(A:dc)(n:ah)(O N:J aC)(s:a3)(env:eo)(sc:dU)(Jb:J aC)(cd:qD)(Inv:a3→J aC→cD→J ap→Prop)(Dn:tG→a3→J aC→Prop):Fin→a3→Prop
 |F9 {bw:J aC}{ar:a3}{hL:cD}{bq:J ap}(st:b9 A Jb N s bw ar)(e:bz g A n O bw ar env sc hL bq)(k:Inv ar bw hL bq):Mc g A n O N s env sc Jb cd Inv Dn (.again cd) ar
 |jj {bw:J aC}{ar:a3}{f:tG}(st:b9 A Jb N s bw ar)(k:Dn f ar bw):Mc g A n O N s env sc Jb cd Inv Dn (.done f) ar
abbrev afc (M:vv)(A:dc)(R:l5→a3→Prop):Fin→a3→Prop:=fun fin ar=>match fin with
 | .done f=>R (.ok f) ar
 | .again dh=>dh.quiet=af∧g6 M A dh R ar
inductive UC {α:Type}(AR:ah→α→b8→J aC→Prop)(L:J D→α→cD→J ap→Prop)(ds:J D)(s:a3)(N:J aC)(loc:cD)(hp:J ap):Prop
 |mk {acc:α}(dd:AR ds.length acc s.heap N)(k:L ds acc loc hp):UC AR L ds s N loc hp
abbrev UD (g:ci)(A:dc)(n:ah)(O N:J aC)(s:a3)(env:eo)(sc:dU)(C bR:aC)(aS:J aC)(AR:α→b8→J aC→Prop)(K:α→cD→J ap→Prop)(R:l5→a3→Prop):Prop:=
 ∀aB bj bN mq acc aj tk,b9 A (aS++[bR,C]) N s bj aB→bz g A n O bj aB env sc mq bN→AR acc aB.heap bj→K acc mq bN→k7 aS aB.heap aj→R (.ok .next) {aB with heap:=aj,toks:=tk}
abbrev Ga (O:J aC)(bR:aC)(AR:J aC→ah→α→b8→J aC→Prop):Prop:=∀{cF m acc h aj N bw},AR O m acc h N→cz N O bw cF h aj→(∀o,h.get? bR=B o→aj.get? bR=B o)→AR cF m acc aj bw
section
variable {g:ci}{O N bw aS:J aC}{n k:ah}{C bR:aC}{h aj:b8}
theorem hI.pJ {K K':cD→Prop}(h:hI is d loc K)(k:∀l,K l→K' l):hI is d loc K':=by
 unfold hI at *
 induction q:dW is with
 |some i=>have h:=q▸h;exact k _ h
 |none=>rw[q] at h;induction cQ.of h with|mk e z=>exact(bl (fun o=>bF o fun l=>l.length=is.length∧K' (j6 is l loc)) e).mpr ⟨z.1,k _ z.2⟩
theorem UE {cv:dM (ax au)}{St:J D→b8→J aC→J aC→Prop}{Inv:J D→a3→J aC→cD→J ap→Prop}{R:l5→a3→Prop}{ds:J D}{Ja Jb:J aC}(aD:q4 g A target it aS St)(P:sE A O env aS Jb)(vE:∀a∈Ja,a∈Jb)(E:bz g A n O N s env sc loc hp)(st:St ds s.heap N O)(cL:vF cd=af)(bH:cd.quiet=af)(v6:A.under cd=A)(v7:(bB g.p g.w).den cd=(ku pp>>=fun I=>cv>>=f).onRaise hx)(UG:∀{Q:ax au→a3→Prop} {s:a3},bK (bB g.p g.w) A (tE it) Q (fun I I=>bt) s→bK (bB g.p g.w) A cv Q (fun I I=>bt) s)(hf:∀v,f (B v)=(vm target it v>>=fun I=>tF target env v>>=fun I=>rest))(bE:gD (b4 sc) target=B is)(bC:ue Ja env (b4 sc) is)(inv:Inv ds s N loc hp)(afd:∀aB bj bN mq aj tk,b9 A (aS++Jb) N s bj aB→bz g A n O bj aB env sc mq bN→Inv [] aB bj mq bN→k7 aS aB.heap aj→bK (bB g.p g.w) A (f ab) (afc (bB g.p g.w) A R) (fun I I=>bt) {aB with heap:=aj,toks:=tk})(afe:∀aB bj f,b9 A (aS++Jb) N s bj aB→Dn f aB bj→R (.ok f) aB)(ug:∀{d ds aB bj bN mq},bz g A n O bj aB env sc mq bN→Inv (d::ds) aB bj mq bN→hI is d mq fun q6=>∀c4,b9 A (aS++Ja) bj aB bj c4→bz g A n O bj c4 env sc q6 bN→bK (bB g.p g.w) A rest (Mc g A n O bj c4 env sc Jb cd (Inv ds) Dn) (fun I I=>bt) c4):g6 (bB g.p g.w) A cd R s:=by
 refine SA cL bH (UB g A n O N s env sc (aS++Jb) St Inv) (fun m ar x=>?_) ds.length (.mk rfl .iX E st inv)
 induction x with|@mk bw hL bq BM l ec mP nT m4=>
 subst l
 refine Y v6 (Y v7 ?_)
 refine r7 (ew (E:=fun I I=>bt) (nA ?_) (fun I I q=>q) fun I I f=>f.elim)
 induction BM with
 |nil=>exact cc (UG (bK.of (aD.jj nT fun cM oS out=>ew (afd ar bw bq hL cM oS ec mP m4 out) (fun fin s q=>by induction fin;exact q;exact .inr q) fun I I f=>f)))
 |cons d BM=>
  refine cc (UG (bK.of (ae3 aD (⟨P.dS,fun a m q=>P.nE a m (vE a q),P.dG,P.fr,fun a m=>P.bh a (vE a m)⟩:sE A O env aS Ja) mP hf nT bE (ug mP m4) bC fun c4 q6 fy gJ uh hk=>?_)))
  have UH:=ec.eJ (uh.qL mP.H (fun a m=>fE.mpr ((fE.mp m).imp id (vE a)):∀a∈aS++Ja,a∈aS++Jb) P.hT)
  refine ew (hk c4 uh fy) (fun fin pX x=>?_) fun I I f=>f
  induction x with
  |F9 nV qZ BN=>exact .inl ⟨rfl,BM.length,rP _,.mk rfl (UH.eJ (nV.qL fy.H (fun I=>ho _) P.hT)) qZ (aD.dw gJ (nV.AZ fy.C P.bh) fun a m o e=>nV.F4 fy.H (P.dS a m) (P.nE a m) (P.fr a m) e) BN⟩
  |jj nV BN=>exact afe _ _ _ (UH.eJ (nV.qL fy.H (fun I=>ho _) P.hT)) BN
theorem Gb {St:J D→b8→J aC→J aC→Prop}{bstep:α→cD→J ap→(α→cD→J ap→Prop)→Prop}{ds:J D}{K:α→cD→J ap→Prop}{acc:α}(L:yP g A n O N s env sc loc hp target it aS St ds C bR)(cL:vF cd=af)(bH:cd.quiet=af)(v6:A.under cd=A)(v7:(bB g.p g.w).den cd=(ku pp>>=fun I=>tE it>>=f).onRaise hx)(aff:f ab=bV (.done .next))(hf:∀v,f (B v)=(vm target it v>>=fun I=>tF target env v>>=fun I=>rest))(aw:jn sc target=af)(bE:gD (b4 sc) target=B is)(Md:Ga O bR AR)(ug:∀{m s N hp loc acc K},bz g A n O N s env sc loc hp→AR O (m+1) acc s.heap N→bstep acc loc hp K→bK (bB g.p g.w) A rest (Mb g A n O N s env sc C bR (AR O m) K cd) (fun I I=>bt) s)(dd:AR O ds.length acc s.heap N)(hk:mh (fun d acc loc hp K=>hI is d loc fun loc=>bstep acc loc hp K) ds acc loc hp K)(l8:UD g A n O N s env sc C bR aS (AR O 0) K R):g6 (bB g.p g.w) A cd R s:=by
 have ke:=L.P.dS bR (.head _)
 refine UE (Ja:=[C]) (Jb:=[bR,C]) (pp:=pp) (hx:=hx) (Dn:=fun I I I=>bt) (Inv:=UC (AR O) fun ds acc loc hp=>mh (fun d acc loc hp K=>hI is d loc fun loc=>bstep acc loc hp K) ds acc loc hp K) L.aD
  ⟨L.P.BH.dS,fun a m q=>(cV.mp q).elim (fun e=>L.UA (e▸m)) (L.P.BH.nE a m),L.P.BH.dG,L.P.BH.fr,fun a m=>(cV.mp m).elim (fun e=>e▸ke) (L.P.bh a)⟩ (fun I=>.tail _) L.E L.st cL bH v6 v7 (fun h=>h) hf bE (L.nE aw bE) (.mk dd hk)
  (fun aB bj bN mq aj tk ec bX m4 out=>by induction m4 with|mk dd k=>exact Y aff (cs (l8 aB bj bN mq _ aj tk ec bX dd k out))) (fun I I I I f=>f.elim) fun {d ds aB bj bN mq} bX m4=>?_
 induction m4 with|@mk acc dd k=>
 refine hI.pJ (K:=fun loc=>bstep acc loc bN fun acc loc hp=>mh _ ds acc loc hp K) k fun q6 hk c4 uh fy=>?_
 refine ew (ug fy (Md dd (uh.AZ bX.C L.P.BH.hT) fun o e=>uh.F4 bX.H ke (fun m=>(fE.mp m).elim L.UA (L.P.nE bR (.head _))) (L.P.fr bR (.head _)) e) hk) (fun fin pX x=>?_) fun I I f=>f
 induction x with|mk nV qZ Me BN=>exact .F9 nV qZ (.mk Me BN)
theorem UI (aV:(JV e)[depth]?=B gen)(b0:gen.is_async=0)(v7:(bB g.p g.w).den (.compStart e depth it acc env)=(JW e depth it acc env).onRaise hx)(v6:A.under (.compStart e depth it acc env)=A)(bH:(RQ e depth it acc env).quiet=af)(h0:g6 (bB g.p g.w) A (.compLoop e depth it acc env) R s)(r8:∀(Q:au→a3→Prop) (E:au→a3→Prop),Q it s→bM (bB g.p g.w) A (tD it) Q E s):
  g6 (bB g.p g.w) A (.compStart e depth it acc env) R s:=by
 refine qI rfl ?_
 refine Y v6 (Y v7 ?_)
 refine r7 (ew (E:=fun I I=>bt) ?_ (fun I I q=>q) fun I I f=>f.elim)
 unfold JW
 refine Y aV ?_
 show bK _ _ (if(gen.is_async !=0)=af then _ else _) _ _ _
 refine Y b0 (Y (bL (show ¬ ((0:aq) !=0)=af by decide)) ?_)
 refine d1 (Rk ?_)
 split
 ·exact cc (cs (cs ⟨bH,h0⟩))
 ·exact cc (KO (cc (Fe (d1 (r8 _ _ (cs ⟨bH,h0⟩))))))
inductive jt (g:ci)(bR:aC)(k b:ah)(O:J aC)(m:ah)(acc:J D)(h:b8)(N:J aC):Prop
 |mk {vs:J au}{n:ah}(e:h.get? bR=B (hU "list" vs n))(r:cp g h N O acc vs)(l:acc.length+m *k+b≤1000000):jt g bR k b O m acc h N
theorem jt.dw:Ga O bR (jt g bR k b)
 |_,_,_,_,_,_,_,.mk e r l,M,q=>.mk (q _ e) (M.vs r) l
theorem bz.fq (E:bz g A n O N s env sc loc hp)(ke:bR∈O)(BO:bR∉dG env)(aG:hq bR s.heap aj)(bC:aj.get? bR=B o)(hS:jF o):b9 A [bR] N s N {s with heap:=aj,toks:=tk}∧bz g A n O N {s with heap:=aj,toks:=tk} env sc loc hp∧cz N O N O s.heap aj:=by
 have out:k7 [bR] s.heap aj:=fun b o nb e=>(aG.2 b fun q=>nb (df.mpr q)).trans e
 have dS:∀a∈[bR],a∈O:=fun a m=>df.mp m▸ke
 have lv:∀a∈[bR],∃o,aj.get? a=B o:=fun a m=>df.mp m▸⟨o,bC⟩
 have st:b9 A [bR] N s N {s with heap:=aj,toks:=tk}:=.mo out lv fun a m hV hW I e I=>by
  exact bo (bC▸((df.mp m)▸e))▸hS
 exact⟨st,E.qY st (E.H.mo dS out lv) (E.F.mo dS (fun a m=>df.mp m▸BO) out),.mo dS out⟩
theorem afg (E:bz g A n O N s env sc loc hp)(ke:bR∈O)(BO:bR∉dG env)(x:jt g bR k b O m acc s.heap N)(bZ:1+ff *k≤m *k)(av:aE g s.heap N O d v)(q:∀aj,b9 A [bR] N s N {s with heap:=aj}→bz g A n O N {s with heap:=aj} env sc loc hp→jt g bR k b O ff (acc++[d]) aj N→Q .none {s with heap:=aj}):bM (bB g.p g.w) A (cY (.builtin "list.append") [.ref bR,v]) Q Ee s:=by
 induction x with|@mk vs nn e r l=>
 refine Q7 ⟨nn,e⟩ (fun aj aw aG=>?_) (by refine vo▸dD▸r.bJ▸?_;omega)
 refine aw.elim fun afh aY=>?_
 have t:=E.fq (tk:=s.toks) ke BO aG aY fun I q=>qF q
 exact q aj t.1 t.2.1 (.mk (vs:=vs++[v]) (n:=afh) (Y aY (Y (Ef ..) rfl)) ((t.2.2.vs r).app (.mk (t.2.2.v av) .mk)) (by refine Y cG (Y Qe ?_);omega))
end
def UJ (M:vv)(A:dc)(E:au→a3→Prop)(kf:ax (au→dM g5))(Q:au→a3→Prop)(acc:au)(C:aC)(r:l5)(ar:a3):Prop:=
 match r with
 | .error _=>bt
 | .ok _=>match kf with
  |none=>∃m,ar.heap.Ns C m∧∀aj ff,aj.Ns C ff→hq C ar.heap aj→Q acc {ar with heap:=aj}
  |some u=>bK M A (u acc) (fun I iv=>∃m,iv.heap.Ns C m∧∀aj ff,aj.Ns C ff→hq C iv.heap aj→Q .none {iv with heap:=aj}) E ar
theorem afi [Decidable c](h:bK M A (k ()) Q E s):bK M A (if c then(ku pos>>=k)else k ()) Q E s:=by
 split
 ·exact cc (Fe h)
 ·exact h
theorem afj (cL:JV e=tN::Gc)(aG:∀x,Ex tN.iter env x=bV x)(afk:Ay scope env=bV cl)(UK:scope.kind=.function)(afl:∀x∈scope.names,x.2=.local→scope.names.lookup x.1=B .local)(h:bK M A first (fun x aB=>bM M A (tD x) (fun it c6=>bM M A newAcc (fun acc c4=>bM M A (JI scope env.globals cl [] env.qual ab .none (B env)) (fun cenv pX=>
    g6 M A (.compStart e 0 it acc {cenv with scope:=EO scope env}) (UJ M A E kf Q acc cenv.locals) pX) E c4) E c6) E aB) E s):bK M A (tA e scope env pos newAcc ae first kf) Q E s:=by
 unfold tA
 refine Y afk (Y cL ?_)
 refine cc (ew h (fun x aB cM=>cc (Fe (cc (KP (aG x) (cc (fi (ew (.of cM) (fun it c6 fR=>
  afi (cc (ew (.of fR) (fun acc c4 vZ=>cc (cs (cc (ew (.of vZ) (fun cenv pX lM=>?_) fun I I aj=>aj)))) fun I I aj=>aj))) fun I I aj=>aj))))))) fun I I aj=>aj)
 dsimp only
 have av:∀x∈(scope.names.filter fun x=>(x.2==.local||x.2==.cell)&&x.1 !=(".0":aO)).reverse,x.2=.local→xZ {cenv with scope:=EO scope env} x.1=B .local:=fun x hx aw=>lookup_relabel_local (afl x (tq.mp (I1.mp hx)).1 aw)
 refine fi (cc (Sx (fi (KQ (Sz lM fun r ar aL=>?_) fun x=>nomatch x))))
 induction r with
 |ok f=>
  induction kf with
  |none=>
   obtain⟨m,aA,aL⟩:=aL
   exact cc (fi (.of (Rl (cenv:={cenv with scope:=EO scope env}) UK _ ar m av aA fun aj ff mZ gr=>cs (aL aj ff mZ gr))))
  |some u=>
   refine cc (KO (cc (fi (ew aL (fun I iv ix=>?_) fun I I aj=>aj))))
   exact ix.elim fun m cj=>cj.elim fun aA ix=>cc (.of (Rl (cenv:={cenv with scope:=EO scope env}) UK _ iv m (fun x hx aw=>av x ((fE.mp hx).elim List.mem_of_mem_drop DZ) aw) aA fun aj ff mZ gr=>cs (ix aj ff mZ gr)))
 |error x=>exact(aL:bt).elim
def ui (g:ci)(A:dc)(O N:J aC)(s:a3)(K:a0)(kf:ax (au→dM g5))(Q Ee:au→a3→Prop):Prop:=
 ∀ar v C m,s.heap.get? C=ab→fe g A [] (C::O) N s (fun h N=>aE g h N (C::O)) K v ar→ar.heap.Ns C m→UJ (bB g.p g.w) A Ee kf Q v C (.ok .next) ar
section
variable {K:a0}{h aj:b8}
theorem UL (x:h.Ns a m)(k:∀o,h.get? a=B o→∃o',aj.get? a=B o'∧o'.data=o.data):aj.Ns a m:=
 x.elim fun o z=>z.elim fun es z=>z.elim fun ep z=>(k o z.1).elim fun o' w=>⟨o',es,ep,w.1,w.2.trans z.2.1,z.2.2⟩
theorem v8 (x:h.Ns a m):∃o,h.get? a=B o:=x.imp fun I z=>z.elim fun I z=>z.elim fun I z=>z.1
theorem UM:ui g A O N s K ab (fe g A [] O N s (fun h N=>aE g h N O) K) E:=fun ar v C m eu q aA=>⟨m,aA,fun aj ff mZ gr=>by
 induction q with|mk st H h1 k=>exact .mk (st.LM eu gr (v8 mZ)) (H.sp gr (v8 mZ)) ((cz.sp gr).v h1) k⟩
theorem bz.Mf (E:bz g A n O N s env sc loc hp)(z:s.heap.get? a=ab):a∉fH A∧a∉dG env∧a∉O:=⟨E.C.hS E.H z,fun m=>E.H.dz z (E.F.dS a m),E.H.dz z⟩
theorem bz.Gd (E:bz g A n O N s env sc loc hp)(st:b9 A [] N s bw ar)(jq:aR g ar.heap bw cF bq)(aG:∀a∈O,a∈cF)(tN:hu s.heap O cF):bz g A n cF bw ar env sc loc bq:=
 have BP:=E.C.f3 E.H st
 ⟨⟨BP.hd,BP.qM,BP.un,BP.fr,fun L m=>aG L (BP.dS L m)⟩,jq,E.F.dw (cz.of st.e8 (fun I m=>m) (fun I m=>dz m) E.C.dS st.e0 tN fun I I=>st.fv) (fun a I m=>aG a m) fun a m o e=>(st.e8.tP E.H (E.F.dS a m) (fun m=>dz m) e).elim fun I w=>⟨_,w,rfl⟩,E.G⟩
theorem b9.yQ (x:b9 A aS N s bj aB)(y:b9 A vH bj aB fk c6)(afm:hu s.heap aS vH)(aG:∀a∈aS,a∈vH)(eh:∀a∈J',s.heap.get? a=ab)(out:k7 J' c6.heap aj):b9 A aS N s fk {c6 with heap:=aj,toks:=tk}:=by
 have q7:∀{b o},s.heap.get? b=B o→b∉J':=fun e m=>fb (eh _ m) e
 have e:=x.e8.eJ y.e8 x.e0 afm (.iX _ _)
 exact⟨⟨fun b o q=>(e.ey b o q).imp fun o'=>out b o' (q7 q),fun b o q mr jM UN=>(e.cw b o q mr jM UN).imp fun I z=>⟨out b _ (q7 q) z.1,z.2⟩⟩,fun a m o o' aT aN f=>(x.e8.ey a o aT).elim fun hV Mg=>(y.e8.ey a hV Mg).elim fun hW UO=>
  bo ((out a hW (q7 aT) UO).symm.trans aN)▸y.hS a (aG a m) hV hW Mg UO (x.hS a m o hV aT Mg f),x.mS.trans y.mS,x.e0.eJ x.e8.ey y.e0,y.hv.1.trans x.hv.1,y.hv.2.1.trans x.hv.2.1,y.hv.2.2.trans x.hv.2.2⟩
theorem afn (aw:jn aJ t=af)(bE:gD (b4 aJ) t=B is)(F:f7 g h N O (lw aJ cl C env) (b4 aJ) loc):∃m,h.Ns C m:=by
 have go:∀{i x},i∈is→(b4 aJ)[i]?=B x→∃m,h.Ns C m:=fun {i x} m hx=>by
  have hk:(lw aJ cl C env).kindOf x=B .local:=by refine Y yO (Y (Uz aw bE i m x hx) ?_);rfl
  obtain⟨a,v,X, -⟩:=F.mY i x _ hx (hQ (F.bJ.symm▸(gc.mp hx).1))
  induction X with
  |aa _ aA=>exact⟨_,aA⟩
  |mi k _ _=>exact k.elim (fun z=>nomatch hk.symm.trans z) fun z=>nomatch hk.symm.trans z
 rcases L6 bE with⟨x,p,i, -,hi,rfl⟩|⟨es,j,p, -,bu,bZ⟩
 ·exact go (.head _) hi
 ·induction es with
  |nil=>exact cr bu (by decide)
  |cons e r=>
   obtain⟨i,l,aY, -,rfl⟩:=q1 bZ
   obtain⟨x,p, -,hi⟩:=F2 aY
   exact go (.head _) hi
theorem Mh (W:ft g c)(aD:db g c n){AR:aC→J aC→ah→α→b8→J aC→Prop}{Kfin:α→J ap→Prop}{Q Ee:au→a3→Prop}{hx:eo→au→dM g5}(cL:JV e=⟨t,it,ifs,0⟩::Gc)(v7:∀iz acc cenv,(bB g.p g.w).den (.compStart e 0 iz acc cenv)=(JW e 0 iz acc cenv).onRaise (hx cenv))(v6:∀iz acc cenv,A.under (.compStart e 0 iz acc cenv)=A)(Ge:∀iz acc cenv,(RQ e 0 iz acc cenv).quiet=af)(uj:∀(s:a3) (Q:au→a3→Prop) (E:au→a3→Prop),Q (.ref s.heap.objs.size) {s with heap:=s.heap.push oD}→bM (bB g.p g.w) A newAcc Q E s)(afo:oD.isFreed=ae)(E:bz g A c.lv O N s env sc loc hp)(im:(oF aJ&&k1 sc aJ)=af){is:J ah}(aw:jn aJ t=af)(bE:gD (b4 aJ) t=B is)(hit:mX c (n+1) (j8 bA k sc t it) X loc hp Kit)(Md:∀bR O,Ga O bR (AR bR))(loop:∀{c0 aS St ds C bR q8 bj aB bN R},yP g A c.lv q8 bj aB (lw aJ (he env.cells aJ.names []) C env) aJ (kD (ii aJ (b4 sc)) loc) bN t c0 aS St ds C bR→aB.heap.get? bR=B oD→Kit ds bN→
   UD g A c.lv q8 bj aB (lw aJ (he env.cells aJ.names []) C env) aJ C bR aS (AR bR q8 0) (fun acc I hp=>Kfin acc hp) R→g6 (bB g.p g.w) A (.compLoop e 0 c0 (.ref bR) (lw aJ (he env.cells aJ.names []) C env)) R aB) (conv:∀{ar bw bq acc C bR},s.heap.get? bR=ab→bR∉C::O→b9 A [] N s bw ar→aR g ar.heap bw (bR::C::O) bq→AR bR (bR::C::O) 0 acc ar.heap bw→Kfin acc bq→fe g A [] (C::O) N s (fun h N=>aE g h N (C::O)) K (.ref bR) ar) (gA:∀x ar,gR g A [] O N s X x ar→Ee x ar) (nW:ui g A O N s K kf Q Ee):bK (bB g.p g.w) A (tA e aJ env pos newAcc ae (eval it env) kf) Q Ee s:=by
 refine(ct.mp im).elim fun aG hc=>?_
 have aG:=uf.of aG
 have afp:Ay aJ env=bV (he env.cells aJ.names []):=Uv fun x m=>by induction BK E.F E.G hc m with|mk _ _ e _ _=>exact⟨_,e⟩
 refine afj cL (Up hit) afp aG.bk (fun x m hx=>BJ aG.bY (hx▸m)) ?_
 refine ew (Uo W aD E hit) (fun x aB hx=>hx _ _ fun c0 aS c6 fk il St ds Mi iy kc Mj v9 hk UP=>?_) gA
 refine uj c6 _ _ (Rb (fun x m=>(aG.pO x.1 x.2 m).2.2) (fun y m=>dz m) (fun cM yR Mk=>?_) aG.bk)
 dsimp only at yR Mk⊢
 generalize UQ:c6.heap.push oD=mu at yR Mk⊢
 have q9:∀b o,c6.heap.get? b=B o→mu.get? b=B o:=UQ▸fV
 have Ml:c6.heap.get? c6.heap.objs.size=ab:=hZ _
 have Mm:mu.get? c6.heap.objs.size=B oD:=UQ▸ic _ afo
 have Mn:∀b o,mu.get? b=B o→cM.get? b=B o:=fun b o e=>Mk.extBut b o (fun q=>fb (hZ _:mu.get? mu.objs.size=ab) (q▸e)) (fV b o e)
 have nX:∀b o,c6.heap.get? b=B o→cM.get? b=B o:=fun b o e=>Mn b o (q9 b o e)
 have Mo:c6.heap.objs.size≠mu.objs.size:=fun q=>fb (hZ _:mu.get? mu.objs.size=ab) (q▸Mm)
 have Mp:c6.heap.get? mu.objs.size=ab:=pI (fun b o e=>⟨o,q9 b o e⟩) (hZ _:mu.get? mu.objs.size=ab)
 have fresh:∀{a},c6.heap.get? a=ab→s.heap.get? a=ab:=fun z=>pI iy.e8.ey z
 have yR:cM.Ns mu.objs.size fun I=>ab:=yR
 generalize aqc:mu.objs.size=C at *
 generalize aqd:c6.heap.objs.size=bR at *
 have Mq:∀a∈[C,bR],c6.heap.get? a=ab∧∃o,cM.get? a=B o:=fun a m=>by
  refine(cV.mp m).elim (fun e=>?_) fun m=>?_
  ·exact e▸⟨Mp,v8 yR⟩
  ·exact df.mp m▸⟨Ml,_,Mn _ _ Mm⟩
 have Mr:∀a∈[C,bR]++aS,s.heap.get? a=ab:=fun a m=>(fE.mp m).elim (fun m=>fresh (Mq a m).1) (v9 a)
 have afq:hu s.heap O ([C,bR]++(aS++O)):=fun p m=>by
  rw[←dE] at m
  exact(fE.mp m).elim (fun m=>.inr (Mr p m)) .inl
 have sF:b9 A [] N s fk {c6 with heap:=cM,toks:=c6.toks+([]:J (aO×au)).length}:=iy.eJ (.e7 nX)
 have bX:=E.Gd sF (kc.nU nX Mq) (fun a m=>ho _ (ho _ m)) afq
 have lN:=fun {a:aC} (m:a∈[C,bR]++aS)=>E.Mf (Mr a m)
 have UR:∀a∈dG env,a≠C:=fun a m e=>(lN (mE _ (.head _))).2.1 (e▸m)
 have BQ:∀a∈aS,∃o,c6.heap.get? a=B o:=fun a m=>(kc.gi a (mE _ m)).2
 have Gf:∀a∈aS,a≠C:=fun a m e=>(BQ a m).elim fun o q=>fb Mp (e▸q)
 have Ms:bR∉aS:=fun m=>(BQ _ m).elim fun o q=>fb Ml q
 have Mt:∀a∈bR::aS,a∈[C,bR]++aS:=fun a m=>.tail _ m
 have L:yP g A c.lv ([C,bR]++(aS++O)) fk {c6 with heap:=cM,toks:=c6.toks+([]:J (aO×au)).length} (lw aJ (he env.cells aJ.names []) C env) aJ (kD (ii aJ (b4 sc)) loc) il t c0 aS St ds C bR:=
  ⟨Mi,⟨fun a m=>by refine cN (dE ..) ?_;exact mE _ (Mt a m),fun a m q=>(cV.mp m).elim (fun e=>Mo (e▸df.mp q)) fun m=>Gf a m (df.mp q),fun a m q=>(L9 E.F E.G hc a q).elim (fun e=>(cV.mp m).elim (fun z=>Mo (z▸e)) fun m=>Gf a m e) (lN (Mt a m)).2.1,fun a m=>(lN (Mt a m)).1,fun a m=>df.mp m▸.head _⟩,
   Ms,⟨bX.C,bX.H,ae8 bX.F E.G aG hc (.head _) yR UR,ae9 aG⟩,Mi.dw Mj (.nU nX fun a m=>(Mq a m).1:cz fk (aS++O) fk ([C,bR]++(aS++O)) c6.heap cM) fun a I o=>nX a o,UP,fun aw bE=>afb E.F E.G hc UR aw bE⟩
 refine UI (by refine Y cL ?_;rfl) rfl (v7 _ _ _) (v6 _ _ _) (Ge _ _ _) (loop L (Mn _ _ Mm) hk ?_) fun Fd mP q=>Mi.oU L.st q
 intro c4 hb k5 q6 acc aj tk uh fy uk kk out
 have sub:∀a∈bR::C::O,a∈[C,bR]++(aS++O):=fun a m=>by
  refine(cV.mp m).elim (fun e=>?_) fun m=>?_
  ·exact Y e (.tail _ (.head _))
  ·exact(cV.mp m).elim (fun e=>e▸.head _) fun m=>ho _ (ho _ m)
 have US:∀a∈aS,a∈[C,bR]++(aS++O):=fun a m=>ho _ (mE _ m)
 have q7:∀a∈bR::C::O,a∉aS:=fun a m q=>by
  refine(cV.mp m).elim (fun e=>?_) fun m=>?_
  ·exact Ms (e▸q)
  ·exact(cV.mp m).elim (fun e=>Gf a q e) fun m=>(lN (ho _ q)).2.2 m
 exact(afn aw bE fy.F).elim fun m bZ=>nW _ _ C m (fresh Mp) (conv (fresh Ml) (fun m=>(cV.mp m).elim Mo fun m=>(lN (.tail _ (.head _))).2.2 m:bR∉C::O) (sF.yQ uh (fun a m=>.inr (Mr a ((fE.mp m).elim (ho _) fun m=>(cV.mp m).elim (fun e=>e▸.tail _ (.head _)) fun m=>df.mp m▸.head _))) (fun I m=>dz m) v9 out:b9 A [] N s hb {c4 with heap:=aj,toks:=tk}) (fy.H.oR sub US out fun p m=>(fy.H.gi p (sub p m)).2.imp fun o=>out p o (q7 p m):aR g aj hb (bR::C::O) k5) (Md _ _ uk (.oR sub US out:cz hb ([C,bR]++(aS++O)) hb (bR::C::O) c4.heap aj) fun o=>out _ o Ms) kk) (UL bZ fun o e=>⟨o,out _ o (fun q=>Gf _ q rfl) e,rfl⟩)
end
noncomputable abbrev BR (env:eo)(ifs:J b7)(b:aZ):dM aZ:=ti ifs b fun c r=>if r=af then do let ok←xV c env (eval c env);bV (DO ok)else bV (DO r)
noncomputable abbrev Gg (env:eo)(x:au):dM g5:=do Az x env;theTreesLotGoes x
noncomputable abbrev Gh (env:eo)(x:au):dM g5:=do Az x env;ku theWindowsPlace
section
variable {g:ci}{c:e9}{A:dc}{O N:J aC}{s:a3}{n k c2:ah}{hp:J ap}{sc aJ:dU}{env:eo}{loc:cD}{X:J ap→Prop}{K:a0}{C bR:aC}{h:b8}{pos BS:ib}{kf:ax (au→dM g5)}{Q Ee:au→a3→Prop}{t it elt:b7}{aS:J aC}
theorem afr (fO:∀m,m≤n→db g c m):∀{ifs:J b7} {k gm:ah} {K:aZ→J ap→Prop} {s:a3} {N:J aC} {hp:J ap},gm≤n+1→bz g A c.lv O N s env sc loc hp→oE c gm af (qT bA k sc ifs) X loc hp K→yg g A O N s (BR env ifs af) K X:=by
 have hf:∀l:J b7,BR env l ae=bV ae:=fun l=>by
  induction l with
  |nil=>rfl
  |cons x l az=>unfold BR at *;exact Y (I4 ..) (Y (bL dO) az)
 intro ifs
 induction ifs with
 |nil=>
  intro k gm K s N hp aA E h
  cases gm with
  |zero=>exact(show bt from h).elim
  |succ gm=>induction k with
   |zero=>induction gm with
    |zero=>exact(show bt from h).elim
    |succ=>exact(show bt from h).elim
   |succ k=>exact cs (.dj E.H rfl h)
 |cons e r az=>
  intro k gm K s N hp aA E h
  cases gm with
  |zero=>exact(show bt from h).elim
  |succ gm=>induction k with
   |zero=>induction gm with
    |zero=>exact(show bt from h).elim
    |succ=>exact(show bt from h).elim
   |succ k=>
    have mZ:=Ji aA
    unfold BR
    refine Y (I4 ..) (Y (b3 rfl) ?_)
    refine cc (cc (U.jH ((fO gm mZ).b E h) (fun v aB bj bN b st H e h=>?_) fun I I q=>q))
    subst e
    refine cs ?_
    induction v with
    |true=>exact ew (az (mH mZ) (E.f3 st H) h) (fun I I=>.jG st) fun I I=>.jG st
    |false=>
     show bK _ _ (BR env r ae) _ _ _
     rw[hf]
     exact cs (.mk st H rfl h)
abbrev Gi (A:dc)(O:J aC)(env:eo)(C bR:aC):Prop:=bR∈O∧bR∉dG env∧bR∉fH A∧∀a∈[bR,C],a∈O
theorem yP.sG {St:J D→b8→J aC→J aC→Prop}{ds:J D}{c0:au}(L:yP g A n O N s env sc loc hp t c0 aS St ds C bR):Gi A O env C bR:=⟨L.P.dS _ (.head _),L.P.dG _ (.head _),L.P.fr _ (.head _),fun a m=>(cV.mp m).elim (fun e=>e▸L.P.dS _ (.head _)) (L.P.bh a)⟩
variable {Mu:J aC}{s0:a3}{afs:J ap}{α:Type}
theorem Gi.cw {J' bw:J aC}{ar:a3}(M:Gi A O env C bR)(E:bz g A n O N s env sc loc hp)(st:b9 A [] N s bw ar)(o:ee)(e:s.heap.get? bR=B o):ar.heap.get? bR=B o:=st.F4 E.H M.1 (fun m=>dz m) M.2.2.1 e
theorem BU {P:Prop}{x:au}{ar:a3}:gR g A [] O N s (fun I=>bt) x ar→P
 | .mk _ _ _ f=>f.elim
theorem UT (aD:db g c n)(M:Gi A O env C bR){kk b m ff:ah}{acc:J D}{K:J D→cD→J ap→Prop}{cd:qD}(st:b9 A [] Mu s0 N s)(aft:aR g s0.heap Mu O afs)(E:bz g A c.lv O N s env sc loc hp)(dd:jt g bR kk b O m acc s.heap N)(bZ:1+ff *kk≤m *kk)
  (h:bT c n (b1 bA k sc elt) (fun I=>bt) loc hp fun e hp=>K (acc++[e]) loc hp):bK (bB g.p g.w) A ((do let _←cY (.builtin "list.append") [.ref bR,←eval elt env]:dM g5)>>=fun I=>pv cd) (Mb g A c.lv O Mu s0 env sc C bR (jt g bR kk b O ff) K cd) (fun I I=>bt) s:=by
 refine cc (cc (U.jH (aD.e E h) (fun v aB bj bN d sF BV r h=>?_) fun x ar=>BU))
 exact cc (.of (afg (E.f3 sF BV) M.1 M.2.1 (dd.dw (sF.dw E.C) (M.cw (J':=[]) E sF)) bZ r fun aj ec dQ afu=>cs (cs (.mk (((st.eJ sF).jh aft M.2.2.2).eJ (ec.qL BV (fun a m=>df.mp m▸.head _) M.2.2.2)) dQ afu h))))
theorem jt.hH {kk b m ff:ah}{acc:J D}(l:ff≤m):jt g bR kk b O m acc h N→jt g bR kk b O ff acc h N
 | .mk e r q=>.mk e r (ao (dR (eH (Jl _ l) _) _) q)
theorem UU {ar:a3}{bw:J aC}{bq:J ap}{acc:J D}{kk b m:ah}{C bR:aC}(E:bz g A n O N s env sc loc hp)(ke:s.heap.get? bR=ab)(aA:bR∉C::O)(st:b9 A [] N s bw ar)(H:aR g ar.heap bw (bR::C::O) bq)(dd:jt g bR kk b (bR::C::O) m acc ar.heap bw)(q:K (.aP acc) bq):
  fe g A [] (C::O) N s (fun h N=>aE g h N (C::O)) K (.ref bR) ar:=by
 induction dd with|mk e r _=>
 exact .mk (b:=.aP acc) st (H.hH fun I=>.tail _) (f0.mk ⟨fun m=>(H.lo bR m).2 (.head _),aA,(E.H.ma ke).s⟩ (.mk e ((cz.oR (aS:=[]) (fun I=>.tail _) (fun I m=>dz m) fun I I I e=>e).vs r))) q
theorem UV (s:a3)(Q:au→a3→Prop)(E:au→a3→Prop)(q:Q (.ref s.heap.objs.size) {s with heap:=s.heap.push {cls:=.type "list",dict:=ab,data:=.seq ([]:J au).toArray}}):bM (bB g.p g.w) A (EP []) Q E s:=pn q
theorem afv (W:ft g c)(fO:∀m,m≤n→db g c m){ifs:J b7}{is:J ah}{oV:ah}(E:bz g A c.lv O N s env sc loc hp)(im:(oF aJ&&k1 sc aJ)=af)(aw:jn aJ t=af)(bE:gD (b4 aJ) t=B is)
  (h:bT c (n+1) (.lc (b1 bA c2 aJ elt) is (j8 bA k sc t it) (qT bA oV aJ ifs) (ii aJ (b4 sc))) X loc hp K) (gA:∀x ar,gR g A [] O N s X x ar→Ee x ar) (nW:ui g A O N s K kf Q Ee):
  bK (bB g.p g.w) A (tA (.ListComp elt [⟨t,it,ifs,0⟩] aJ pos) aJ env BS (EP []) ae (eval it env) kf) Q Ee s:=by
 induction n with
 |zero=>exact(show bt from h).elim
 |succ n=>
  have h:mX c (n+1) (j8 bA k sc t it) X loc hp fun ds hp=>mh (fun d acc loc hp K=>hI is d loc fun loc=>oE c (n+1) af (qT bA oV aJ ifs) (fun I=>bt) loc hp fun v hp=>
    ei v (bT c (n+1) (b1 bA c2 aJ elt) (fun I=>bt) loc hp fun e hp=>K (acc++[e]) loc hp) (K acc loc hp)) ds [] (kD (ii aJ (b4 sc)) loc) hp fun acc I hp=>K (.aP acc) hp:=h
  refine Mh W (fO n (iQ n)) (hx:=Gh) (AR:=fun bR O=>jt g bR 1 0 O) (Kfin:=fun acc hp=>K (.aP acc) hp) rfl (fun I I I=>rfl) (fun I I I=>rfl) (fun I I I=>rfl) UV rfl E im aw bE h (fun bR O=>jt.dw) (fun {c0 aS St ds C bR q8 bj aB bN R} L ke hk l8=>?_) (UU E) gA nW
  generalize lw aJ (he env.cells aJ.names []) C env=cenv at *
  refine Gb (pp:=it.pos) (hx:=Gg cenv) (AR:=jt g bR 1 0) (bstep:=fun acc loc hp K=>oE c (n+1) af (qT bA oV aJ ifs) (fun I=>bt) loc hp fun v hp=>ei v (bT c (n+1) (b1 bA c2 aJ elt) (fun I=>bt) loc hp fun e hp=>K (acc++[e]) loc hp) (K acc loc hp)) (rest:=do
     let mut ok:=af
     for c in ifs do
      if ok then ok←xV c cenv (eval c cenv)
     if ok then
      (do let _←cY (.builtin "list.append") [.ref bR,←eval elt cenv])
     pv (.compLoop (.ListComp elt [⟨t,it,ifs,0⟩] aJ pos) 0 c0 (.ref bR) cenv))
   L rfl rfl rfl rfl rfl (fun I=>rfl) aw bE (jt.dw) (fun {m c6 fk il wa acc K'} dQ dd ay=>?_) (acc:=[]) (.mk ke j0.mk (by have:=L.bJ;show 0+ds.length *1+0≤_;lia)) hk l8
  refine cc (U.jH (afr fO (iQ _) dQ ay) (fun v c4 hb k5 b gJ gs e ay=>?_) fun x ar=>BU)
  subst e
  have uk:=dd.dw (gJ.dw dQ.C) (L.sG.cw (J':=[]) dQ gJ)
  induction v with
  |false=>exact cs (.mk (gJ.jh dQ.H L.sG.2.2.2) (dQ.f3 gJ gs) (uk.hH (iQ _)) ay)
  |true=>exact UT (fO (n+1) (a8 _)) L.sG gJ dQ.H (dQ.f3 gJ gs) uk (by lia) ay
theorem bz.yQ {J' fk:J aC}{c6:a3}{aj:b8}{tk:dv}{il:J ap}{wa:cD}(E:bz g A n O N s env sc loc hp)(x:b9 A J' N s fk {c6 with heap:=aj,toks:=tk})(dQ:bz g A n (aS++O) fk c6 env sc wa il)(hd:∀a∈aS,a∉O)(out:k7 aS c6.heap aj):
  bz g A n O fk {c6 with heap:=aj,toks:=tk} env sc wa il:=
 E.qY x (dQ.H.Uh hd out) (dQ.F.dw (.oR (fun I=>ho _) (fun I=>mE _) out) (fun a m I=>E.F.dS a m) fun a m o e=>⟨o,out a o (fun q=>hd a q (E.F.dS a m)) e,rfl⟩)
theorem afw {x:au}{K:a0}(h:bT c n (b1 bA k sc it) X loc hp K):Ex it env x=bV x:=by
 cases it<;>first|rfl|exact(LH h).elim
theorem afx (W:ft g c)(fO:∀m,m≤n→db g c m){t' iz:b7}{i ra:ah}{oV:ah}(E:bz g A c.lv O N s env sc loc hp)(im:(oF aJ&&k1 sc aJ)=af)(aw:jn aJ t=af)(p7:jn aJ t'=af)(bE:gD (b4 aJ) t=B [i])(Mv:gD (b4 aJ) t'=B [ra])
  (h:bT c (n+1) (.A3 (b1 bA c2 aJ elt) i (j8 bA k sc t it) ra (b1 bA oV aJ iz) (ii aJ (b4 sc))) X loc hp K) (gA:∀x ar,gR g A [] O N s X x ar→Ee x ar) (nW:ui g A O N s K kf Q Ee):
  bK (bB g.p g.w) A (tA (.ListComp elt [⟨t,it,[],0⟩,⟨t',iz,[],0⟩] aJ pos) aJ env BS (EP []) ae (eval it env) kf) Q Ee s:=by
 induction n with
 |zero=>exact(show bt from h).elim
 |succ n=>
  have h:mX c (n+1) (j8 bA k sc t it) X loc hp fun ds hp=>ds.length≤1000∧mh (fun d acc loc hp K=>hI [i] d loc fun loc=>bT c (n+1) (b1 bA oV aJ iz) (fun I=>bt) loc hp fun x hp=>vQ (fun es=>
    es.length≤1000∧mh (fun y acc loc hp K=>hI [ra] y loc fun loc=>bT c (n+1) (b1 bA c2 aJ elt) (fun I=>bt) loc hp fun e hp=>K (acc++[e]) loc hp) es acc loc hp K) x) ds [] (kD (ii aJ (b4 sc)) loc) hp fun acc I hp=>K (.aP acc) hp:=h
  refine Mh W (fO n (iQ n)) (hx:=Gh) (AR:=fun bR O=>jt g bR 1000 0 O) (Kfin:=fun acc hp=>K (.aP acc) hp) rfl (fun I I I=>rfl) (fun I I I=>rfl) (fun I I I=>rfl) UV rfl E im aw bE h (fun bR O=>jt.dw) (fun {c0 aS St ds C bR q8 bj aB bN R} L ke hk l8=>?_) (UU E) gA nW
  have M:=L.sG
  generalize lw aJ (he env.cells aJ.names []) C env=cenv at *
  refine Gb (pp:=it.pos) (hx:=Gg cenv) (AR:=jt g bR 1000 0) (bstep:=fun acc loc hp K=>bT c (n+1) (b1 bA oV aJ iz) (fun I=>bt) loc hp fun x hp=>vQ (fun es=>
    es.length≤1000∧mh (fun y acc loc hp K=>hI [ra] y loc fun loc=>bT c (n+1) (b1 bA c2 aJ elt) (fun I=>bt) loc hp fun e hp=>K (acc++[e]) loc hp) es acc loc hp K) x) (rest:=do
     let x←eval iz cenv
     ku iz.pos
     let x←Ex iz cenv x
     let _←runOwn (.compStart (.ListComp elt [⟨t,it,[],0⟩,⟨t',iz,[],0⟩] aJ pos) 1 (←kV [x] (tD x)) (.ref bR) cenv) cenv
     pv (.compLoop (.ListComp elt [⟨t,it,[],0⟩,⟨t',iz,[],0⟩] aJ pos) 0 c0 (.ref bR) cenv))
   L rfl rfl rfl rfl rfl (fun I=>rfl) aw bE (jt.dw) (fun {m c6 fk il wa acc K'} dQ dd ay=>?_) (acc:=[]) (.mk ke j0.mk (by have:=hk.1;show 0+ds.length *1000+0≤_;omega)) hk.2 l8
  refine cc (U.jH ((fO (n+1) (a8 _)).e dQ ay) (fun v c4 hb k5 d gJ gs sx Mw=>nA (cc (KP (afw ay) ?_))) fun x ar=>BU)
  have fy:=dQ.f3 gJ gs
  have uk:=dd.dw (gJ.dw dQ.C) (M.cw (J':=[]) dQ gJ)
  refine cc (fi (bK.of (Uj (target:=t') fy.C.hd gs sx (Ul Mw) fun UW wb aj bg=>?_)))
  induction bg with|@mk afy afz rb UX p2 q9 BQ=>
  have q7:∀a∈wb,c4.heap.get? a=ab:=fun a m=>(BQ a m).1
  have lN:=fun {a:aC} (m:a∈wb)=>fy.Mf (q7 a m)
  have gn:∀{a b:aC},a∈wb→b∈q8→a≠b:=fun m q e=>(lN m).2.2 (e▸q)
  have UY:∀a∈wb,c6.heap.get? a=ab:=fun a m=>pI gJ.e8.ey (q7 a m)
  have eu:C∈q8:=M.2.2.2 C (.tail _ (.head _))
  have L2:yP g A c.lv (wb++q8) hb {c4 with heap:=aj} cenv aJ wa k5 t' UW wb afy afz C bR:=⟨rb,⟨fun a m=>(cV.mp m).elim (fun e=>e▸ho _ M.1) (mE _),fun a m q=>(cV.mp m).elim (fun e=>L.P.nE bR (.head _) (e▸q)) fun m=>gn m eu (df.mp q),
   fun a m=>(cV.mp m).elim (fun e=>e▸M.2.1) fun m=>(lN m).2.1,fun a m=>(cV.mp m).elim (fun e=>e▸M.2.2.1) fun m=>(lN m).1,fun a m=>df.mp m▸ho _ eu⟩,fun m=>gn m M.1 rfl,(fy.Gd (.e7 q9) (gs.nU q9 BQ) (fun a m=>ho _ m) (BD q7):bz g A c.lv (wb++q8) hb {c4 with heap:=aj} cenv aJ wa k5),UX,p2.2,L.nE⟩
  refine cc (r7 (KQ (UI (gen:=⟨t',iz,[],0⟩) (hx:=Gh cenv) rfl rfl rfl rfl rfl (Gb (pp:=iz.pos) (hx:=Gg cenv) (AR:=jt g bR 1 (m *1000)) (bstep:=fun acc loc hp K=>bT c (n+1) (b1 bA c2 aJ elt) (fun I=>bt) loc hp fun e hp=>K (acc++[e]) loc hp) (rest:=do
      (do let _←cY (.builtin "list.append") [.ref bR,←eval elt cenv]:dM g5)
      pv (.compLoop (.ListComp elt [⟨t,it,[],0⟩,⟨t',iz,[],0⟩] aJ pos) 1 UW (.ref bR) cenv))
   L2 rfl rfl rfl rfl rfl (fun I=>rfl) p7 Mv (jt.dw) (fun {ff aqe aqf aqg aqh aqi aqj} UZ afA afB=>UT (fO (n+1) (a8 _)) L2.sG .iX UZ.H UZ afA (by lia) afB) ?_ p2.1.2 ?_) fun Q E q=>rb.oU UX q) fun x=>nomatch x))
  ·induction uk with|mk e r l=>exact .mk (q9 _ _ e) ((cz.nU q9 q7).vs r) (by have:=p2.1.1;lia)
  ·intro afC afD aqk aql aqm afE afF afG Mx My kk out
   have U0:b9 A [bR,C] fk c6 afD {afC with heap:=afE,toks:=afF}:=b9.yQ ((gJ.eJ (.e7 (k:=c4.toks) q9)).jh dQ.H M.2.2.2) afG (fun a m=>(fE.mp m).elim (fun m=>.inr (UY a m)) .inl)
    (fun a m=>ho _ m) UY out
   refine cs (.mk U0 (dQ.yQ U0 Mx (fun a m=>(lN m).2.2) out) ?_ kk)
   induction My with|mk e r l=>exact .mk (out _ _ (fun m=>gn m M.1 rfl) e) ((cz.oR (fun I=>ho _) (fun I=>mE _) out).vs r) (by omega)
inductive sH (g:ci)(bR:aC)(O:J aC)(m:ah)(acc:J (bf×D))(h:b8)(N:J aC):Prop
 |mk {kvs:J (bf×au)}(e:nB g h bR kvs)(r:dA g h N O acc kvs):sH g bR O m acc h N
theorem sH.dw:Ga O bR (sH g bR)
 |_,_,_,_,_,_,_,.mk e r,M,q=>.mk (e.at q) (M.aI r)
theorem afH {ka ub:au}{ky:bf}{d:D}{m ff:ah}{acc:J (bf×D)}{Q:g5→a3→Prop}{Ee:au→a3→Prop}(E:bz g A n O N s env sc loc hp)(ke:bR∈O)(BO:bR∉dG env)(x:sH g bR O m acc s.heap N)(aw:acc.length≤1000)(hk:ky.is ka=af)(av:aE g s.heap N O d ub)
  (q:∀aj tk,b9 A [bR] N s N {s with heap:=aj,toks:=tk}→bz g A n O N {s with heap:=aj,toks:=tk} env sc loc hp→sH g bR O ff (cC acc ky d) aj N→Q () {s with heap:=aj,toks:=tk}):bM (bB g.p g.w) A (dictSet bR ka ub) Q Ee s:=by
 induction x with|mk e r=>
 refine Rc (knd:=hF g.p g.w) hk e (fun aj aw aG=>?_) (by refine r.bJ▸?_;exact ao aw (show(1000:ah)≤kT by decide))
 obtain⟨o',Mz,gm,g1,g2,g3, -⟩:=id aw
 have t:=E.fq (tk:=s.toks+1) ke BO aG g1 fun I q=>nomatch g3.symm.trans q
 exact q aj _ t.1 t.2.1 (.mk aw ((t.2.2.aI r).Lr (t.2.2.v av)))
theorem afI (W:ft g c)(fO:∀m,m≤n→db g c m){gA lK:b7}{i:ah}{oV:ah}(E:bz g A c.lv O N s env sc loc hp)(im:(oF aJ&&k1 sc aJ)=af)(aw:jn aJ t=af)(bE:gD (b4 aJ) t=B [i])
  (h:bT c (n+1) (.qN (b1 bA c2 aJ gA) (b1 bA oV aJ lK) i (j8 bA k sc t it) (ii aJ (b4 sc))) X loc hp K) (MA:∀x ar,gR g A [] O N s X x ar→Ee x ar) (nW:ui g A O N s K kf Q Ee):
  bK (bB g.p g.w) A (tA (.DictComp gA lK [⟨t,it,[],0⟩] aJ pos) aJ env BS newDict ae (eval it env) kf) Q Ee s:=by
 induction n with
 |zero=>exact(show bt from h).elim
 |succ n=>
  have h:mX c (n+1) (j8 bA k sc t it) X loc hp fun ds hp=>mh (fun d acc loc hp K=>hI [i] d loc fun loc=>bT c (n+1) (b1 bA c2 aJ gA) (fun I=>bt) loc hp fun a hp=>bT c (n+1) (b1 bA oV aJ lK) (fun I=>bt) loc hp fun b hp=>
    bF (dy a) fun a=>acc.length≤1000∧K (cC acc a b) loc hp) ds [] (kD (ii aJ (b4 sc)) loc) hp fun acc I hp=>K (.bb hp.length) (hp++[.bv acc]):=h
  refine Mh W (fO n (iQ n)) (hx:=Gh) (oD:={cls:=.type "dict",data:=.dict #[]}) (AR:=fun bR O=>sH g bR O) (Kfin:=fun acc hp=>K (.bb hp.length) (hp++[.bv acc])) rfl (fun I I I=>rfl) (fun I I I=>rfl) (fun I I I=>rfl) (fun s Q E q=>pn q) rfl E im aw bE h (fun bR O=>sH.dw) (fun {c0 aS St ds C bR q8 bj aB bN R} L ke hk l8=>?_)
   (fun {ar bw bq acc C bR} ke aA st H dd q=>by induction dd with|mk e r=>exact .mk (b:=.bb bq.length) (st.hX ke) (H.yD (o:=.bv acc) aA (.refl ..) (jd.mk e ((cz.yD (.refl ..)).aI r))) (f0.mk (Bd H) cy) q) MA nW
  have M:=L.sG
  generalize lw aJ (he env.cells aJ.names []) C env=cenv at *
  refine Gb (pp:=it.pos) (hx:=Gg cenv) (AR:=sH g bR) (bstep:=fun acc loc hp K=>bT c (n+1) (b1 bA c2 aJ gA) (fun I=>bt) loc hp fun a hp=>bT c (n+1) (b1 bA oV aJ lK) (fun I=>bt) loc hp fun b hp=>bF (dy a) fun a=>acc.length≤1000∧K (cC acc a b) loc hp) (rest:=do
     (do
      let ka←eval gA cenv
      let ub←kV [ka] (eval lK cenv)
      ku {gA.pos with endLine:=lK.pos.endLine,endCol:=lK.pos.endCol}
      kV [ka,ub] (dictSet bR ka ub):dM g5)
     pv (.compLoop (.DictComp gA lK [⟨t,it,[],0⟩] aJ pos) 0 c0 (.ref bR) cenv))
   L rfl rfl rfl rfl rfl (fun I=>rfl) aw bE (sH.dw) (fun {m c6 fk il wa acc K'} dQ dd ay=>?_) (acc:=[]) (.mk (FT ke rfl) j0.mk) hk l8
  refine cc (cc (U.jH ((fO (n+1) (a8 _)).e dQ ay) (fun ka c4 hb k5 d gJ gs sx ay=>?_) fun x ar=>BU))
  have fy:=dQ.f3 gJ gs
  have uk:=dd.dw (gJ.dw dQ.C) (M.cw (J':=[]) dQ gJ)
  refine cc (fi (U.jH ((fO (n+1) (a8 _)).e fy ay) (fun ub pX LJ LK sv nY kK LL ay=>?_) fun x ar=>BU))
  have qZ:=fy.f3 nY kK
  have Me:=uk.dw (nY.dw fy.C) (M.cw (J':=[]) fy nY)
  induction cQ.of ay with|mk gH ay=>
  exact nA (fi (bK.of (afH qZ M.1 M.2.1 Me ay.1 (nP gH ((nY.dw fy.C).v sx)) LL fun aj tk ec Mx My=>cs (.mk (((gJ.eJ nY).jh dQ.H M.2.2.2).eJ (ec.qL kK (fun a m=>df.mp m▸.head _) M.2.2.2)) Mx My ay.2))))
theorem U1 {ge:xL}(h:(ge.is_async==0)=af):ge=⟨ge.target,ge.iter,ge.ifs,0⟩:=by
 obtain⟨t,it,ifs,a⟩:=ge
 cases c9 h;rfl
theorem MB {i:ah}{l:ax (J ah)}(h:l.bind dW=B i):l=B [i]:=by
 induction nO h with|mk e q=>exact e.symm▸(ml q).symm▸rfl
theorem yS {ge:xL}(h:(ge.ifs.isEmpty&&(ge.is_async==0)&&jn aJ ge.target)=af):ge=⟨ge.target,ge.iter,[],0⟩∧jn aJ ge.target=af:=(ct.mp h).elim fun h cu=>(ct.mp h).elim fun aY bu=>⟨(U1 bu).trans (by exact Y (ks.mp aY) rfl),cu⟩
theorem afJ {P:cS→Prop}{Q:Prop}{gens:J xL}(ay:P .ez→Q)
  (aY:∀k t it ifs is,gens=[⟨t,it,ifs,0⟩]→jn aJ t=af→gD (b4 aJ) t=B is→P (.lc (b1 bA k aJ elt) is (j8 bA k sc t it) (qT bA k aJ ifs) (ii aJ (b4 sc)))→Q)
  (bu:∀k t it t' iz i ra,gens=[⟨t,it,[],0⟩,⟨t',iz,[],0⟩]→jn aJ t=af→jn aJ t'=af→gD (b4 aJ) t=B [i]→gD (b4 aJ) t'=B [ra]→P (.A3 (b1 bA k aJ elt) i (j8 bA k sc t it) ra (b1 bA k aJ iz) (ii aJ (b4 sc)))→Q)
  (h:P (FC bA k sc aJ elt gens)):Q:=by
 induction k with
 |zero=>exact ay h
 |succ k=>
  have h:P (bS _ _ _):=h
  generalize p1:dW gens=o at h
  induction o with
  |some ge=>
   refine BE ay h fun g1 jp=>BF ay jp fun is p0 ik=>?_
   have g:=ct.mp g1
   exact aY k ge.target ge.iter ge.ifs is ((ml p1).trans (bl (fun x=>[x]) (U1 g.1))) g.2 p0 ik
  |none=>
   refine BF ay h fun p e gq=>BE ay gq fun g1 jp=>BF ay jp fun i p0 ik=>BF ay ik fun ra afK lJ=>?_
   have g:=ct.mp g1
   exact bu k p.1.target p.1.iter p.2.target p.2.iter i ra ((yt e).trans ((yS g.1).1▸(yS g.2).1▸rfl)) (yS g.1).2 (yS g.2).2 (MB p0) (MB afK) lJ
theorem U2 (W:ft g c)(fO:∀m,m≤n→db g c m){gens:J xL}(E:bz g A c.lv O N s env sc loc hp)(im:(oF aJ&&k1 sc aJ)=af)(h:bT c (n+1) (FC bA k sc aJ elt gens) X loc hp K)(gA:∀x ar,gR g A [] O N s X x ar→Ee x ar)(nW:ui g A O N s K kf Q Ee):
  bK (bB g.p g.w) A (tA (.ListComp elt gens aJ pos) aJ env BS (EP []) (firstAsync gens) (firstIter gens env) kf) Q Ee s:=
 afJ (P:=fun e=>bT c (n+1) e X loc hp K) (fun h=>(kH h).elim) (fun k t it ifs is e aw bE q=>by subst e;exact afv W fO E im aw bE q gA nW) (fun k t it t' iz i ra e aw p7 bE Mv q=>by subst e;exact afx W fO E im aw p7 bE Mv q gA nW) h
theorem U3 (W:ft g c)(fO:∀m,m≤n→db g c m){gA lK:b7}{ge:xL}{i:ah}(E:bz g A c.lv O N s env sc loc hp)(im:(oF aJ&&k1 sc aJ)=af)(aV:(ge.ifs.isEmpty&&(ge.is_async==0)&&jn aJ ge.target)=af)(bE:(gD (b4 aJ) ge.target).bind dW=B i)
  (h:bT c (n+1) (.qN (b1 bA k aJ gA) (b1 bA k aJ lK) i (j8 bA k sc ge.target ge.iter) (ii aJ (b4 sc))) X loc hp K) (MA:∀x ar,gR g A [] O N s X x ar→Ee x ar) (nW:ui g A O N s K kf Q Ee):
  bK (bB g.p g.w) A (tA (.DictComp gA lK [ge] aJ pos) aJ env BS newDict (firstAsync [ge]) (firstIter [ge] env) kf) Q Ee s:=(yS aV).1▸(afI W fO E im (yS aV).2 (MB bE) h MA nW)
theorem afL (W:ft g c)(fO:∀m,m≤n→db g c m)(ul:∀{k et b aJ sy np pos sc env X loc hp K A O N s},bz g A c.lv O N s env sc loc hp→gC sc kE=af→yp et sc aJ=af→bT c (n+1) (.jj (b1 bA k aJ b) (ii aJ (b4 sc))) X loc hp K→dP g A O N s (eval (.Call (.Name kE np) [.Lambda et b aJ sy] [] pos) env) K X):Bv g c n:=
 ⟨fun E im h=>by refine Y (eval_ListComp ..) ?_;exact U2 W fO E im h (fun I I q=>q) UM,fun E im aV bE h=>by refine Y (arm_eval_DictComp ..) ?_;exact U3 W fO E im aV bE h (fun I I q=>q) UM,ul⟩
end
set_option genCtorIdx false in
inductive U4 where
 |cv (l:cD)
 |co (l:cD)
 |k8 (d:D)
def U5 (aQ:fL)(Kr:a0)(Kc:fL):U4→J ap→Prop
 | .cv l=>aQ l
 | .co l=>Kc l
 | .k8 d=>Kr d
inductive BW (g:ci)(O:J aC)(env:eo)(sc:dU)(h:b8)(N:J aC):U4→tG→Prop
 |cv {l:cD}(F:f7 g h N O env (b4 sc) l):BW g O env sc h N (.cv l) .next
 |co {l:cD}(F:f7 g h N O env (b4 sc) l):BW g O env sc h N (.co l) .cont
 |k8 {d:D}{v:au}(r:aE g h N O d v):BW g O env sc h N (.k8 d) (.ret v)
abbrev BX (g:ci)(A:dc)(O N:J aC)(s:a3)(env:eo)(sc:dU)(aQ:fL)(Kr:a0)(Kc:fL):tG→a3→Prop:=fe g A (dG env) O N s (BW g O env sc) (U5 aQ Kr Kc)
abbrev UF (g:ci)(A:dc)(O N:J aC)(s:a3)(env:eo)(sc:dU)(t:dM tG)(aQ:fL)(Kr:a0)(Kc:fL)(X:J ap→Prop):Prop:=U g A (dG env) O N s t (BW g O env sc) (U5 aQ Kr Kc) X
theorem gR.jh (E:bz g A n O N s env sc loc hp):gR g A [] O N s X x ar→gR g A (dG env) O N s X x ar
 | .mk a b c d=>.mk (a.jh E.H E.F.dS) b c d
theorem bz.yT (E:bz g A n O N s env sc loc hp)(h:U g A [] O N s t R K1 X)(k:∀a aB bj bN b,bz g A n O bj aB env sc loc bN→cz N O bj O s.heap aB.heap→R aB.heap bj b a→K1 b bN→U g A (dG env) O bj aB (f a) R2 K2 X):U g A (dG env) O N s (t>>=f) R2 K2 X:=
 cc (h.jH (fun a aB bj bN b st H r q=>have nT:=st.jh E.H E.F.dS;ew (k a aB bj bN b (E.f3 st H) (st.dw E.C) r q) (fun I I=>.jG nT) fun I I=>.jG nT) fun I I=>.jh E)
theorem bz.MC (E:bz g A n O N s env sc loc hp)(h:U g A [] O N s t R K1 X)(gA:∀x ar,gR g A [] O N s X x ar→Ee x ar)(k:∀a aB bj bN b,bz g A n O bj aB env sc loc bN→cz N O bj O s.heap aB.heap→R aB.heap bj b a→b9 A [] N s bj aB→K1 b bN→bK (bB g.p g.w) A (f a) Q Ee aB):bK (bB g.p g.w) A (t>>=f) Q Ee s:=
 cc (h.jH (fun a aB bj bN b st H r q=>k a aB bj bN b (E.f3 st H) (st.dw E.C) r st q) gA)
theorem UF.Bz (E:bz g A n O N s env sc loc hp)(h:aQ loc hp):UF g A O N s env sc (bV .next) aQ Kr Kc X:=cs (.dj (b:=.cv loc) E.H (.cv E.F) h)
theorem afM (E:bz g A n O N s env sc loc hp)(h:Kc loc hp):UF g A O N s env sc (jc (.Continue pos) env) aQ Kr Kc X:=U.gT (cs (.dj (b:=.co loc) E.H (.co E.F) h))
theorem afN (E:bz g A n O N s env sc loc hp)(h:Kr .aK hp):UF g A O N s env sc (jc (.Return ab pos) env) aQ Kr Kc X:=U.gT (cs (.dj (b:=.k8 .aK) E.H (.k8 aE.z) h))
theorem afO (aD:db g c n)(E:bz g A c.lv O N s env sc loc hp)(h:bT c n (b1 bA k sc e) X loc hp Kr):UF g A O N s env sc (jc (.Return (B e) pos) env) aQ Kr Kc X:=
 U.gT (E.yT (aD.e E h) fun v aB bj bN d bX I r q=>cs (.dj (b:=.k8 d) bX.H (.k8 r) q))
theorem afP (E:bz g A n O N s env sc loc hp):ED env=ae:=by unfold ED;refine Y E.F.ok.bk ?_;rfl
theorem afQ (aD:db g c n)(E:bz g A c.lv O N s env sc loc hp)(h:bT c n (b1 bA k sc (.Call f as mj BY)) X loc hp fun I hp=>aQ loc hp):UF g A O N s env sc (jc (.Expr (.Call f as mj BY) pos) env) aQ Kr Kc X:=Y (exec_Expr env _ _ (afP E) rfl) (U.gT (E.yT (aD.e E h) fun v aB bj bN d bX I r q=>bK.of (Rq (.dj (b:=.cv loc) bX.H (.cv bX.F) q))))
theorem BX.sG (E:bz g A n O N s env sc loc hp)(e:bz g A n O N {s with heap:=aj,toks:=tk} env sc hL hp)(st:b9 A (dG env) N s N {s with heap:=aj,toks:=tk})(k:aQ hL hp):BX g A O N s env sc aQ Kr Kc .next {s with heap:=aj,toks:=tk}:=.mk (b:=.cv hL) st e.H (.cv e.F) k
theorem afR {K:a0}(E:bz g A n O N s env sc loc hp)(hx:(b4 sc)[i]?=B x)(Gj:∀d hp,K d hp→aQ (loc.set i (B d)) hp):
  ui g A O N s K (B fun v=>assignAll v ((vp [.Name x p] env).map (·.2))) (fun I=>BX g A O N s env sc aQ Kr Kc .next) Ee:=by
 intro ar v C m eu q aA
 induction q with|@mk bw bq d st H h1 kk=>
 have MD:∀a∈dG env,a≠C:=fun a m q=>E.H.dz eu (q▸E.F.dS a m)
 refine bK.of (Jx (Ft (aS:=dG env) (E.Gd st H (fun a m=>.tail _ m) (fun p m=>(cV.mp m).elim (fun e=>.inr (e▸eu)) .inl:hu s.heap O (C::O))).F H hx h1 (fun a m=>.inl m) fun aj tk wc mu ec=>?_))
 refine⟨m,UL aA fun o e=>(ec.e8.tP H (.head _) (fun q=>MD C q rfl) e).elim fun I w=>⟨_,w,rfl⟩,fun bu iZ U6 yU=>?_⟩
 exact .mk (b:=.cv (loc.set i (B d))) (((st.jh E.H E.F.dS).eJ ec).LM eu yU (v8 U6)) (mu.sp yU (v8 U6)) (.cv (wc.dw (.sp yU) (fun a BZ afS=>(cV.mp afS).resolve_left (MD a BZ)) fun a BZ o e=>⟨o,(yU.2 a (MD a BZ)).trans e,rfl⟩)) (Gj d bq kk)
theorem afT:xO v (B (.Name x p)) l env=bV ae∨(xO v (B (.Name x p)) l env=bV af∧((∃e g c p,v=.ListComp e g c p)∨(∃e g c p,v=.SetComp e g c p)∨∃k x g c p,v=.DictComp k x g c p)):=by
 have z:∀{P:Prop},P→∀b:aZ,(bV b:dM aZ)=bV ae∨((bV b:dM aZ)=bV af∧P):=fun h b=>by induction b;exact .inl rfl;exact .inr ⟨rfl,h⟩
 cases v<;>first|exact .inl rfl|exact z (.inl ⟨_,_,_,_,rfl⟩) _|exact z (.inr (.inl ⟨_,_,_,_,rfl⟩)) _|exact z (.inr (.inr ⟨_,_,_,_,_,rfl⟩)) _
theorem afU (aG:xO v (B (.Name x p)) pos.line env=bV af):jc (.Assign [.Name x p] v pos) env=(ku pos>>=fun I=>evalThenUse v env (fun v=>assignAll v ((vp [.Name x p] env).map (·.2)))>>=fun I=>bV .next):=by
 refine Y (exec_Assign ..) ?_
 show(ku pos>>=fun I=>xO v (B (.Name x p)) pos.line env>>=fun b=>if b=af then _ else _)=_
 refine Y aG ?_;rfl
theorem afV (W:ft g c)(fO:∀m,m≤n→db g c m)(E:bz g A c.lv O N s env sc loc hp)(hx:(b4 sc).idxOf? x=B i)(av:(∃e g c p,v=.ListComp e g c p)∨(∃e g c p,v=.SetComp e g c p)∨∃k x g c p,v=.DictComp k x g c p)(aG:xO v (B (.Name x p)) pos.line env=bV af)(h:bT c (n+1) (b1 bA (k+1) sc v) X loc hp fun d hp=>aQ (loc.set i (B d)) hp):
  UF g A O N s env sc (jc (.Assign [.Name x p] v pos) env) aQ Kr Kc X:=by
 refine Y (afU aG) ?_
 have U7:=fun m (l:m≤n)=>fO m l
 have fin:=afR (Kr:=Kr) (Kc:=Kc) (p:=p) E (k4 hx) (fun d hp (q:(fun d hp=>aQ (loc.set i (B d)) hp) d hp)=>q) (Ee:=gR g A (dG env) O N s X)
 clear aG fO
 rcases av with⟨e,Gc,k9,p2,rfl⟩|⟨e,Gc,k9,p2,rfl⟩|⟨gA,lK,Gc,k9,p2,rfl⟩
 ·have h:=h3 h
  exact U.gT (cc (cc (ew (U2 W U7 E h.1 h.2 (fun I I=>.jh E) fin) (fun I ar q=>cs (cs q)) fun I I q=>q)))
 ·exact(kH h).elim
 ·induction nS (h3 h).2 with|mk e cu=>
  cases ml e
  induction nS (h3 cu).2 with|mk p0 js=>exact U.gT (cc (cc (ew (U3 W U7 E ((h3 h).1) (h3 cu).1 p0 js (fun I I=>.jh E) fin) (fun I ar q=>cs (cs q)) fun I I q=>q)))
theorem afW (W:ft g c)(fO:∀m,m≤n→db g c m)(E:bz g A c.lv O N s env sc loc hp)(hx:(b4 sc).idxOf? x=B i)(h:bT c n (b1 bA k sc v) X loc hp fun d hp=>aQ (loc.set i (B d)) hp):
  UF g A O N s env sc (jc (.Assign [.Name x p] v pos) env) aQ Kr Kc X:=by
 rcases afT (env:=env) (v:=v) (x:=x) (p:=p) (l:=pos.line)with aG|⟨aG,av⟩
 ·exact Y (exec_Assign_Name env x p v pos aG) (U.gT (E.yT ((fO n (a8 n)).e E h) fun v aB bj bN d bX I r q=>U.gT (d1 (wpAny_bindName (Ft (aS:=dG env) bX.F bX.H (k4 hx) r (fun a m=>.inl m) fun aj tk lB jq ec=>cs (.mk (b:=.cv _) ec jq (.cv lB) q))))))
 ·induction n with
  |zero=>exact h.elim
  |succ n=>
   induction k with
   |zero=>exact(kH h).elim
   |succ k=>exact afV W (fun m l=>fO m (mH l)) E hx av aG h
theorem cp.gv (av:aE g h N O d v):∀{l:J D} {vs:J au},cp g h N O l vs→∀i:ah,cp g h N O (l.set i d) (vs.set i v):=by
 intro l
 induction l with
 |nil=>intro vs r i;induction r;exact .mk
 |cons x l az=>
  intro vs r i
  induction r with|mk u r=>
  induction i with
  |zero=>exact .mk av r
  |succ i=>exact .mk u (az r i)
theorem afX {K:J ap→Prop}(H:aR g s.heap N O hp)(bC:aE g s.heap N O a lL)(hk:aE g s.heap N O kd ka)(av:aE g s.heap N O d v)(h:tT a kd d hp K)(q:∀ar bw bq,b9 A [] N s bw ar→aR g ar.heap bw O bq→K bq→Q () ar):bM (bB g.p g.w) A (setItem lL ka v) Q Ee s:=by
 delta tT at h
 induction cQ.of h with|@mk j B0 aY=>
 cases Ll B0
 induction cQ.of aY with|@mk o p1 bu=>
 clear h aY
 induction nN H p1 bC with|@mk p da w=>
 have fin:∀{aj} {tk} {o':ap},hq p s.heap aj→ht g aj N O p o'→K (hp.set j o')→Q () {s with heap:=aj,toks:=tk}:=fun {aj tk o'} aG bC kk=>by
  induction fe.fq (g:=g) (A:=A) (t:=tk) (K:=fun I=>K) (d:=D.aK) (v:=iU) H da.1 aG bC aE.z kk with|mk st jq _ k=>
  exact q _ _ _ st jq k
 induction o with
 |er=>exact bu.elim
 |br l=>
  induction cQ.of bu with|@mk z afY h=>
  cases oJ afY
  induction hk with|mk tz=>
  induction w with|@mk vs m aV aL=>
  obtain⟨⟨h0,aY,bu⟩,cu⟩:=h
  refine ki_setAt (items:=vs.toArray) (n:=m) aV h0 (by omega) (by refine dD▸aL.bJ▸?_;omega) ?_
  have aG:hq p s.heap (s.heap.update p (Kp (·.setIfInBounds z.toNat v))):=.update ..
  have e2:=Sh aV (·.setIfInBounds z.toNat v)
  rw[List.setIfInBounds_toArray] at e2
  exact fin (tk:=s.toks) (o':=.br _) aG (kz.mk e2 (((cz.fq da.1 aG).vs aL).gv ((cz.fq da.1 aG).v av) _)) cu
 |bv l=>
  induction cQ.of bu with|@mk ky gH h=>
  induction w with|@mk kvs e aL=>
  refine wpAny_setItem_pairs (knd:=hF g.p g.w) (nP gH hk) e (fun aj aw aG=>?_) (by refine aL.bJ▸?_;exact ao h.1 (show(1000:ah)≤kT by decide))
  exact fin (tk:=s.toks+1) (o':=.bv _) aG (jd.mk aw (((cz.fq da.1 aG).aI aL).Lr ((cz.fq da.1 aG).v av))) h.2
theorem setAll_c {i:ah}{is:J ah}{d:D}{ds:J D}{loc:cD}:j6 (i::is) (d::ds) loc=j6 is ds (loc.set i (B d)):=rfl
theorem afZ:∀{is:J ah} {ds:J D} {loc:cD},i∉is→j6 is ds (loc.set i o)=(j6 is ds loc).set i o:=by
 intro is
 induction is with
 |nil=>exact fun I=>rfl
 |cons j is az=>
  intro ds loc h
  induction ds with
  |nil=>rfl
  |cons d ds=>
   rw[setAll_c,setAll_c,List.set_comm _ _ (fun e:i=j=>h (e▸.head _)),az fun m=>h (.tail _ m)]
theorem af0:∀{is:J ah} {ds:J D} {loc:cD},is.length=ds.length→j6 (is++is') (ds++BM) loc=j6 is' BM (j6 is ds loc):=by
 intro is
 induction is with
 |nil=>
  intro ds loc h
  induction ds with
  |nil=>rfl
  |cons=>exact cr h (xC _).symm
 |cons i is az=>
  intro ds loc h
  induction ds with
  |nil=>exact cr h (xC _)
  |cons d ds=>exact az (qx h)
theorem af1:∀{is:J ah} {ds:J D} {loc:cD},is.Nodup→is.length=ds.length→j6 is.reverse ds.reverse loc=j6 is ds loc:=by
 intro is
 induction is with
 |nil=>
  intro ds loc I h
  induction ds with
  |nil=>rfl
  |cons=>exact cr h (xC _).symm
 |cons j is az=>
  intro ds loc aA h
  induction ds with
  |nil=>exact cr h (xC _)
  |cons d ds=>
   have aA:=mG.mp aA
   have h:is.length=ds.length:=qx h
   rw[xu,xu,af0 (xt.trans (h.trans xt.symm)),az aA.2 h]
   exact(afZ aA.1).symm
theorem af2 (hf:∀e x,f e=B x→nM e=B x):∀{es:J b7} {is:J ah},dF (oH (b4 sc)) es=B is→(es.filterMap f).length=es.length→p6 env (b4 sc) ((es.filterMap f).map fun x=>JY env x) is:=by
 intro es
 induction es with
 |nil=>intro is h I;exact bo h▸.mk (l:=[]) rfl rfl fun I m=>dz m
 |cons e r az=>
  intro is h aw
  obtain⟨i,l,aY,bu,rfl⟩:=q1 h
  induction cP:f e with
  |none=>
   rw[List.filterMap_cons_none cP] at aw
   exact cr (pj f r) (Y aw (QK _))
  |some x=>
   rw[List.filterMap_cons_some cP] at aw⊢
   induction nO aY with|@mk y aT aN=>
   have ex:=bo ((hf e x cP).symm.trans aT)
   subst ex
   exact .dN ⟨x,k4 aN,fun h=>bindName_ h⟩ (az bu (qx aw))
theorem p6.sf:p6 env (b4 sc) as is→p6 env (b4 sc) as.reverse is.reverse
 | .mk (l:=l) aT aN k=>.mk (l:=l.reverse) (Y Eh (aT.symm▸rfl)) (Y Eh (aN.symm▸rfl)) fun p m=>k p (I1.mp m)
theorem af3 (ME:(es.all (JK 8)||!es.all (JG 8))=af)(aA:dF (oH (b4 sc)) dB=B is):
  EA [.Tuple dB j p] (.Tuple es j2 p2) env=bV ab∨∃names:J aO,EA [.Tuple dB j p] (.Tuple es j2 p2) env=bV (B names)∧es.length=dB.length∧names.length=dB.length∧p6 env (b4 sc) (names.map fun x=>JY env x) is:=by
 have key:∀{jf lO wd B1 B2:aZ} {P:Prop} {names:J aO} {f:dM (ax (J aO))},(B1||!B2)=af→(jf=ae→wd=ae→P)→
   (if jf then bV ab else if lO then bV ab else if wd then bV ab else if B1 then bV ab else if B2 then f else bV (B names))=(bV ab:dM (ax (J aO)))∨
   (if jf then bV ab else if lO then bV ab else if wd then bV ab else if B1 then bV ab else if B2 then f else bV (B names))=(bV (B names):dM (ax (J aO)))∧P:=by
  intro jf lO wd B1 B2 P names f ay bI
  induction jf
  ·induction lO
   ·induction wd
    ·induction B1
     ·induction B2
      ·exact .inr ⟨rfl,bI rfl rfl⟩
      ·exact nb ay
     ·exact .inl rfl
    ·exact .inl rfl
   ·exact .inl rfl
  ·exact .inl rfl
 refine(key (P:=es.length=dB.length∧_) ME fun aY cu=>?_).imp id fun z=>⟨_,z⟩
 have cu:=(lq.mp cu).1
 have cu:=(qG.mp cu)
 refine⟨((qG.mp ((lq.mp (lq.mp aY).1).2))),cu,af2 (fun e x h=>?_) aA cu⟩
 cases e<;>first| (exact nn h;done)|skip
 rename_i y q
 exact(rS.mp h).2
section
variable {is:J ah}
theorem af4:swapsWithSole [.Tuple dB j p] v l env=bV ae:=by cases v<;>rfl
theorem af5:xO v (B (.Subscript o i p)) l env=bV ae:=by cases v<;>rfl
theorem af6 (e:pP v=ab):EA [.Tuple dB j p] v env=bV ab:=by cases v<;>first|rfl|exact sn e
theorem Gk (bE:gD (b4 sc) (.Tuple dB j p)=B is):dF (oH (b4 sc)) dB=B is:=(rS.mp bE).2
noncomputable abbrev yV (is:J ah)(loc:cD)(aQ:fL):a0:=fun d hp=>bF d.me fun l=>l.length=is.length∧aQ (j6 is l loc) hp
theorem U8 (E:bz g A n O N s env sc loc hp)(bZ:dF (oH (b4 sc)) dB=B is)(r:aE g s.heap N O d v)(h:yV is loc aQ d hp):
  UF g A O N s env sc (JP env v ab ((vp [.Tuple dB j p] env).map (·.2))) aQ Kr Kc X:=by
 show bK _ _ (tF (.Tuple dB j p) env v>>=fun I=>bV Ki) _ _ _
 exact d1 (Ur (aS:=dG env) E E.F.dS bZ r h (fun x hx y e a m=>.inl m) fun aj tk hL cR st k=>cs (BX.sG E cR st k))
theorem af7 (E:bz g A n O N s env sc loc hp)(b0:p6 env (b4 sc) (names.map fun x=>JY env x) is)(aw:names.length=is.length)(B3:is.Nodup){st:J (au→dM g5)}(r:aE g s.heap N O d v)(h:yV is loc aQ d hp):
  UF g A O N s env sc (JP env v (B names) st) aQ Kr Kc X:=by
 induction cQ.of h with|@mk l dq aY=>
 cases vW dq
 clear h
 induction r with|mk of w=>
 induction w with|@mk vs m aV aL=>
 refine cc (KO (d1 ?_))
 refine(dD.symm▸aL.bJ.symm▸aw.symm▸aY.1.symm▸rfl:names.length=vs.toArray.size)▸?_
 refine unpackItems_tuple E.C.hd ⟨_,aV,rfl,m,rfl⟩ fun aj hx=>?_
 have hk:∀b o,s.heap.get? b=B o→aj.get? b=B o:=fun b o e=>hx b o (yI e) e
 refine Y Eh ?_
 refine d1 (Uq (aS:=dG env) E.F.dS b0.sf ((((.e7 hk:b9 A [] N s N {s with heap:=aj,toks:=s.toks}).dw E.C).vs aL).sf) (Y xt (xt.symm▸aY.1.symm▸rfl)) (E.f3 (.e7 hk:b9 A [] N s N {s with heap:=aj,toks:=s.toks}) (E.H.tO hk)) (fun x hx y e a m=>.inl m) fun F3 tk yJ st=>?_)
 rw[af1 B3 aY.1.symm] at yJ
 exact cs (BX.sG E yJ (((.e7 hk:b9 A [] N s N {s with heap:=aj,toks:=s.toks}).jh E.H E.F.dS).eJ st) aY.2)
theorem MF (aG:EA [.Tuple dB j p] v env=bV sw)(E:bz g A n O N s env sc loc hp)(h:dP g A O N s (eval v env) (yV is loc aQ) X)(k:∀v aB bj bN d,bz g A n O bj aB env sc loc bN→aE g aB.heap bj O d v→yV is loc aQ d bN→UF g A O bj aB env sc (JP env v sw ((vp [.Tuple dB j p] env).map (·.2))) aQ Kr Kc X):
  UF g A O N s env sc (jc (.Assign [.Tuple dB j p] v pos) env) aQ Kr Kc X:=Y (exec_Assign ..) (Y (af4 ..) (U.gT (cc (cs ((bL dO)▸(E.yT h fun we aB bj bN d bX I r q=>Y aG (cc (cs (k we aB bj bN d bX r q)))))))))
theorem af8 (aD:db g c n)(E:bz g A c.lv O N s env sc loc hp)(av:pP v=ab)(bE:gD (b4 sc) (.Tuple dB j p)=B is)(h:bT c n (b1 bA k sc v) X loc hp (yV is loc aQ)):
  UF g A O N s env sc (jc (.Assign [.Tuple dB j p] v pos) env) aQ Kr Kc X:=
 MF (af6 av) E (aD.e E h) fun v aB bj bN d bX r q=>U8 bX (Gk bE) r q
theorem af9 (aD:db g c n)(E:bz g A c.lv O N s env sc loc hp)(B3:is.Nodup)(bq:i0 es=af)(ME:(es.all (JK 8)||!es.all (JG 8))=af)(bE:gD (b4 sc) (.Tuple dB j p)=B is)(h:j7 c n (fT bA k sc es) X loc hp fun ds hp=>ds.length≤1000∧(ds.length=is.length∧aQ (j6 is ds loc) hp)):
  UF g A O N s env sc (jc (.Assign [.Tuple dB j p] (.Tuple es j2 p2) pos) env) aQ Kr Kc X:=by
 have cP:=Ua (j:=j2) (pos:=p2) (K:=yV is loc aQ) aD E bq h
 rcases af3 (env:=env) (j:=j) (j2:=j2) (p:=p) (p2:=p2) ME (Gk bE)with hw|⟨names,hw, -,aw,b0⟩
 ·exact MF hw E cP fun v aB bj bN d bX r q=>U8 bX (Gk bE) r q
 ·exact MF hw E cP fun v aB bj bN d bX r q=>af7 bX b0 (aw.trans (v3 (Gk bE)).symm) B3 r q
theorem aga (aD:db g c n)(E:bz g A c.lv O N s env sc loc hp)(h:bT c n (b1 bA k sc v) X loc hp fun x hp=>bT c n (b1 bA k sc o) X loc hp fun a hp=>bT c n (b1 bA k sc i) X loc hp fun kd hp=>tT a kd x hp (aQ loc)):UF g A O N s env sc (jc (.Assign [.Subscript o i p] v pos) env) aQ Kr Kc X:=Y (exec_Assign_Subscript o i p v pos af5) (U.gT (E.yT (aD.e E h) fun we aB bj bN x bX oP r h=>cc (bX.MC (fi (aD.e bX h)) (fun I I=>.jh bX) fun lL c6 fk il a dQ kI i1 iy h=>dQ.MC (fi (aD.e dQ h)) (fun I I q=>.jh bX (q.jG iy)) fun m4 c4 hb k5 kd fy v2 sx gJ h=>nA (cc (fi (bK.of (afX (K:=aQ loc) fy.H (v2.v i1) sx (v2.v (kI.v r)) h fun pX LJ LK nY kK q=>Sy (cs (.mk (b:=.cv loc) (((iy.eJ gJ).eJ nY).jh bX.H bX.F.dS) (fy.f3 nY kK).H (.cv (fy.f3 nY kK).F) q)))))))))
end
abbrev agb (g:ci)(c:e9)(n:ah):Prop:=∀{k st sc env X loc hp aQ Kr Kc A O N s},bz g A c.lv O N s env sc loc hp→f6 c n (Bb bA k sc st) X loc hp aQ Kr Kc→UF g A O N s env sc (jc st env) aQ Kr Kc X
structure wf (g:ci)(c:e9)(n:ah):Prop where
 s:agb g c n
 ss:∀{k ss sc env X loc hp aQ Kr Kc A O N s},bz g A c.lv O N s env sc loc hp→dX c n (kF bA k sc ss) X loc hp aQ Kr Kc→UF g A O N s env sc (pw ss env) aQ Kr Kc X
section
variable {g:ci}{A:dc}{O N bw:J aC}{s ar:a3}{n k c2 oV:ah}{env:eo}{sc:dU}
theorem agc (aD:db g c n)(S:wf g c n)(E:bz g A c.lv O N s env sc loc hp)(h:jl c n (m2 bA k sc t) X loc hp fun v hp=>ei v (dX c n (kF bA k sc b) X loc hp aQ Kr Kc) (dX c n (kF bA k sc o) X loc hp aQ Kr Kc)):UF g A O N s env sc (jc (.If t b o pos) env) aQ Kr Kc X:=
 U.gT (E.yT (aD.b E h) fun v aB bj bN yC bX I e h=>by subst e;exact Bs h (S.ss bX) fun I=>S.ss bX)
theorem agd (h:dX c n [.ez] X loc hp aQ Kr Kc):bt:=by
 induction n with
 |zero=>exact h
 |succ n=>induction n<;>exact h
theorem age (S:wf g c n)(E:bz g A c.lv O N s env sc loc hp)(h:dX c (n+1) (kF bA k sc ss) X loc hp aQ Kr Kc):UF g A O N s env sc (pw ss env) aQ Kr Kc X:=by
 cases k with
 |zero=>exact(agd h).elim
 |succ k=>
  induction ss with
  |nil=>exact UF.Bz E h
  |cons st r=>
   refine cc ((S.s E h).jH (fun f ar bw bq b st H q kk=>?_) fun I I q=>q)
   induction q with
   |cv F=>exact ew (S.ss (E.qY st H F) kk) (fun I I=>.jG st) fun I I=>.jG st
   |co F=>exact cs (.mk (b:=.co _) st H (.co F) kk)
   |k8 r=>exact cs (.mk (b:=.k8 _) st H (.k8 r) kk)
theorem U9 (hc:g6 M A cd (fun r ar=>match r with| .ok f=>Q f ar| .error e=>bt) s):bK M A (runOwn cd env ab) Q E s:=by
 unfold runOwn
 exact r7 (KQ (Sz hc fun r ar q=>by induction r;exact q.elim;exact q) fun x=>nn x)
inductive Va (g:ci)(A:dc)(n:ah)(O N:J aC)(s:a3)(env:eo)(sc:dU)(L:ah→cD→J ap→Prop)(m:ah)(ar:a3):Prop
 |mk {bw:J aC}{hL:cD}{bq:J ap}(st:b9 A (dG env) N s bw ar)(e:bz g A n O bw ar env sc hL bq)(k:L m hL bq):Va g A n O N s env sc L m ar
theorem agf (aD:db g c n)(S:wf g c n)(E:bz g A c.lv O N s env sc loc hp)(h:∃m,md (fun loc hp K=>jl c n (m2 bA k sc t) (fun I=>bt) loc hp K) (fun loc hp aQ=>dX c n (kF bA k sc b) (fun I=>bt) loc hp aQ Kr aQ) m loc hp aQ):UF g A O N s env sc (jc (.While t b [] pos) env) aQ Kr Kc X:=by
 refine h.elim fun m h=>?_
 refine U.gT (U9 (SA rfl rfl (Va g A c.lv O N s env sc fun m loc hp=>md (fun loc hp K=>jl c n (m2 bA k sc t) (fun I=>bt) loc hp K) (fun loc hp aQ=>dX c n (kF bA k sc b) (fun I=>bt) loc hp aQ Kr aQ) m loc hp aQ) (fun m ar x=>?_) m (.mk .iX E h)))
 induction x with|@mk bw hL bq ec mP h=>
 refine r7 (ew (E:=fun I I=>bt) ?_ (fun I I q=>q) fun I I f=>f.elim)
 induction m with
 |zero=>exact h.elim
 |succ m=>
  refine mP.MC (aD.b mP h) (fun I I x=>by induction x with|mk _ _ _ f=>exact f) fun v aB bj bN yC bX I e st h=>?_
  subst e
  have Gl:=ec.eJ (st.jh mP.H mP.F.dS)
  refine Bs h (fun h=>?_) fun I h=>?_
  ·refine cc ((S.ss bX h).jH (fun f c6 fk il b B4 kc q kk=>?_) fun I I x=>by induction x with|mk _ _ _ f=>exact f)
   induction q with
   |cv F=>exact cs (.inl ⟨rfl,m,rP _,.mk (Gl.eJ B4) (bX.qY B4 kc F) kk⟩)
   |co F=>exact cs (.inl ⟨rfl,m,rP _,.mk (Gl.eJ B4) (bX.qY B4 kc F) kk⟩)
   |k8 r=>exact cs (.mk (b:=.k8 _) (Gl.eJ B4) kc (.k8 r) kk)
  ·exact cc (cs (cs (.mk (b:=.cv _) Gl bX.H (.cv bX.F) h)))
end
inductive Vb (g:ci)(O:J aC)(Kr:a0):tG→a3→J aC→Prop
 |mk {v:au}{d:D}{s:a3}{N:J aC}{hp:J ap}(H:aR g s.heap N O hp)(r:aE g s.heap N O d v)(k:Kr d hp):Vb g O Kr (.ret v) s N
abbrev Gm (c:e9)(n k:ah)(sc:dU)(b:J gQ)(is:J ah)(Kr:a0):D→cD→J ap→fL→Prop:=fun d loc hp aQ=>hI is d loc fun loc=>dX c n (kF bA k sc b) (fun I=>bt) loc hp aQ Kr aQ
theorem agg (W:ft g c)(aD:db g c n)(S:wf g c (n+1))(E:bz g A c.lv O N s env sc loc hp)(bE:gD (b4 sc) t=B is)(h:mX c (n+1) (j8 bA k sc t it) X loc hp fun ds hp=>gk (Gm c (n+1) k sc b is Kr) ds loc hp aQ):UF g A O N s env sc (jc (.For t it b [] pos) env) aQ Kr Kc X:=by
 refine U.gT (cc (ew (Uo W aD E h) (fun x aB hx=>?_) fun I I=>.jh E))
 refine cc (KP (Up h x) (nA (cc (fi (.of (hx _ _ fun c0 aS c6 fk il St ds agh iy kc Mj v9 hk UP=>?_))))))
 have lN:=fun {a:aC} (m:a∈aS)=>E.Mf (v9 a m)
 have drop:∀{bw ar aj tk},b9 A (aS++dG env) fk c6 bw ar→k7 aS ar.heap aj→b9 A (dG env) N s bw {ar with heap:=aj,toks:=tk}:=fun ec out=>(iy.jh E.H E.F.dS).yQ ec (BD v9) (fun I=>ho _) v9 out
 refine U9 (UE (pp:=t.pos) (cv:=(tE c0).onRaise fun I=>ku {t.pos with line:=0}) (Ja:=dG env) (Jb:=dG env) (rest:=pw b env>>=fun f=>match f with| .next| .cont=>pv (.forLoop t c0 b [] env)| .brk=>bV (.done .next)| .ret v=>bV (.done (.ret v)))
  (f:=fun r=>match r with|none=>pv (.block [] env)|some v=>vm t c0 v>>=fun I=>tF t env v>>=fun I=>pw b env>>=fun f=>match f with| .next| .cont=>pv (.forLoop t c0 b [] env)| .brk=>bV (.done .next)| .ret v=>bV (.done (.ret v)))
  (Inv:=fun ds s N loc hp=>gk (Gm c (n+1) k sc b is Kr) ds loc hp aQ) (Dn:=Vb g (aS++O) Kr) agh
  ⟨fun a m=>mE _ m,fun a m=>(lN m).2.1,fun a m=>(lN m).2.1,fun a m=>(lN m).1,fun a m=>ho _ (E.F.dS a m)⟩ (fun I m=>m) (E.Gd iy kc (fun a m=>ho _ m) (BD v9)) Mj rfl rfl rfl rfl (fun h=>r7 (ew h (fun I I q=>q) fun I I f=>f.elim)) (fun I=>rfl) bE (fun I I I I a m=>.inl m) hk
  (fun aB bj bN mq aj tk ec bX m4 out=>?_) (fun aB bj f ec q=>?_) fun {d ds aB bj bN mq} bX m4=>hI.pJ (K:=fun loc=>dX c (n+1) (kF bA k sc b) (fun I=>bt) loc bN (gk (Gm c (n+1) k sc b is Kr) ds · · aQ) Kr (gk (Gm c (n+1) k sc b is Kr) ds · · aQ)) m4 fun q6 hk c4 uh fy=>?_)
 ·have qZ:=E.yQ (tk:=tk) (drop ec out) bX (fun a m=>(lN m).2.2) out
  refine cs ⟨rfl,qI rfl ?_⟩
  exact cc (r7 (cs (cs (.mk (b:=.cv mq) (drop ec out) qZ.H (.cv qZ.F) m4))))
 ·cases q with|mk H r k=>
  have o0:k7 aS aB.heap aB.heap:=fun I I I e=>e
  exact .mk (b:=.k8 _) (drop (tk:=aB.toks) ec o0) (H.Uh (fun a m=>(lN m).2.2) o0) (.k8 ((cz.oR (fun I=>ho _) (fun I=>mE _) o0).v r)) k
 ·refine cc ((S.ss fy hk).jH (fun f pX LJ LK b nV kK q kk=>?_) fun I I x=>by induction x with|mk _ _ _ f=>exact f)
  induction q with
  |cv F=>exact cs (.F9 nV (fy.qY nV kK F) kk)
  |co F=>exact cs (.F9 nV (fy.qY nV kK F) kk)
  |k8 r=>exact cs (.jj nV (.mk kK r kk))
abbrev agi (h₀:b8)(fw:J aC)(h:b8)(aj:b8):Prop:=∀b o,h.get? b=B o→cv o∨(∃Gn,h₀.get? b=B Gn)→b∉fw→aj.get? b=B o
structure rd (h₀:b8)(fw:J aC)(h aj:b8)(x:au):Prop where
 cw:agi h₀ fw h aj
 fr:∀b o,b∈fw→h.get? b=B o→∃ch,aj.get? b=B {o with slots:=ch}
 ey:∀b o,h.get? b=B o→∃o',aj.get? b=B o'
 ex:nG h₀ aj x
theorem MG:∀{l:J eo},(∀env∈l,vM h env)→h.FunFrames ({}:b8) l
 | [],_=>cy
 |env::r,F=>(F env (.head _)).2.elim fun L z=>z.elim fun o z=>⟨(F env (.head _)).1,⟨L,o,z.1,rfl,z.2.1,z.2.2⟩,MG fun e m=>F e (.tail _ m)⟩
theorem Go (jP:A.frames=B l):fH A=l.filterMap (·.frame):=by unfold fH;refine jP▸?_;rfl
theorem MH (jP:A.frames=B l)(aw:∀env∈l,vM h env)(m:b∈fH A):∃o,h.get? b=B o∧jF o:=by
 rw[Go jP] at m
 exact((MG aw).mem m).2
theorem agj (um:Heap.SlotsOnly (fH A) h cM)(hy:∀b∈fH A,∃o,h.get? b=B o∧jF o)(yW:∀b o,h₀.get? b=B o→∃o',h.get? b=B o')(cP:h.get? e=B mT)(rf:h₀.get? e=ab)(hc:mT.cls=.ref 46)(hd:mT.data=.fields vs)(pY:vs[0]?=B r9)(hK:1 < vs.size)(agk:oT.cls=.type "traceback")(Vc:oT.data=.fields dB)(agl:3 < dB.size)(agm:oT.isFreed=ae){Q:b8→Prop}(q:∀aj,rd h₀ (fH A) h aj (.ref e)→Q aj):(cM.push oT).get? e=B mT∧∀fR,fR=(cM.push oT).update e (ov (·.setIfInBounds 1 (hr cM.objs.size)))→fR.get? e=B (mT.mapFields (·.setIfInBounds 1 (hr cM.objs.size)))∧fR.get? cM.objs.size=B oT∧Q (fR.update cM.objs.size (ov (·.setIfInBounds 3 iU))):=by
 have Vd:e∉fH A:=fun bZ=>(hy e bZ).elim fun o z=>z.2 vs (bo (cP.symm.trans z.1)▸hd)
 have Ve:cM.get? e=B mT:=(um.2.1 e Vd).trans cP
 have Vf:=lx (h:=cM) oT Ve
 refine⟨Vf,fun fR aN=>?_⟩
 have sI:cM.objs.size≠e:=xE (py Ve)
 have Vg:=vx hd (·.setIfInBounds 1 (hr cM.objs.size))
 have Gp:=x1 (ov (·.setIfInBounds 1 (hr cM.objs.size))) Vf (E1 Vg)
 have MI:=(AH (cM.push oT) (ov (·.setIfInBounds 1 (hr cM.objs.size))) (rR sI)).trans (ic cM agm)
 rw[←aN] at Gp MI
 refine⟨Gp,MI,q _ ?_⟩
 generalize dK:fR.update cM.objs.size (ov (·.setIfInBounds 3 iU))=vZ
 have fP:∀b,cM.objs.size≠b→vZ.get? b=fR.get? b:=fun b n=>dK▸AH _ _ n
 have keep:∀b o,b≠e→cM.get? b=B o→vZ.get? b=B o:=fun b o Gq ay=>by
  refine Y (fP b (xE (py ay))) (Y aN (Y (AH _ _ (rR Gq)) ?_))
  exact lx _ ay
 have agn:h.get? cM.objs.size=ab:=Y um.1 (hZ _)
 refine⟨fun b o ay aA ago=>keep b o (fun q=>?_) ((um.2.1 b ago).trans ay),fun b o bZ ay=>(um.2.2 b o ay).imp fun ch aG=>keep b _ (fun q=>Vd (q▸bZ)) aG,fun b o ay=>?_,?_⟩
 ·cases bo (cP.symm.trans (q▸ay))
  exact aA.elim (fun z=>z.elim (fun z=>z vs hd) fun z=>nomatch hc.symm.trans z) fun eb=>eb.elim fun Gn z=>fb rf (q▸z)
 ·by_cases Gq:b=e
  ·exact⟨_,Gq▸(fP e sI).trans Gp⟩
  ·exact(um.2.2 b o ay).elim fun ch aG=>⟨_,keep b _ Gq aG⟩
 ·exact .mk rf ((fP e sI).trans Gp) ((Km _ _).trans hc) Vg (by refine Y (Array.getElem?_setIfInBounds_ne (by decide)) ?_;exact pY) (Y DI (Y (b3 hK) rfl))
   (.bb (pI yW agn) sI (dK▸x1 _ MI (E1 (vx Vc _))) (vx Vc _) (by exact Y DI (Y (b3 agl) rfl)) ((Km _ _).trans agk))
theorem Vh (jP:A.frames=B (env::outer))(aw:∀x∈env::outer,vM s.heap x)(hf:env.frame=B L)(yW:∀b o,h₀.get? b=B o→∃o',s.heap.get? b=B o')(cP:s.heap.get? e=B mT)(rf:h₀.get? e=ab)(hc:mT.cls=.ref 46)(hd:mT.data=.fields vs)(pY:vs[0]?=B r9)(hK:1 < vs.size)(h:∀aj,rd h₀ (fH A) s.heap aj (.ref e)→Q () {s with heap:=aj}):
  bM M A (do let a←frameOf env;let c5←entryPlaceOf L aqn;let b←RT head a .none (l6 L) .none c5;setField (.ref e) 1 b) (fun I ar=>bM M A (xP (.ref e) ab) Q E ar) E s:=by
 refine aX (wpAny_frameOf_fun jP (MG aw) hf fun cM um=>aX (wpAny_entryPlaceOf fun c5 Vi=>?_))
 rw[←Go jP] at um
 unfold RT newFields
 refine aX (pn ?_ (Vi.sizeOk5 _ _ _ _ _))
 generalize di:({cls:=.type "traceback",dict:=ab,data:=.fields ([head,.ref L,.none,l6 L,.none]++(if c5.isEmpty then qw 6 iU else c5)).toArray}:ee)=oT
 have p:=agj (oT:=oT) um (fun b m=>MH jP aw m) yW cP rf hc hd pY hK (cN di rfl) (cN di rfl) (Y dD (kt 4 _)) (by refine cN di ?_;rfl) (Q:=fun aj=>Q () {s with heap:=aj}) h
 refine Ey p.1 hd hK ?_
 unfold xP
 refine aX (rU (p.2 _ rfl).1 (vx hd _) (x:=.ref cM.objs.size) (Y DI (Y (b3 hK) rfl)) ?_)
 exact Y (b3 (show(hr cM.objs.size !=iU)=af from rfl)) (Ey (p.2 _ rfl).2.1 (cN di rfl) (Y dD (kt 4 _)) (p.2 _ rfl).2.2)
theorem agp (jP:A.frames=B (env::outer))(aw:∀x∈env::outer,vM s.heap x)(hf:env.frame=B L)(yW:∀b o,h₀.get? b=B o→∃o',s.heap.get? b=B o')(hx:nG h₀ s.heap x)(h:∀aj,rd h₀ (fH A) s.heap aj x→Q () {s with heap:=aj}):bM M A (qA env x) Q E s:=by
 induction hx with|@mk e mT vs r9 t rf cP hc hd pY aY bE=>
 have hK:=(Iz.mp aY).1
 unfold qA Az
 refine Y hf ?_
 refine aX (aX (rU cP hd aY ?_))
 induction bE with
 |no=>
  exact Y (bL (show ¬ (iU !=iU)=af from dO)) (Vh jP aw hf yW cP rf hc hd pY hK h)
 |@bb T oT dB Gr sI di p8 cu Gs=>
  refine Y (b3 (show(hr T !=iU)=af from rfl)) ?_
  refine aX (rU di p8 cu ?_)
  refine Y (bL (show ¬ ((iU==l6 L)=af) from dO)) ?_
  refine aX (Ey di p8 (Iz.mp cu).1 ?_)
  have other:∀b,b≠T→(s.heap.update T (ov (·.setIfInBounds 3 iU))).get? b=s.heap.get? b:=fun b ay=>AH _ _ (rR ay)
  have Gu:=x1 (ov (·.setIfInBounds 3 iU)) di (E1 (vx p8 _))
  generalize s.heap.update T (ov (·.setIfInBounds 3 iU))=H at *
  have Vj:∀b o,s.heap.get? b=B o→jF o→b≠T:=fun b o ay aA q=>aA dB (bo (di.symm.trans (q▸ay))▸p8)
  have lv:∀b o,s.heap.get? b=B o→∃o',H.get? b=B o':=fun b o ay=>by
   by_cases q:b=T
   ·exact Y q (⟨_,Gu⟩)
   ·exact⟨o,(other b q).trans ay⟩
  refine Vh (s:={s with heap:=H}) jP (fun env cP=>⟨(aw env cP).1,(aw env cP).2.imp fun Vk=>gb fun o z=>⟨z.1,(other Vk (Vj Vk o z.2.1 z.2.2)).trans z.2.1,z.2.2⟩⟩) hf (fun b o e=>(yW b o e).elim (lv b)) ((other e (rR sI)).trans cP) rf hc hd pY hK fun aj l=>
   h aj ⟨fun b o ay aA hy=>l.cw b o ((other b fun q=>?_).trans ay) aA hy,fun b o bZ ay=>l.fr b o bZ ((other b ?_).trans ay),fun b o ay=>(lv b o ay).elim (l.ey b),l.ex⟩
  ·cases bo (di.symm.trans (q▸ay))
   exact aA.elim (fun z=>z.elim (fun z=>z dB p8) fun z=>nomatch Gs.symm.trans z) fun eb=>eb.elim fun I z=>fb Gr (q▸z)
  ·exact(MH jP aw bZ).elim fun o z=>Vj b o z.1 z.2
theorem rd.dr (L:rd h₀ (fH A) h aj x)(hy:∀a∈fH A,a∈O):hG cv N O N O h aj fun I=>g4:=
 ⟨fun I n=>n,fun b o n e f=>L.cw b o e (.inl n) fun m=>f.n (hy b m),fun I I I I o=>o,fun I I I e=>e⟩
theorem aR.Gv (H:aR g h N O hp)(L:rd h₀ (fH A) h aj x)(hy:∀a∈fH A,a∈O)(agq:∀b o,g.b.get? b=B o→∃o',h₀.get? b=B o'):aR g aj N O hp:=
 H.to (L.dr hy) (fun b o e cO q=>L.cw b cO q (.inr (agq b o e)) fun m=>fb (H.gi b (hy b m)).1 e) H.bY H.lo (fun p m=>⟨(H.gi p m).1,(H.gi p m).2.elim (L.ey p)⟩) H.bJ
  fun i p o aT aN=>(H.pG i p o aT aN).SG (L.dr hy) fun cO n e=>L.cw p cO e (.inl n) fun m=>(H.lo p (gZ aT)).2 (hy p m)
theorem Vl (h:bK (bB prog w) (A.deeper env) (pw body env) (fun f ar=>R (.ok (.ret (match f with| .ret v=>v|_=>.none))) ar)
   (fun e ar=>bK (bB prog w) (A.deeper env) (qA env e) (fun I iv=>R (.error e) iv) (fun cR iv=>R (.error cR) iv) ar) s):g6 (bB prog w) A (.func body env) R s:=
 qI rfl (cc (KN (cc (r7 (ew h (fun f ar aj=>by induction f<;>exact cs aj) fun I I aj=>aj)))))
theorem agr (h:bK (bB prog w) (A.deeper env) (eval e env) (fun v ar=>R (.ok (.ret v)) ar)
   (fun e ar=>bK (bB prog w) (A.deeper env) (qA env e) (fun I iv=>R (.error e) iv) (fun cR iv=>R (.error cR) iv) ar) s):g6 (bB prog w) A (.expr e env) R s:=
 qI rfl (cc (KN (cc (r7 (ew h (fun f ar aj=>cs aj) fun I I aj=>aj)))))
inductive Gw:JZ→(eo→qD)→Prop
 |st (b:J gQ):Gw (.stmts b) (.func b)
 |ex (e:b7):Gw (.expr e) (.expr e)
theorem Vm (MJ:A.depth < mJ)(bC:s.heap.get? a=B o)(jO:o.data=.func fd)(yX:fd.scope.isCoroutine=ae)(MK:fd.scope.isGenerator=ae)(ug:Gw fd.body cd)(tK:s.heap.CodeRec fd.code q)(h:bM (bB prog w) A.in1 (xT fd args) (fun binds aB=>
   bM (bB prog w) A.in1 (JI fd.scope fd.globals fd.closure binds (q++".<locals>.") (B a) fd.code ab fd.builtins)
    (fun env c6=>c6.heap.NoLimit∧g6 (bB prog w) A (cd env) R c6) (fun e ar=>R (.error e) ar) aB) (fun e ar=>R (.error e) ar) s):
  g6 (bB prog w) A (.call (.ref a) args) R s:=by
 refine qI rfl ?_
 show bK _ A.in1 (callAny (.ref a) args) _ _ s
 refine d1 (m:=load a) (rX bC ?_)
 refine Y jO ?_
 show bK _ _ (callFunction a fd args) _ _ _
 obtain⟨c,iA,vs,cN,hc,uo,uq,Ge⟩:=tK
 rw[hc] at h
 have go:∀{dh:eo→qD},(∀e,(dh e).quiet=af∧dh e=cd e)→bK (bB prog w) A.in1 (xT fd args>>=fun binds=>JI fd.scope fd.globals fd.closure binds (q++".<locals>.") (B a) (.ref c) ab fd.builtins>>=fun env=>enterFrame>>=fun I=>pv (dh env))
   (fun fin ar=>match fin with| .done f=>R (.ok f) ar| .again dh=>dh.quiet=af∧g6 (bB prog w) A dh R ar) (fun e ar=>R (.error e) ar) s:=fun {dh} bH=>
  d1 (ou h (fun binds aB cM=>d1 (ou cM (fun env c6 fR=>cc (.of (wpAny_enterFrame fR.1 MJ (cs ⟨(bH env).1,(bH env).2▸fR.2⟩)))) fun I I aj=>aj)) fun I I aj=>aj)
 unfold callFunction
 refine Y yX (Y MK (Y hc ?_))
 generalize fd.body=ur at ug
 induction ug with
 |st b=>exact cc (m:=field (.ref c) 1) (.of (rU uo uq Ge (cc (cs (go fun e=>⟨rfl,rfl⟩)))))
 |ex b=>exact cc (m:=field (.ref c) 1) (.of (rU uo uq Ge (cc (cs (go fun e=>⟨rfl,rfl⟩)))))
noncomputable def Vn (sc:dU)(aI:J aO):aZ:=sc.kind==.function&&a9 (sc.names.map (·.1)).Nodup&&(sc.names.all fun x=>x.1 !=t8&&x.1 !=("__classdict__":aO)&&x.2 !=.free&&x.1 !=(".0":aO))&&(!sc.isGenerator&&!sc.isCoroutine)&&a9 ((b4 sc).take aI.length=aI)
abbrev ags (sc:dU):Prop:=∀x k,(x,k)∈sc.names→((x==t8)=ae∧(x==("__classdict__":aO))=ae)∧k≠.free
structure Gx (sc:dU)(aI:J aO):Prop where
 bk:sc.kind=.function
 bY:(sc.names.map (·.1)).Nodup
 nm:ags sc
 Gy:sc.isGenerator=ae
 co:sc.isCoroutine=ae
 aI:(b4 sc).take aI.length=aI
theorem Gx.of {aI:J aO}(h:Vn sc aI=af):Gx sc aI:=by
 have a:=fun {x y:aZ} (h:(x&&y)=af)=>ct.mp h
 have n:=fun {x:aZ} (h:(!x)=af)=>(l2.mp h:x=ae)
 have cu:=a (a (a h).1).1
 have g:=a (a (a h).1).2
 refine⟨c9 (a cu.1).1,dg (a cu.1).2,fun x k m=>?_,n g.1,n g.2,dg (a h).2⟩
 have q:=a (a (gy.mp cu.2 _ m)).1
 exact⟨⟨n (a q.1).1,n (a q.1).2⟩,fun e=>cr (e▸q.2:(pz !=pz)=af) dO⟩
noncomputable def ut (ds:J D)(k:ah):cD:=ds.map B++qw k ab
theorem Vo:∀{names:yL} {k:ah} {acc:J (aO×aC)},(vr k names acc).map (·.1)=((names.filter fun x=>x.2==.cell).map (·.1)).reverse++acc.map (·.1):=by
 intro names
 induction names with
 |nil=>exact rfl
 |cons p r az=>
  intro k acc
  show(if(p.2==.cell)=af then vr (k+1) r ((p.1,k)::acc)else vr k r acc).map _=((List.filter _ (p::r)).map _).reverse++_
  rw[om]
  induction(p.2==r0)with
  |false=>exact az
  |true=>exact az.trans (by rw[b3 rfl,h8,h8,xu,dE];rfl)
theorem agt (aA:(names.map (·.1)).Nodup):((vr k names []).map (·.1)).Nodup:=Y (Vo ..) (Y (Jd ..) (Y (en ..) (List.pairwise_reverse.mpr ((aA.sublist ((Qh (l:=names) (p:=fun x=>x.2==.cell)).map (·.1))).imp fun h=>rR h))))
theorem Vp (m:(x,r0)∈names):∃c,(vr k names []).lookup x=B c:=by
 have h:x∈(vr k names []).map (·.1):=by
  exact Y Vo (mE _ (I1.mpr (h9.mpr ⟨_,tq.mpr ⟨m,rfl⟩,rfl⟩)))
 obtain⟨⟨y,c⟩,ff,e⟩:=h9.mp h
 exact cN e (Ut ff)
theorem agu {names:J (aO×aC)}(aA:(names.map (·.1)).Nodup)(h:(x,k)∈names):names.lookup x=B k:=by
 induction names with
 |nil=>exact dz h
 |cons y r az=>
  have aA:=mG.mp aA
  refine Y qv ?_
  refine(cV.mp h).elim (fun e=>?_) fun m=>?_
  ·exact cN e (Y (ie ..) rfl)
  ·exact Y (jY.mpr fun q=>aA.1 (h9.mpr ⟨_,m,q⟩)) (az aA.2 m)
theorem Vq {f:J (aO×au)→(aO→ax au)→aO→ax au}(h0:∀m,f [] m=m)(aG:∀n v r m,∃ff,f ((n,v)::r) m=f r ff∧(∀y,y≠n→ff y=m y)∧(n=x→ff n=B v)):
  ∀{aI:J aO} {us:J au} {m:aO→ax au},(x∉aI→f (aI.zip us) m x=m x)∧∀{j:ah} {v:au},aI.Nodup→aI[j]?=B x→us[j]?=B v→f (aI.zip us) m x=B v:=by
 intro aI
 induction aI with
 |nil=>exact fun {us m}=>⟨fun I=>KA (h0 m) x,fun I e=>nn e⟩
 |cons p aI az=>
  intro us m
  induction us with
  |nil=>exact⟨fun I=>KA (h0 m) x,fun I I e=>nn e⟩
  |cons u us=>
   refine(aG p u (aI.zip us) m).elim fun ff cj=>cj.elim fun e d3=>d3.elim fun aY bu=>?_
   refine Y Ec (Y e ?_)
   refine⟨fun q=>(az.1 fun z=>q (.tail _ z)).trans (aY x fun z=>q (z▸.head _)),fun {j v} bY aT aN=>?_⟩
   have bY:=mG.mp bY
   induction j with
   |zero=>
    have aT:p=x:=bo aT
    exact(az.1 (aT▸bY.1)).trans (aT▸(bu aT).trans aN)
   |succ j=>exact az.2 bY.2 aT aN
section
variable {s aB:a3}{v:au}{aI:J aO}{us:J au}{j:ah}{K:aO→ax xS}
theorem agv (hx:K x=B .local)(bY:aI.Nodup)(aT:aI[j]?=B x)(aN:us[j]?=B v):bindL K (aI.zip us) m x=B v:=by
 refine(Vq (f:=bindL K) (fun I=>rfl) fun n v r m=>⟨_,rfl,fun y tV=>?_,fun e=>?_⟩).2 bY aT aN
 ·split
  ·exact bL tV
  ·rfl
 ·exact(b3 (e▸hx))▸(b3 rfl)
theorem agw (hx:K x≠B .local)(bY:aI.Nodup)(aT:aI[j]?=B x)(aN:us[j]?=B v):bindC K (aI.zip us) m x=B v:=by
 refine(Vq (f:=bindC K) (fun I=>rfl) fun n v r m=>⟨_,rfl,fun y tV=>?_,fun e=>?_⟩).2 bY aT aN
 ·split
  ·rfl
  ·exact bL tV
 ·exact(bL (e▸hx))▸(b3 rfl)
theorem Gz (m:x∈b4 sc):∃k,(x,k)∈sc.names∧(k=.local∨k=.cell∨k=.free):=by
 rw[yN []] at m
 obtain⟨p,iZ,rfl⟩:=h9.mp m
 refine(rM.mp iZ).elim fun q cj=>cj.elim fun v4 e=>?_
 exact⟨q.2,(BI e).1▸v4,(BI e).2.imp DH DH⟩
inductive ML (P:D→au→Prop)(us:J au)(n j:ah):ax D→Prop
 |no:ML P us n j ab
 |qQ {d:D}{v:au}(l:j < n)(e:us[j]?=B v)(r:P d v):ML P us n j (B d)
theorem Vr (aL:cp g s.heap N O ds us)(e:(ut ds k)[j]?=B o):ML (aE g s.heap N O) us ds.length j o:=by
 by_cases da:j < ds.length
 ·rw[ut,jC (by rw[cH];exact da),gP,hQ da] at e
  induction aL.fv (hQ da)with|mk aN r=>exact cN (bo e) (.qQ da aN r)
 ·rw[ut,Ab (by rw[cH];exact Am da)] at e
  cases(Qi.mp (gZ e)).2;exact .no
theorem agx (aG:Gx sc aI)(im:env.scope=sc)(yx:env.cells=ij)(Vs:ij=vr ck sc.names [])(aV:env.globals=i8)(agy:env.builtins=lu)(H:aR g s.heap N O hp)(aL:cp g s.heap N O ds us)(aw:ds.length=aI.length)(x:InCallC s env.locals (bindL env.kindOf (aI.zip us) fun I=>ab) ij (bindC env.kindOf (aI.zip us) fun I=>ab) aB):
  (f7 g aB.heap N (dG env++O) env (b4 sc) (ut ds ((b4 sc).length - aI.length))∧aR g aB.heap N (dG env++O) hp)∧∀a∈dG env,s.heap.get? a=ab:=by
 have keep:=x.toInCall.keep
 have hf:=x.toInCall.fresh
 have both:∀a∈dG env,s.heap.get? a=ab∧∃o,aB.heap.get? a=B o:=fun a m=>by
  refine(cV.mp m).elim (fun e=>?_) fun m=>?_
  ·exact Y e (⟨rZ hf,v8 x.toInCall.ns⟩)
  ·obtain⟨⟨y,c⟩,iZ,rfl⟩:=h9.mp m
   have iZ:=yx▸iZ
   exact⟨rZ (ir (e6 hf (x.above y c iZ))),(x.cell y c (agu (Vs▸agt aG.bY:(ij.map (·.1)).Nodup) iZ)).imp fun I=>DH⟩
 have fresh:=fun a m=>(both a m).1
 have M:cz N O N (dG env++O) s.heap aB.heap:=.nU keep fresh
 have Vt:aI.Nodup:=aG.aI▸(F7 aG.bY).sublist (List.take_sublist _ _)
 have Vi:aI.length≤(b4 sc).length:=by
  have:=bl tr aG.aI
  have this:=vg▸this;lia
 have cnt:∀{y},y∈b4 sc→env.kindOf y=B .local∨env.kindOf y=B .cell∧∃c,ij.lookup y=B c:=fun m=>by
  obtain⟨k,m,nX⟩:=Gz m
  rw[(fun y=>by rw[xZ,im]:∀y,env.kindOf y=sc.names.lookup y),BJ aG.bY m]
  rcases nX with rfl|rfl|rfl
  ·exact .inl rfl
  ·exact .inr ⟨rfl,Vs▸Vp m⟩
  ·exact cr rfl (aG.nm _ _ m).2
 refine⟨⟨⟨⟨by refine im▸?_;exact aG.bk,aV,agy,F7 aG.bY,fun y m=>(Gz m).elim fun k z=>(aG.nm _ _ z.1).1,fun y z c aT aN=>?_,fun y c e=>?_⟩,fun a m=>mE _ m,?_,fun j y o aT aN=>?_⟩,H.nU keep both⟩,fresh⟩
 ·rw[yx] at aT aN
  exact name_of_addr x.apart (qz aT) (qz aN)
 ·have e:=yx▸e
  exact xE (x.above y c (qz e))
 ·rw[ut,cG,cH,List.length_replicate,aw];lia
 ·have pre:j < ds.length→aI[j]?=B y:=fun da=>by refine aG.aI▸(List.getElem?_take_of_lt (aw▸da)).symm▸?_;exact aT
  rcases cnt (gZ aT)with k|⟨k,c,GA⟩
  ·refine⟨_,_,.aa k x.toInCall.ns,?_⟩
   induction(Vr aL aN)with
   |no=>exact .no
   |qQ l e r=>exact Y (agv k Vt (pre l) e) (.qQ (M.v r))
  ·refine⟨_,_,.mi (.inl k) (yx▸GA) (x.cell y c GA),?_⟩
   induction(Vr aL aN)with
   |no=>exact .no
   |qQ l e r=>exact Y (agw (fun z=>nomatch k.symm.trans z) Vt (pre l) e) (.qQ (M.v r))
end
inductive wg (n:ah)(hp:J ap):D→D→Prop
 |nD {d:D}(h:je (· < n) d):wg n hp d d
 |jQ {i:ah}{l:J D}(hi:n≤i)(e:hp[i]?=B (.br l))(h:kA (· < n) l):wg n hp (.bb i) (.aP l)
 |kg {i:ah}{l:J (bf×D)}(hi:n≤i)(e:hp[i]?=B (.bv l))(h:j1 (· < n) l):wg n hp (.bb i) (.a5 l)
inductive uu (n:ah)(hp:J ap):J (bf×D)→J (bf×D)→Prop
 |fj:uu n hp [] []
 |dN {k:bf}{d k3:D}{l aU:J (bf×D)}(h:wg n hp d k3)(r:uu n hp l aU):uu n hp ((k,d)::l) ((k,k3)::aU)
inductive MM (n:ah)(hp:J ap):ax ap→ax ap→ax ap→Prop
 |pH {o:ax ap}:MM n hp o o o
 |bv {o:ax ap}{l aU:J (bf×D)}(f:uu n hp l aU):MM n hp o (B (.bv l)) (B (.bv aU))
abbrev agz (mv:J ap)(hp:J ap)(bq:J ap):Prop:=∀i,i < mv.length→MM mv.length hp mv[i]? hp[i]? bq[i]?
structure MN (mv hp bq:J ap):Prop where
 bJ:bq.length=mv.length
 mY:agz mv hp bq
def kh (mv:J ap)(K:a0)(d:D)(hp:J ap):Prop:=K d hp∨∃k3 bq,wg mv.length hp d k3∧MN mv hp bq∧K k3 bq
def uv (mv:J ap)(X:J ap→Prop)(hp:J ap):Prop:=X hp∨∃bq,MN mv hp bq∧X bq
def Vu (G:ah→Prop):ap→Prop
 | .br l=>kA G l
 | .bv l=>j1 G l
 | .er _=>g4
theorem ht.nD:ht g h N O p o→Vu (· < N.length) o:=by
 induction o with
 |br l=>exact fun x=>by induction x with|mk _ r=>exact aE.nD.2.1 l _ r
 |bv l=>exact fun x=>by induction x with|mk _ r=>exact aE.nD.2.2 l _ r
 |er b=>exact fun I=>cy
theorem ht.hH (M:hG (fun I=>g4) bw cF N O h h G)(a:Vu G o):ht g h bw cF p o→ht g h N O p o:=by
 induction o with
 |br l=>exact fun x=>x.g8 (fun I I e=>e) fun I=>(aE.hT M).2.1 l a _
 |bv l=>exact fun x=>x.g8 (fun I I e=>e) fun I=>(aE.hT M).2.2 l a _
 |er b=>exact id
theorem hG.hH (kL:N <+:bw)(lP:∀a∈O,a∈cF):hG (fun I=>g4) bw cF N O h h (· < N.length):=
 ⟨fun I I=>cy,fun I I I e I=>e,fun I I I I o=>⟨fun m=>o.r (kL.sublist.subset m),fun m=>o.n (lP _ m),o.s⟩,fun i p hi e=>kL.elim fun t q=>by have e:=(jC hi)▸(q.symm▸e);exact e⟩
theorem aR.Vv (H:aR g h bw cF hp)(kL:N <+:bw)(lP:∀a∈O,a∈cF)(hi:N.length≤i)(e:bw[i]?=B p):hs N O p:=by
 have lo:=H.lo p (gZ e)
 refine⟨fun m=>?_,fun m=>lo.2 (lP p m),H.Fi lo.1⟩
 obtain⟨t,rfl⟩:=kL
 exact(List.mem_iff_getElem.mp m).elim fun j cj=>cj.elim fun da B0=>cr ((IZ (gc.mp e).1 H.bY).mp (e.trans ((jC da).trans ((hQ da).trans (bl B B0))).symm)) fun q=>cr da (mI.mpr (q▸hi))
theorem aE.GB (H:aR g h bw cF hp)(kL:N <+:bw)(lP:∀a∈O,a∈cF)(f:wg N.length hp d k3)(r:aE g h bw cF d v):aE g h N O k3 v:=by
 cases f with
 |nD a=>exact(aE.hT (hG.hH kL lP)).1 d a v r
 |@jQ i l hi e a=>exact(nN H e r).g8 fun p q w=>⟨H.Vv kL lP hi q.1,ht.hH (o:=.br l) (.hH kL lP) a w⟩
 |@kg i l hi e a=>exact(nN H e r).g8 fun p q w=>⟨H.Vv kL lP hi q.1,ht.hH (o:=.bv l) (.hH kL lP) a w⟩
theorem dA.GB (H:aR g h bw cF hp)(kL:N <+:bw)(lP:∀a∈O,a∈cF)(f:uu N.length hp l aU):∀{kvs:J (bf×au)},dA g h bw cF l kvs→dA g h N O aU kvs:=by
 induction f with
 |fj=>exact id
 |dN f _ az=>exact mQ.g8 (fun I=>vG.g8 fun I=>aE.GB H kL lP f) fun I=>az
theorem aR.Vw (wh:aR g h₀ N O mv)(H:aR g h bw cF hp)(kL:N <+:bw)(lP:∀a∈O,a∈cF)(L:MN mv hp bq):aR g h N O bq:=by
 have sub:=kL.sublist.subset
 refine H.to (.hH kL lP:hG (fun I=>g4) bw cF N O h h (· < N.length)) (fun I I I I e=>e) wh.bY (fun p m=>⟨(wh.lo p m).1,(wh.lo p m).2⟩) (fun p m=>H.gi p (lP p m)) (L.bJ.trans wh.bJ) fun i p o aT aN=>?_
 have z:=L.mY i (wh.bJ▸(gc.mp aT).1:i < mv.length)
 have cO:=fun o=>H.pG i p o (kL.elim fun t q=>q▸(jC (gc.mp aT).1).trans aT:bw[i]?=B p)
 have Vx:=fun o=>wh.pG i p o aT
 have z:=aN▸z
 generalize hp[i]?=u at z cO
 generalize mv[i]?=aqo at z Vx
 have z:=wh.bJ▸z
 cases z with
 |pH=>exact ht.hH (.hH kL lP:hG (fun I=>g4) bw cF N O h h (· < N.length)) (Vx o rfl).nD (cO o rfl)
 |bv f=>exact jd.g8 (cO _ rfl) (fun I I e=>e) fun I=>dA.GB H kL lP f
abbrev EntZ_rm (A:dc)(n:ah):Prop:=A.depth+1+20 *n+20 < mJ∧A.units+3+50 *n < 9000
structure gU (g:ci)(A:dc)(n:ah)(env:eo)(de O N:J aC)(s ar:a3)(hp:J ap):Prop where
 C:fc A 0 O s.heap
 wi:EntZ_rm A n
 H:aR g s.heap N O hp
 gV:vM ar.heap env
 io:∀L,env.frame=B L→L∈de
 sa:∀a∈de,s.heap.get? a=ab
 cw:∀b o,s.heap.get? b=B o→ar.heap.get? b=B o
 hv:ar.gens=s.gens∧ar.drawn=s.drawn∧ar.os=s.os
section
variable {de aS O N hb:J aC}{K:a0}
theorem fc.MO (C:fc A (n+1) O h):A.depth+1+20 *n+20 < mJ∧A.units+3+50 *n < 9000:=
 ⟨e6 (dR (pB (by decide)) 20) C.qM,e6 (pB (by decide)) C.un⟩
theorem gU.fH (E:gU g A n env de O N s ar hp):∃outer L,A.frames=B outer∧env.frame=B L∧fH (A.deeper env)=L::Internal.fH A:=by
 obtain⟨outer,jP, -⟩:=E.C.fr
 obtain⟨L,o,hf, -⟩:=E.gV.2
 refine⟨outer,L,jP,hf,?_⟩
 rw[Go (J0 jP),Go jP,vd,hf]
theorem gU.yY (E:gU g A n env de O N s ar hp):fc (A.deeper env) n (de++O) ar.heap:=by
 refine E.fH.elim fun outer cj=>cj.elim fun L d3=>d3.elim fun jP fW=>fW.elim fun hf hy=>?_
 refine E.C.fr.elim fun l cj=>cj.elim fun aw F=>?_
 refine⟨E.C.hd,E.wi.1,E.wi.2,⟨env::l,J0 aw,fun e m=>?_⟩,fun a m=>?_⟩
 ·refine(cV.mp m).elim (fun q=>?_) fun m=>?_
  ·exact Y q E.gV
  ·exact⟨(F e m).1,(F e m).2.imp fun L=>gb fun o z=>⟨z.1,E.cw _ _ z.2.1,z.2.2⟩⟩
 ·rw[hy] at m
  exact fE.mpr ((cV.mp m).imp (fun e:a=L=>e▸E.io L hf) (E.C.dS a))
theorem gU.aL (E:gU g A n env de O N s ar hp)(lv:∀a∈de,∃o,ar.heap.get? a=B o):aR g ar.heap N (de++O) hp:=E.H.nU E.cw fun a m=>⟨E.sa a m,lv a m⟩
theorem gU.f3 (E:gU g A n env de O N s ar hp)(ec:b9 (A.deeper env) aS N ar hb c4)(eh:∀a∈aS,a∈de)(k:∀b o,(∃Gn,s.heap.get? b=B Gn)→c4.heap.get? b=B o→qJ (Internal.fH (A.deeper env)) lM b o):b9 A [] N s hb {c4 with heap:=lM}:=by
 refine E.fH.elim fun outer cj=>cj.elim fun L d3=>d3.elim fun jP fW=>fW.elim fun hf hy=>?_
 have Vy:∀{b o},s.heap.get? b=B o→b∉de:=fun e m=>fb (E.sa _ m) e
 exact⟨⟨fun b o e=>(ec.e8.ey b o (E.cw b o e)).elim fun o' cR=>(k b o' ⟨o,e⟩ cR).elim fun ch z=>⟨_,z.1⟩,fun b o e eb I kJ=>((ec.e8.cw b o (E.cw b o e) eb (fun m=>Vy e (eh b m)) kJ).eJ (fun o' cR=>k b o' ⟨o,e⟩ cR) id).imp fun ch z=>⟨z.1,z.2.imp (fun m=>(cV.mp (hy▸m)).resolve_left fun q=>Vy e (q▸E.io L hf)) id⟩⟩,
  fun I m=>(dz m),ec.mS,(hu.iX _ _).eJ (fun b o e=>⟨o,E.cw b o e⟩) ec.e0,ec.hv.1.trans E.hv.1,ec.hv.2.1.trans E.hv.2.1,ec.hv.2.2.trans E.hv.2.2⟩
theorem b9.yw (st:b9 A [] N s hb c4):b9 A [] N s N c4:=⟨st.e8,fun I m=>(dz m),tm _,.iX _ _,st.hv⟩
theorem gU.bh:∀a∈O,a∈de++O:=fun a m=>ho _ m
theorem gU.bO (E:gU g A n env de O N s ar hp)(ec:b9 (A.deeper env) aS N ar hb c4)(eh:∀a∈aS,a∈de)(gs:aR g c4.heap hb (de++O) k5)(r:aE g c4.heap hb (de++O) d v)(q:kh hp K d k5):fe g A [] O N s (fun h N=>aE g h N O) K v c4:=by
 have st:b9 A [] N s hb c4:=E.f3 ec eh fun b o I e=>.qK e
 rcases q with kk|⟨k3,bq,f,L,kk⟩
 ·exact .mk st (gs.hH gU.bh) ((aE.hT (.hH (tm _) gU.bh)).1 d (aE.nD.1 d v r) v r) kk
 ·exact .mk st.yw (E.H.Vw gs ec.mS gU.bh L) (aE.GB gs ec.mS gU.bh (E.H.bJ▸f) r) kk
theorem gU.lv (E:gU g A n env de O N s ar hp)(jq:aR g ar.heap N (de++O) hp)(ec:b9 (A.deeper env) aS N ar hb c4)(eh:∀a∈aS,a∈de)(gs:aR g c4.heap hb (de++O) k5)(ex:nG ar.heap c4.heap x)(k:∀lM,b9 A [] N s hb {c4 with heap:=lM}→aR g lM hb (de++O) k5→nG s.heap lM x→(∀a∈Internal.fH (A.deeper env),∃o,lM.get? a=B o∧jF o)→Q () {c4 with heap:=lM}):bM M (A.deeper env) (qA env x) Q Ee c4:=by
 refine E.fH.elim fun outer cj=>cj.elim fun L d3=>d3.elim fun jP fW=>fW.elim fun hf hy=>?_
 have MP:=J0 (env:=env) jP
 have GC:∀x∈env::outer,vM c4.heap x:=by
  refine(E.yY.f3 jq ec).fr.elim fun uw cj=>cj.elim fun GC MQ=>?_
  exact bo (GC.symm.trans MP)▸MQ
 refine agp MP GC hf (fun b o e=>ec.e8.ey b o (E.cw b o e)) (ex.pJ fun b o e=>⟨o,E.cw b o e⟩) fun lM lQ=>k lM (E.f3 ec eh fun b o h0 e=>?_) (gs.Gv lQ E.yY.dS fun b o e=>E.H.KW e) lQ.ex fun a m=>(MH MP GC m).elim fun o z=>(lQ.fr a o m z.1).elim fun ch q=>⟨_,q,z.2⟩
 by_cases m:b∈Internal.fH (A.deeper env)
 ·exact(lQ.fr b o m e).imp fun ch z=>⟨z,.inl m⟩
 ·exact .qK (lQ.cw b o e (.inr h0) m)
theorem gU.MR (E:gU g A n env de O N s ar hp)(jq:aR g ar.heap N (de++O) hp)(ec:b9 (A.deeper env) aS N ar hb c4)(eh:∀a∈aS,a∈de)(gs:aR g c4.heap hb (de++O) k5)(ex:nG ar.heap c4.heap x)(q:uv hp X k5):bK M (A.deeper env) (qA env x) (fun I iv=>gR g A [] O N s X x iv) Ee c4:=
 .of (E.lv jq ec eh gs ex fun lM st kK yZ I=>by
  rcases q with kk|⟨bq,L,kk⟩
  ·exact .mk st (kK.hH gU.bh) yZ kk
  ·exact .mk st.yw (E.H.Vw kK ec.mS gU.bh L) yZ kk)
end
structure GD where
 sc:dU
 aI:J aO
 y0:J gQ
 fU:J D
noncomputable def m5 (aI:ah)(fU ds:J D):ax (J D):=if ds.length≤aI∧aI≤ds.length+fU.length then B (ds++fU.drop (fU.length+ds.length - aI))else ab
noncomputable def GD.k (F:GD):ah:=(b4 F.sc).length - F.aI.length
inductive MS (g:ci)(a:aC)(F:GD):Prop
 |mk {o:ee}{fd:i9}{ki:aC}{iA:ee}{sJ:dn au}{y1:dv}(sc:Gx F.sc F.aI)(bC:g.b.get? a=B o)(hd:o.data=.func fd)(na:a∉gh)(im:fd.scope=F.sc)(ay:fd.body=.stmts F.y0)(cL:fd.closure=[])(aV:fd.globals=i8)(Vz:fd.builtins=lu)
  (p9:gC F.sc kE=af→fd.code=.ref 425∨fd.code=.ref 456) (hc:fd.code=.ref ki) (uo:g.b.get? ki=B iA) (uq:iA.data=.fields sJ) (bH:sJ[1]?=B (.str fd.qualname y1)) (sK:ki∉gh)
  (bind:∀{A:dc} {s:a3} {O N:J aC} {hp:J ap} {vs:J au} {ds full:J D} {Q:J (aO×au)→a3→Prop} {E:au→a3→Prop},aR g s.heap N O hp→cp g s.heap N O ds vs→m5 F.aI.length F.fU ds=B full→
   (∀us,cp g s.heap N O full us→Q (F.aI.zip us) s)→bM (bB g.p g.w) A (xT fd ⟨vs,[]⟩) Q E s):MS g a F
def B5 (c:e9)(np k:ah)(fU:J D)(bd:J cT)(ds:J D)(hp:J ap)(K:a0)(X:J ap→Prop):Prop:=
 bF (m5 np fU ds) fun full=>dX c 60 bd (uv hp X) (ut full k) hp (fun I bq=>kh hp K .aK bq) (fun d bq=>kh hp K d bq) fun I I=>bt
section
variable {K:a0}
theorem MT (h:m5 np fU ds=B full):full.length=np:=by
 have z:=rS.mp h
 exact cN (bo z.2) (Y cG (Y xv (cN (Nat.sub_sub_right _ z.1.1) (Y (Nat.sub_sub_self (Nat.sub_le_of_le_add (fQ .. ▸z.1.2))) (Y (Nat.add_sub_cancel' z.1.1) rfl)))))
theorem agA (MU:MS g a F)(S:wf g c 60)(ux:g.b.NoLimit)(C:fc A (c.lv+1) O s.heap)(H:aR g s.heap N O hp)(aL:cp g s.heap N O ds vs)(h:B5 c F.aI.length F.k F.fU (kF bA kk F.sc F.y0) ds hp K X):dP g A O N s (cY (.ref a) vs []) K X:=by
 induction MU with|@mk o fd ki iA sJ y1 aG bC hd na im ay cL aV Vz p9 hc uo uq bH sK bind=>
 induction cQ.of h with|@mk full VA LY=>
 clear h
 refine AV (Vm (e6 (by lia) C.qM:A.depth < mJ) (H.cw _ _ bC na) hd (by refine im▸?_;exact aG.co) (Y im aG.Gy) (Y ay (.st _)) ⟨ki,iA,sJ,y1,hc,H.cw _ _ uo sK,uq,bH⟩ ?_)
 refine bind H aL VA fun us agB=>?_
 refine cL▸im▸aV▸Vz▸?_
 refine wpAny_newFunctionEnv_cells aG.bk (fun y m=>?_) fun env cP ar x=>?_
 ·obtain⟨k,iZ,nX⟩:=Gz (DZ (by exact Y aG.aI ((I5 (show(y.1,y.2)∈_ from m)).1)):y.1∈b4 F.sc)
  refine Y (BJ aG.bY iZ) ?_
  rcases nX with rfl|rfl|rfl
  ·exact .inl rfl
  ·exact .inr ⟨rfl,(Vp iZ).elim fun c e=>by refine Y e ?_;rfl⟩
  ·exact cr rfl (aG.nm _ _ iZ).2
 have aT:env.scope=F.sc:=cP▸rfl
 have aN:env.frame=B env.locals:=cP▸rfl
 have dK:env.code=fd.code:=cP▸rfl
 obtain⟨⟨agC,VB⟩,fresh⟩:=agx (ck:=s.heap.objs.size+1) aG aT rfl (cP▸rfl) (cP▸rfl) (cP▸rfl) H agB (MT VA) x
 have i3:gU g A c.lv env (dG env) O N s ar hp:=by
  refine⟨C.hH (jD _),C.MO,H,⟨by refine Y aT (Y aG.bk ?_);exact nofun,env.locals,?_⟩,fun L q=>bo (aN.symm.trans q)▸.head _,fresh,x.toInCall.keep,?_⟩
  ·exact x.toInCall.ns.elim fun o z=>z.elim fun I z=>z.elim fun I z=>⟨o,aN,z.1,fun I q=>nomatch z.2.1.symm.trans q⟩
  ·obtain⟨bU,tk,q, -⟩:=x.done;refine Y q ?_;exact⟨rfl,rfl,rfl⟩
 have agD:pV F.sc env:=by
  have hk:∀y,env.kindOf y=F.sc.names.lookup y:=fun y=>by rw[xZ,aT]
  exact⟨fun q=>dK▸p9 q,fun y eI=>(hk y).trans (c9 eI),fun y eI=>by unfold vS;rw[hk];exact eI⟩
 refine⟨ux.at fun o e=>x.toInCall.keep _ _ (H.cw _ _ e (by decide)),Vl ?_⟩
 refine ew (S.ss ⟨i3.yY,VB,agC,agD⟩ LY) (fun f c4 p=>?_) fun x c4 p=>?_
 ·induction p with|mk ec gs r k=>
  induction r with
  |cv=>exact i3.bO ec (fun I m=>m) gs aE.z k
  |co=>exact k.elim
  |k8 r=>exact i3.bO ec (fun I m=>m) gs r k
 ·induction p with|mk ec gs ex k=>exact i3.MR VB ec (fun I m=>m) gs ex k
end
inductive rg (h:b8):Prop
 |mk {nm q bs bm wj sn sub pT col j9 gq jp ik lJ pU newId}(e:h.get? 46=B (rV nm q 46 45 bs bm wj sn sub pT col j9 gq jp ik lJ pU newId))(b:bm.contains (.type "BaseException")=af):rg h
noncomputable abbrev VC (t dx:aC):ee:=⟨.ref 46,B dx,.fields #[.ref t,.none,.none,.none,.bool ae,.none], #[]⟩
inductive VD (g:ci)(A:dc)(O N:J aC)(s:a3)(hp:J ap):au→a3→Prop
 |mk {e t dx:aC}{ar:a3}(st:b9 A [] N s N ar)(H:aR g ar.heap N O hp)(n:s.heap.get? e=ab)(cP:ar.heap.get? e=B (VC t dx)):VD g A O N s hp (.ref e) ar
abbrev agE (g:ci):Prop:=∀{A:dc} {O N:J aC} {s:a3} {hp:J ap} {v:au} {d:D} {n:ah},fc A n O s.heap→aR g s.heap N O hp→aE g s.heap N O d v→bM (bB g.p g.w) A (cY (.ref 46) [v] []) (VD g A O N s hp) (fun I I=>bt) s
structure wk (g:ci):Prop where
 mm:rg g.b
 agF:agE g
theorem rg.up (H:aR g h N O hp):rg g.b→rg h
 | .mk e b=>.mk (H.cw _ _ e (by decide)) b
theorem agG (bU:A.handled=ab)(h:bK M A y (fun v aB=>rg aB.heap∧∃e t dx,v=.ref e∧aB.heap.get? e=B (VC t dx)∧E (.ref e) aB) E s):bK M A (raiseStmt env (B y) ab) Q E s:=by
 unfold raiseStmt
 refine cc (ew h (fun v aB cM=>?_) fun I I x=>x)
 obtain⟨hc,e,t,dx,rfl,cP,r6⟩:=cM
 induction hc with|@mk nm q bs bm wj sn sub pT col j9 gq jp ik lJ pU newId eu B6=>
 obtain⟨hp,g,d,tk,os⟩:=aB
 refine .of ?_
 repeat(first|with_reducible refine vl cP ?_|with_reducible refine vl eu ?_| (with_reducible refine Ew eu ?_;refine(Y (vf ..) (Y B6 (Y (va ..) rfl)):(hr 46::bm).contains (.type "BaseException")=af).symm▸?_)|wp_step)
 exact wpAny_raiseNew_none bU r6
theorem agH {K:a0}(h:bT c n (b1 bA k sc (.Starred e p)) X loc hp K):bt:=by induction k<;>exact kH h
theorem agI {K:a0}(h:bT c n (b1 bA k sc e) X loc hp K):i0 [e]=af:=by
 cases e<;>first|rfl|exact(agH h).elim
theorem agJ (W:ft g c)(R:wk g)(aD:db g c n)(E:bz g A c.lv O N s env sc loc hp){x:aO}(hx:x="BadOption")(aV:gC sc x=af)(h:bT c n (b1 bA k sc e) X loc hp fun I hp=>X hp):
  UF g A O N s env sc (jc (.Raise (B (.Call (.Name x np) [e] [] BY)) ab pos) env) aQ Kr Kc X:=by
 subst hx
 obtain⟨dr,fM,bZ, -,gl⟩:=W.iY
 refine U.gT (agG E.C.hd (cc (yH (E.oO aV (by decide) bZ gl.ez) (agI h) ?_)))
 refine Bq (R:=fun h N=>cp g h N O) (K1:=fun ds hp=>X hp∧ds.length=1) (show(1:ah)≤30 by decide) (E.dN (aD.e E h) fun d bN aB bj bX q=>cs (.dj (b:=[]) bX.H j0.mk ⟨q,rfl⟩)) (fun aB bj bN H=>?_) (fun ds vs bN aB bj st H r q=>?_) fun I I=>.jh E
 ·induction R.mm.up H with|mk eu=>exact .FP fun Q Ee q=>Re eu q
 ·cases ds with
  |nil=>exact nomatch q.2
  |cons d ds=>
   induction ds with
   |cons=>exact nomatch q.2
   |nil=>
    induction r with|mk h1 MV=>
    induction MV
    refine ew (.of (R.agF (E.C.f3 E.H st) H h1)) (fun r c6 m=>nA (cs ?_)) fun I I f=>f.elim
    induction m with|mk iy kc n cP=>
    exact⟨R.mm.up kc,_,_,_,rfl,cP,.mk ((st.eJ iy).jh E.H E.F.dS) kc (.mk (pI st.e8.ey n) cP rfl rfl rfl rfl .no) q.1⟩
theorem GF (h:f6 c n .ez X loc hp aQ Kr Kc):bt:=by induction n<;>exact h
theorem wl (h:f6 c n (t0 b x) X loc hp aQ Kr Kc):b=af∧f6 c n x X loc hp aQ Kr Kc:=by
 induction b with
 |true=>exact⟨rfl,h⟩
 |false=>exact(GF h).elim
theorem wm (h:f6 c n (so o f) X loc hp aQ Kr Kc):cQ o fun a=>f6 c n (f a) X loc hp aQ Kr Kc:=by
 induction o with
 |some a=>exact .mk rfl h
 |none=>exact(GF h).elim
theorem MW (h:f6 c n (bS o f y) X loc hp aQ Kr Kc):cQ o (fun a=>f6 c n (f a) X loc hp aQ Kr Kc)∨(o=ab∧f6 c n y X loc hp aQ Kr Kc):=by
 induction o with
 |some a=>exact .inl (.mk rfl h)
 |none=>exact .inr ⟨rfl,h⟩
theorem agK (W:ft g c)(fO:∀m,m≤n→db g c m)(E:bz g A c.lv O N s env sc loc hp)(h:f6 c (n+1) (Bb bA (k+1) sc (.Assign dB e pos)) X loc hp aQ Kr Kc):UF g A O N s env sc (jc (.Assign dB e pos) env) aQ Kr Kc X:=by
 have aD:=fO n (a8 n)
 induction wm (show f6 c (n+1) (so (dW dB) _) X loc hp aQ Kr Kc from h)with|@mk t aT aY=>
 cases ml aT
 rcases MW aY with bu|⟨-,bu⟩
 ·induction bu with|@mk x ex cu=>
  refine(yG ex).elim fun p pZ=>?_;subst pZ
  induction wm cu with|mk hi fg=>exact afW W fO E hi fg
 ·rcases MW bu with cu|⟨-,cu⟩
  ·induction cu with|@mk q eq fg=>
   refine(aee eq).elim fun p pZ=>?_;subst pZ
   exact aga aD E fg
  ·obtain⟨g1,fg⟩:=wl cu
   refine(iR.mp g1).elim fun es Bp=>?_
   obtain⟨j,p,rfl⟩:=FU Bp
   induction wm fg with|mk bE js=>
   rcases MW js with oQ|⟨aA,oQ⟩
   ·induction oQ with|@mk VE aN Bw=>
    obtain⟨j2,p2,rfl⟩:=FU aN
    obtain⟨g2,Bx⟩:=wl Bw
    exact(ct.mp g2).elim fun g3 BG=>(ct.mp g3).elim fun agL agM=>af9 aD E (dg agL) agM BG bE Bx
   ·exact af8 aD E aA bE oQ
theorem agN (h:f6 c (n+1) (Bb bA (k+1) sc (.Raise ex cause pos)) X loc hp aQ Kr Kc):∃x np a BY,ex=B (.Call (.Name x np) [a] [] BY)∧cause=ab∧x="BadOption"∧gC sc x=af∧bT c n (b1 bA k sc a) X loc hp fun I hp=>X hp:=by
 refine(wl h).elim fun g1 aY=>?_
 induction wm aY with|@mk q aT bu=>
 induction wm bu with|@mk x ex cu=>
 refine(wl cu).elim fun g2 fg=>?_
 induction wm fg with|@mk a aN js=>
 refine(i6.mp aT).elim fun e cj=>cj.elim fun Bp GA=>?_
 refine(yG ex).elim fun np gu=>?_
 have y:=ct.mp g2
 have z:=ct.mp (ct.mp y.1).1
 exact⟨x,np,a,q.2.2.2,Bp.trans (bl B ((LO GA).trans (Y gu ((ml aN).symm▸(ks.mp y.2).symm▸rfl)))),l4.mp g1,c9 z.1,z.2,js⟩
theorem agO (W:ft g c)(R:wk g)(fO:∀m,m≤n→db g c m)(S:wf g c n)(E:bz g A c.lv O N s env sc loc hp){st:gQ}(h:f6 c (n+1) (Bb bA k sc st) X loc hp aQ Kr Kc):UF g A O N s env sc (jc st env) aQ Kr Kc X:=by
 have aD:=fO n (a8 n)
 cases k with
 |zero=>exact(GF h).elim
 |succ k=>
  cases st with
  |Expr e pos=>
   refine(wl h).elim fun g1 aY=>?_
   refine(iR.mp g1).elim fun q aT=>?_
   cases LO aT
   exact afQ aD E aY
  |Continue pos=>exact afM E h
  |Return v pos=>
   induction v with
   |none=>exact afN E h
   |some e=>exact afO aD E h
  |Assign dB e pos=>exact agK W fO E h
  |If t b o pos=>exact agc aD S E h
  |While t b o pos=>
   refine(wl h).elim fun g1 aY=>?_
   cases ks.mp g1
   exact agf aD S E aY
  |For t it b o pos=>
   refine(wl h).elim fun g1 aY=>?_
   cases ks.mp g1
   induction wm aY with|mk bE bu=>
   induction n with
   |zero=>exact(show bt from bu).elim
   |succ n=>exact agg W (fO n (iQ n)) S E bE bu
  |Raise ex cause pos=>
   obtain⟨x,np,a,BY,rfl,rfl,hx,aV,js⟩:=agN h
   exact agJ W R aD E hx aV js
  |_=>exact(GF h).elim
theorem VF (W:ft g c)(R:wk g)(sn:∀m,db g c m):∀n,wf g c n
 |0=>⟨fun I h=>qr h,fun I h=>qr h⟩
 |n+1=>have S:=VF W R sn n;⟨fun E h=>agO W R (fun m I=>sn m) S E h,fun E h=>age S E h⟩
section
variable {g:ci}{A:dc}{O N:J aC}{s:a3}{hp:J ap}{aJ:dU}{h aj:b8}
theorem VG:∀dB,TriplesOk (vJ dB)
 | []=>cy
 |_::dB=>VG dB
theorem agP:∀{dB},JX pos (vJ dB)=B GG→∃x∈dB,GG=x.2.2:=by
 intro dB
 induction dB with
 |nil=>exact nn
 |cons t dB az=>
  intro e
  have e:(if((t.1:aq)==pos.line&&(t.2.1:aq)==pos.col)=af then B t.2.2 else JX pos (vJ dB))=B GG:=e
  by_cases z:((t.1:aq)==pos.line&&(t.2.1:aq)==pos.col)=af
  ·exact⟨t,.head _,(bo ((b3 z).symm.trans e)).symm⟩
  ·exact(az ((bL z).symm.trans e)).imp fun x z=>⟨.tail _ z.1,z.2⟩
theorem cz.agQ (bI:P∈gh)(kk:∀b o,b≠P→h.get? b=B o→aj.get? b=B o):cz N O N O h aj:=.pE (fun b o e f=>kk b o (fun q=>f.s (vK (q▸bI))) e) (fun I I I o=>o) fun I I e=>e
theorem aR.MX (H:aR g h N O hp)(bI:P∈gh)(kk:∀b o,b≠P→h.get? b=B o→aj.get? b=B o){a b:ah}(rh:vs.toList=vJ dB)(gq:∀x∈dB,ye h N O x.2.2)(aY:aj.get? P=B (vC (vs++ #[l6 a,l6 b,.ref MY])))(aA:h.get? MY=ab)(aV:aj.get? MY=B ⟨.type "code",od,.fields sJ,ch⟩)(bH:sJ[1]?=B (.str q t)):aR g aj N O hp:=by
 have M:cz N O N O h aj:=.agQ bI kk
 have VH:∀{p},g.b.get? p=ab→p≠P:=fun z q=>(H.pF P (vK bI)).elim fun o e=>fb (q▸z) e
 have kb:∀b o,g.b.get? b=B o→b∉gh→aj.get? b=B o:=fun b o e m=>kk b o (fun q=>m (q▸bI)) (H.cw b o e m)
 refine⟨kb,fun T m=>?_,H.pF,H.bY,H.lo,fun p m=>⟨(H.gi p m).1,(H.gi p m).2.imp fun o=>kk p o (VH (H.gi p m).1)⟩,H.bJ,fun i p o aT aN=>(H.pG i p o aT aN).dw M fun cO=>kk p cO (VH (H.lo p (gZ aT)).1)⟩
 by_cases e:T=P
 ·refine e▸⟨_,dB++[(a,b,.ref MY)],aY,?_,fun x m=>(fE.mp m).elim (fun m=>(gq x m).dw M) fun m=>df.mp m▸.mk (H.ma aA) aV bH⟩
  rw[Array.toList_append,rh,vJ,vJ,IX];rfl
 ·exact(H.AX T m).dw M fun o=>kk T o e
theorem b9.MX (bI:P∈gh)(kk:∀b o,b≠P→s.heap.get? b=B o→aj.get? b=B o)(aw:∃o,aj.get? P=B o):b9 A [] N s N {s with heap:=aj,toks:=tk}:=
 ⟨⟨fun b o e=>by
   by_cases q:b=P
   ·exact Y q aw
   ·exact⟨o,kk b o q e⟩,fun b o e I I n=>.qK (kk b o (fun q=>n (q▸bI)) e)⟩,fun I m=>(dz m),tm _,.iX _ _,rfl,rfl,rfl⟩
abbrev agR (ay:b8):Prop:=∃dr bm o,ay.Ns i8 dr∧dr "__builtins__"=B (.ref bm)∧bm≠lu∧bm∉gh∧ay.get? bm=B o∧o.cls=.type "module"∧o.dict=B lu∧o.data=.plain
structure MZ (ay:b8):Prop where
 iW:AL ay 425 KR
 k9:AL ay 456 KS
 g:agR ay
theorem VI (h:Lh et=af):et=⟨[],[],ab,[],[],ab,[]⟩:=by
 obtain⟨a,b,c,d,e,f,g⟩:=et
 have h:(a.isEmpty&&b.isEmpty&&c.isNone&&d.isEmpty&&e.isEmpty&&f.isNone&&g.isEmpty)=af:=h
 have n:=fun {x y:aZ} (h:(x&&y)=af)=>ct.mp h
 have fg:=n (n (n h).1).1;have aY:=n (n (n fg.1).1).1
 exact Y (ks.mp aY.1) ((ks.mp aY.2).symm▸(l4.mp (n (n fg.1).1).2).symm▸(ks.mp (n fg.1).2).symm▸(ks.mp fg.2).symm▸(l4.mp (n (n h).1).2).symm▸(ks.mp (n h).2).symm▸rfl)
inductive uy (h:b8)(et:vq)(b:b7)(aJ:dU)(cl:J (aO×aC))(f:aC):Prop
 |mk {name qual:aO}{wn:au}{dh:aC}{B7:au}{q:aO}(hf:h.get? f=B (kla_obj name qual et b aJ cl wn dh B7))(hc:h.CodeRec (.ref dh) q):uy h et b aJ cl f
inductive M0 (g:ci)(A:dc)(O N:J aC)(s:a3)(hp:J ap)(R:b8→au→Prop):au→a3→Prop
 |mk {v:au}{aj:b8}{tk:dv}(st:b9 A [] N s N {s with heap:=aj,toks:=tk})(H:aR g aj N O hp)(r:R aj v):M0 g A O N s hp R v {s with heap:=aj,toks:=tk}
theorem VJ (wo:env.code=.ref ki)(bI:P∈gh)(agS:AL g.b ki P)(sK:ki∉gh)(H:aR g s.heap N O hp):
  bM M A (functionCode env sy gV nm y2 et aJ ur) (M0 g A O N s hp fun h v=>∃dh q,v=.ref dh∧h.CodeRec (.ref dh) q) E s:=by
 have C:AL s.heap ki P:=agS.elim fun o z=>z.elim fun vs z=>⟨o,vs,z.imp fun I=>gb fun I=>gb fun I=>gb fun I=>gb fun I=>gb fun I=>gb fun I z=>⟨H.cw _ _ z.1 sK,z.2⟩⟩
 refine(H.AX P bI).elim fun vs cj=>cj.elim fun dB d3=>d3.elim fun av fW=>fW.elim fun rh gq=>?_
 have ok:TriplesOk vs.toList:=rh▸VG dB
 induction hf:JX sy vs.toList with
 |some GG=>
  refine wpAny_functionCode_hit wo (C.code av ok) hf (.mk (tk:=s.toks) (.e7 fun I I e=>e) H ?_)
  obtain⟨x,m,e⟩:=agP (rh▸hf)
  have c:=gq x m
  rw[←e] at c
  induction c with|@mk a od vs ch q t bC aV bH=>exact⟨a,q,rfl,a,_,vs,t,rfl,aV,rfl,bH⟩
 |none=>
  refine wpAny_functionCodeX wo (C.code av ok) (C.tab av) hf fun dh fR tk hx agT gF I GH VK uj=>?_
  obtain⟨vI,_,_,⟨iA,GI,aT,aN,dK,_⟩,_⟩:=uj
  obtain⟨a,aqp,GJ,t,eb,gG,kJ,p4⟩:=id GH
  cases tI eb
  cases bo (aT.symm.trans gG)
  obtain⟨cl,od,y3,ch⟩:=iA
  subst aN;subst kJ
  exact .mk (.MX bI hx ⟨_,VK.2⟩) (H.MX bI hx rh gq VK.2 (rZ agT) aT p4) ⟨dh,_,rfl,GH⟩
theorem agU (lQ:MZ g.b)(cL:Ay aJ env=bV cl)(agV:env.globals=i8)(agW:env.code=.ref 425∨env.code=.ref 456)(M2:Lh et=af)(H:aR g s.heap N O hp)(k:∀f aj tk,b9 A [] N s N {s with heap:=aj,toks:=tk}→aR g aj N O hp→uy aj et b aJ cl f→Q (.ref f) {s with heap:=aj,toks:=tk}):bM M A (eval (.Lambda et b aJ sy) env) Q E s:=by
 cases VI M2
 obtain⟨dr,bm,cO,aV,B6,jf,lO,GK,LW,agX,agY⟩:=lQ.g
 refine kla_eval rfl ?_
 refine Y (makeFunction_eq ..) ?_
 show bM M A (makeTail _ _ _ _ _ _ _ _ _ _ _) _ _ _
 unfold makeTail
 refine Y cL (Y agV ?_)
 refine aX (cq ?_)
 extract_lets VL
 have key:∀B7 cM oS,b9 A [] N s N {s with heap:=cM,toks:=oS}→aR g cM N O hp→bM M A (VL B7) Q E {s with heap:=cM,toks:=oS}:=fun B7 cM oS sF BV=>by
  refine aX (ou (Q:=M0 g A O N {s with heap:=cM,toks:=oS} hp fun h v=>∃dh q,v=.ref dh∧h.CodeRec (.ref dh) q) (E:=fun I I=>bt) ?_ (fun GG c6 m=>?_) fun I I f=>f.elim)
  ·exact agW.elim (fun e=>VJ e (.head _) lQ.iW (by decide) BV) fun e=>VJ e (.tail _ (.head _)) lQ.k9 (by decide) BV
  ·induction m with|@mk fR v5 iy kc r=>
   obtain⟨dh,q,rfl,GH⟩:=r
   have e2:=kc.oO aV (by decide)
   refine aX (wpAny_builtinsFor e2 B6 jf (kc.cw _ _ GK lO) LW agX agY ?_)
   refine aX (wpAny_nsGet e2 ?_)
   refine aX (cq (pn ?_ (by size_fits)))
   exact k _ _ v5 ((sF.eJ iy).eJ (.e7 (k:=v5) fV)) (kc.j3 _) (.mk (ic _ rfl) (GH.push _))
 clear_value VL
 induction cl with
 |nil=>exact aX (cq (key _ s.heap s.toks (.e7 fun I I e=>e) H))
 |cons q r=>exact aX (wpAny_newTextTuple (key _ _ s.toks (.e7 fV) (H.j3 _)))
end
structure B8 (env:eo)(fd:i9)(s:a3)(h:b8)(binds:J (aO×au)):Prop where
 sc:env.scope=fd.scope
 ce:env.cells=fd.closure
 gl:env.globals=fd.globals
 agZ:env.builtins=fd.builtins
 fr:env.frame=B env.locals
 nw:s.heap.get? env.locals=ab
 ns:h.Ns env.locals fun y=>binds.reverse.lookup y
 cw:∀b o,s.heap.get? b=B o→h.get? b=B o
section
variable {K:a0}
theorem AU (MJ:bQ.depth < mJ)(bC:s.heap.get? a=B o)(jO:o.data=.func fd)(yX:fd.scope.isCoroutine=ae)(MK:fd.scope.isGenerator=ae)(ug:Gw fd.body cd)(tK:s.heap.CodeRec fd.code q)(ag0:s.heap.NoLimit)(ay:xT fd args=bV binds)(hk:fd.scope.kind=.function)(sK:∀x∈fd.scope.names,x.2≠.cell)(ag1:∀x∈binds,fd.scope.names.lookup x.1=B .local)(k:∀env cM tk,B8 env fd s cM binds→g6 (bB prog w) bQ (cd env) R {s with heap:=cM,toks:=tk}):g6 (bB prog w) bQ (.call (.ref a) args) R s:=by
 refine Vm MJ bC jO yX MK ug tK ?_
 refine Y ay ?_
 refine cq (Rb sK ag1 (fun cM k6 VM=>⟨ag0.fresh _ VM,k _ cM _ ⟨rfl,rfl,rfl,rfl,rfl,hZ _,k6,fun b o e=>VM.extBut b o (fun q=>fb (hZ _) (q▸e)) (fV b o e)⟩⟩) hk)
theorem B8.ju (cX:B8 env fd s h binds)(hk:fd.scope.kind=.function)(M3:fc A 0 O s.heap)(wi:A.depth+1+20 *n+20 < mJ∧A.units+3+50 *n < 9000)(H:aR g s.heap N O hp):gU g A n env [env.locals] O N s {s with heap:=h,toks:=tk} hp:=
 ⟨M3,wi,H,⟨by refine Y cX.sc (Y hk ?_);exact nofun,env.locals,cX.ns.elim fun o z=>z.elim fun I z=>z.elim fun I z=>⟨o,cX.fr,z.1,fun I q=>nomatch z.2.1.symm.trans q⟩⟩,fun L q=>bo (cX.fr.symm.trans q)▸.head _,fun a m=>df.mp m▸cX.nw,cX.cw,rfl,rfl,rfl⟩
theorem B8.lv (cX:B8 env fd s h binds):∀a∈[env.locals],∃o,h.get? a=B o:=fun a m=>df.mp m▸v8 cX.ns
theorem ag2 (F:f7 g h N O env (b4 sc) loc)(G:pV sc env)(aG:uf aJ)(hc:k1 sc aJ=af)(aT:env2.scope=aJ)(dK:env2.cells=he env.cells aJ.names [])(fN:env2.globals=i8)(p5:env2.builtins=lu)(eu:env2.locals∈O)(k6:h.Ns env2.locals m)(gn:∀a∈dG env,a≠env2.locals):f7 g h N O env2 (b4 aJ) (kD (ii aJ (b4 sc)) loc):=by
 have ca:∀{x a},env2.cells.lookup x=B a→env.cells.lookup x=B a:=fun e=>(F8 F G hc (qz (dK▸e))).2
 have hk:∀y,env2.kindOf y=aJ.names.lookup y:=fun y=>by rw[xZ,aT]
 refine⟨⟨by refine aT▸?_;exact aG.bk,fN,p5,F7 aG.bY,fun x m=>?_,fun x y a aT aN=>F.ok.Lc x y a (ca aT) (ca aN),fun x a e=>gn a (vT (ca e))⟩,fun a m=>(cV.mp m).elim (fun e=>e▸eu) fun m=>?_,?_,fun j x o aT aN=>?_⟩
 ·obtain⟨k,m, -⟩:=Gz m
  exact⟨(aG.pO _ _ m).1,(aG.pO _ _ m).2.1⟩
 ·obtain⟨⟨x,b⟩,iZ,rfl⟩:=h9.mp m
  exact F.dS b (vT (F8 F G hc (dK▸iZ)).2)
 ·rw[kD,cH,F6,yN (sc:=aJ) (b4 sc),cH,cH]
 ·rw[kD,gP,F6,gP] at aN
  obtain⟨p,B9,rfl⟩:=iu.mp (gP▸((yN (sc:=aJ) (b4 sc))▸aT))
  have aN:=B9▸aN
  cases bo aN
  obtain⟨⟨n,k⟩,m,wq⟩:=rM.mp (gZ B9)
  obtain⟨rfl,z⟩:=BI wq
  have cm:=(hk p.1).trans (BJ aG.bY m)
  rcases z with⟨rfl,z⟩|⟨Ma,z⟩
  ·exact⟨_,_,.aa cm k6,by show nL _ (p.2.bind _) _;exact Y z (.no)⟩
  ·rcases Ma with rfl|rfl
   ·exact cr rfl (aG.pO _ _ m).2.2
   ·induction BK F G hc m with|mk hi bC BL av aL=>
    exact⟨_,_,.mi (.inr cm) (dK▸Uu m BL) av,by show nL _ (p.2.bind _) _;refine Y z (Y hi ?_);show nL _ (loc[_]?).join _;exact Y bC aL⟩
theorem ag3 (aG:uf aJ)(aT:env2.scope=aJ):pV aJ env2:=by
 have hk:∀y,env2.kindOf y=aJ.names.lookup y:=fun y=>by rw[xZ,aT]
 exact⟨fun q=>cr (q.symm.trans aG.Ux) xn,fun y eI=>(hk y).trans (c9 eI),fun y eI=>by unfold vS;rw[hk];exact eI⟩
theorem ag4 (aD:db g c n)(ux:g.b.NoLimit)(M3:fc bQ 0 O s.heap)(wi:bQ.depth+1+20 *c.lv+20 < mJ∧bQ.units+3+50 *c.lv < 9000)(H:aR g s.heap N O hp)(F:f7 g s.heap N O env (b4 sc) loc)(G:pV sc env)(p9:yp et sc aJ=af)(hf:uy s.heap et b aJ (he env.cells aJ.names []) f)(h:bT c n (b1 bA k aJ b) X (kD (ii aJ (b4 sc)) loc) hp K):U g bQ [] O N s (cY (.ref f) [] []) (fun I I I I=>g4) K X:=by
 have a:=fun {x y:aZ} (h:(x&&y)=af)=>ct.mp h
 have n:=fun {x:aZ} (h:(!x)=af)=>(l2.mp h:x=ae)
 have uw:=a (a (a p9).1).1;have oW:=a uw.1
 cases VI oW.1
 have aG:=uf.of oW.2
 induction hf with|@mk name qual wn dh B7 q hf hc=>
 refine AV (AU (binds:=[]) (e6 (by lia) wi.1:bQ.depth < mJ) hf rfl (n (a p9).2) (n (a (a p9).1).2) (.ex b) hc (ux.at fun o e=>H.cw _ _ e (by decide)) rfl aG.bk (fun x m=>(aG.pO x.1 x.2 m).2.2) (fun I m=>dz m) fun env2 cM tk cX=>?_)
 have i3:gU g bQ c.lv env2 [env2.locals] O N s {s with heap:=cM,toks:=tk} hp:=cX.ju aG.bk M3 wi H
 refine agr (ew (aD.e ⟨i3.yY,(i3.aL cX.lv),(ag2 (env2:=env2) (F.dw (.nU cX.cw i3.sa) (fun a I m=>ho [env2.locals] m) fun a I o e=>⟨o,cX.cw a o e,rfl⟩) G aG uw.2 cX.sc cX.ce cX.gl cX.agZ (.head _) cX.ns fun a m e=>H.dz cX.nw (e▸F.dS a m)),ag3 aG cX.sc⟩ h) (fun v c4 p=>?_) fun x c4 p=>?_)
 ·induction p with|mk st gs r kk=>exact .mk (i3.f3 st (fun I m=>dz m) fun b o I e=>.qK e) (gs.hH gU.bh) cy kk
 ·induction p with|mk st gs ex M4=>exact .of (i3.lv (i3.aL cX.lv) st (fun I m=>dz m) gs ex fun lM nY kK yZ I=>.mk nY (kK.hH gU.bh) yZ M4)
end
noncomputable abbrev mw:aO:="call"
noncomputable abbrev Ca:aO:="BadOption"
noncomputable def M5 (jR sL sM sN:ib):J RB:=[.ExceptHandler (B (.Name Ca jR)) ab [.Return (B (.Constant (.bool ae) 0 sL)) sM] sN]
noncomputable def M6 (i2 p2 kM jR sL sM sN Cb y4 y5:ib):J gQ:=[.Try [.Expr (.Call (.Name mw i2) [] [] p2) kM] (M5 jR sL sM sN) [] [] Cb,.Return (B (.Constant (.bool af) 0 y4)) y5]
inductive Cc (ay:b8):Prop
 |mk {o:ee}{fd:i9}{i2 p2 kM jR sL sM sN Cb y4 y5:ib}{ki:aC}{iA:ee}{vs:dn au}{q:aO}{t:dv}(bC:ay.get? 414=B o)(hd:o.data=.func fd)(GK:fd.body=.stmts (M6 i2 p2 kM jR sL sM sN Cb y4 y5))(hk:fd.scope.kind=.function)(aA:fd.scope.names=[(mw,.local),(Ca,.globalImplicit)])
  (aV:fd.scope.isGenerator=ae) (yX:fd.scope.isCoroutine=ae) (VN:fd.globals=i8) (hc:fd.code=.ref ki) (uo:ay.get? ki=B iA) (uq:iA.data=.fields vs) (bH:vs[1]?=B (.str q t)) (sK:ki∉gh) (VO:∀v,xT fd ⟨[v],[]⟩=bV [(mw,v)]):Cc ay
section
variable {K:a0}
theorem ag5 (hy:∀a∈fw,∃o,s.heap.get? a=B o∧jF o)(ex:nG h₀ s.heap x)(k:∀aj,rd h₀ fw s.heap aj x→Q () {s with heap:=aj}):bM M A (xP x ab) Q E s:=by
 have ag6:=ex
 induction ex with|@mk e mT vs r9 t rf cP hc hd pY aY bE=>
 unfold xP
 refine aX (rU cP hd aY ?_)
 induction bE with
 |no=>
  exact Y (bL (show ¬ (iU !=iU)=af from dO)) (cq (k s.heap ⟨fun b o ay I I=>ay,fun b o I ay=>⟨o.slots,ay⟩,fun b o ay=>⟨o,ay⟩,ag6⟩))
 |@bb T oT dB Gr sI di p8 cu Gs=>
  refine Y (b3 (show(hr T !=iU)=af from rfl)) ?_
  have VP:=(Iz.mp cu).1
  refine Ey di p8 VP (k _ ?_)
  have other:∀b,b≠T→(s.heap.update T (ov (·.setIfInBounds 3 iU))).get? b=s.heap.get? b:=fun b ay=>AH _ _ (rR ay)
  have Gu:=x1 (ov (·.setIfInBounds 3 iU)) di (E1 (vx p8 _))
  show rd h₀ fw s.heap (s.heap.update T (ov (·.setIfInBounds 3 iU))) _
  generalize s.heap.update T (ov (·.setIfInBounds 3 iU))=H at *
  refine⟨fun b o ay aA I=>(other b fun q=>?_).trans ay,fun b o bZ ay=>⟨o.slots,(other b fun q=>?_).trans ay⟩,fun b o ay=>?_,.mk rf ((other e (rR sI)).trans cP) hc hd pY aY (.bb Gr sI Gu (vx p8 _) (Y DI ((b3 VP).symm▸rfl)) ((Km _ _).trans Gs))⟩
  ·cases bo (di.symm.trans (q▸ay))
   exact aA.elim (fun z=>z.elim (fun z=>z dB p8) fun z=>nomatch Gs.symm.trans z) fun eb=>eb.elim fun I z=>fb Gr (q▸z)
  ·exact(hy b bZ).elim fun o z=>z.2 dB (bo (di.symm.trans (q▸z.1))▸p8)
  ·by_cases q:b=T
   ·exact Y q (⟨_,Gu⟩)
   ·exact⟨o,(other b q).trans ay⟩
theorem ag7 (M7:rg s.heap)(ex:nG h₀ s.heap x)(q:Q af s):bM M A (excMatches x (.ref 46)) Q E s:=by
 induction ex with|mk rf cP hc hd pY aY bE=>
 induction M7 with|mk eu B6=>
 obtain⟨bU,g,d,t,os⟩:=s
 exact wpAny_excMatches_sub_self eu cP hc B6 q
theorem VQ (h:Q (.ret (.bool b)) s):bM M A (pw (.Return (B (.Constant (.bool b) 0 p)) q::r) env) Q E s:=
 aX (m:=jc (.Return (B (.Constant (.bool b) 0 p)) q) env) (aX (m:=ku q) (wpAny_standAt (aX (m:=(bV (Sm b):dM au)) (cq (cq (cq h))))))
theorem ag8 (ag9:∀(A:dc) (Q:au→a3→Prop) (E:au→a3→Prop),Q (.ref 46) s→bM (bB prog w) A (eval (.Name Ca jR) jv) Q E s)(hy:∀a∈fw,∃o,s.heap.get? a=B o∧jF o)(M7:rg s.heap)(ex:nG h₀ s.heap x)(k:∀aj,rd h₀ fw s.heap aj x→Q (.ret (.bool ae)) {s with heap:=aj}):bM (bB prog w) A (EK x jv (M5 jR sL sM sN)) Q E s:=
 wpAny_handleBy_cons (codeAny_handlers_test (ag9 _ _ _ (ag7 M7 ex (codeAny_handlers_suite (ag5 hy ex fun aj lQ=>VQ (k aj lQ)))))) (by induction ex;exact fun q=>nomatch q)
theorem aha {h₀:RB}(h:bK M A body (fun f aB=>f=.next∧bK M A orelse Q E aB) (fun e aB=>bK M A (qA env e) (fun I c6=>bK M A (EK e env (h₀::aG)) Q E c6) E aB) s):bK M A (tryStmt ae body (h₀::aG) orelse [] env) Q E s:=by
 unfold tryStmt
 refine cc (m:=body.attempt) (Sx (ew h (fun f aB cM=>?_) fun e aB cM=>?_))
 ·obtain⟨rfl,cM⟩:=cM
  exact cM
 ·have aT:∀t:dM tG,(Az e env>>=fun I=>xP e ab>>=fun I=>t)=(qA env e>>=fun I=>t):=fun t=>by unfold qA;rw[bind_assoc]
  show bK M A (Az e env>>=fun I=>xP e ab>>=fun I=>EK e env (h₀::aG)) _ _ _
  rw[aT]
  exact cc cM
theorem ahb (Cd:jv.scope.kind=.function)(ahc:jv.kindOf mw=B .local)(k6:s.heap.Ns jv.locals m)(bZ:m mw=B f)(M8:su g A f s)(h:bK (bB g.p g.w) A (cY f [] []) (fun I c4=>Q (.ret (.bool af)) c4) (fun x c4=>bK (bB g.p g.w) A (qA jv x) (fun I pX=>bK (bB g.p g.w) A (EK x jv (M5 jR sL sM sN)) (fun f ar=>f=.ret (.bool ae)∧Q f ar) E pX) E c4) s):bK (bB g.p g.w) A (pw (M6 i2 p2 kM jR sL sM sN Cb y4 y5) jv) Q E s:=by
 have hi:ED jv=ae:=by unfold ED;refine Y Cd ?_;rfl
 refine cc (m:=jc (.Try _ _ _ _ _) jv) (nA (aha ?_))
 refine cc (m:=jc (.Expr (.Call (.Name mw i2) [] [] p2) kM) jv) ?_
 refine Y (exec_Expr jv _ _ hi rfl) ?_
 refine nA (cc ?_)
 refine Y (Ev ..) ?_
 refine d1 (wpAny_Name (Q9 Cd ahc k6 bZ (acV (env:=jv) M8 (ew h (fun v c4 q=>?_) fun x c4 q=>?_))) (by decide))
 ·exact .of (Rq (cs ⟨rfl,cs (.of (VQ (p:=y4) (q:=y5) q))⟩))
 ·exact ew q (fun I pX q=>ew q (fun f ar q=>by obtain⟨rfl,q⟩:=q;exact cs q) fun I I q=>q) fun I I q=>q
theorem b9.Gv (st:b9 A [] N s bw c4)(L:rd s.heap fw c4.heap lM x)(hy:∀a∈fw,a∈fH A∨s.heap.get? a=ab):b9 A [] N s bw {c4 with heap:=lM}:=
 ⟨⟨fun b o e=>(st.e8.ey b o e).elim (L.ey b),fun b o e eb gG kJ=>(st.e8.cw b o e eb gG kJ).eJ (φ':=fw) (fun o' cR=>by
  by_cases m:b∈fw
  ·exact(L.fr b o' m cR).imp fun ch z=>⟨z,.inl m⟩
  ·exact .qK (L.cw b o' cR (.inr ⟨o,e⟩) m)) fun m=>(hy b m).elim id fun z=>(fb z e).elim⟩,fun I m=>(dz m),st.mS,st.e0,st.hv⟩
theorem uy.e7 (k:∀b o,h.get? b=B o→aj.get? b=B o):uy h et b aJ cl f→uy aj et b aJ cl f
 | .mk a c=>.mk (k _ _ a) (c.keeps k)
theorem ahd (W:ft g c)(GL:Cc g.b)(R:wk g)(ux:g.b.NoLimit)(M9:c.lv=l+1)(aD:db g {c with lv:=l} n)(E:bz g A c.lv O N s env sc loc hp)(p9:yp et sc aJ=af)(lam:uy s.heap et b aJ (he env.cells aJ.names []) f)(h:bT {c with lv:=l} n (b1 bA k aJ b) (fun hp=>K (.be ae) hp) (kD (ii aJ (b4 sc)) loc) hp fun I hp=>K (.be af) hp):dP g A O N s (cY (.ref 414) [.ref f] []) K X:=by
 induction GL with|@mk o fd i2 p2 kM jR sL sM sN Cb y4 y5 ki iA vs q t bC hd GK hk aA aV yX VN hc uo uq bH sK VO=>
 obtain⟨dr,fM,bZ, -,gl⟩:=W.iY
 have H:=E.H
 have C:fc A (l+1) O s.heap:=M9▸E.C
 refine AV (AU (binds:=[(mw,.ref f)]) (q:=q) (e6 (ao (ed _ 1) (ao (ed _ _) (ed _ _))) C.MO.1) (H.cw _ _ bC (by decide)) hd yX aV (by refine Y GK ?_;exact .st _) ⟨ki,iA,vs,t,hc,H.cw _ _ uo sK,uq,bH⟩ (ux.at fun o e=>H.cw _ _ e (by decide)) (VO _) hk (by refine Y aA ?_;decide) (fun y m=>by refine Y (df.mp m) (Y aA ?_);rfl) fun jv cM tk cX=>?_)
 have i3:gU g A l jv [jv.locals] O N s {s with heap:=cM,toks:=tk} hp:=cX.ju hk (C.hH (jD _)) C.MO H
 obtain⟨outer,L,jP,hf,hy⟩:=i3.fH
 have Cd:jv.scope.kind=.function:=cX.sc▸hk
 have VR:∀y,jv.kindOf y=[(mw,NameKind.local),(Ca,NameKind.globalImplicit)].lookup y:=fun y=>by rw[xZ,cX.sc,aA]
 have VS:=lam.e7 cX.cw
 have M8:su g (A.deeper jv) (.ref f) {s with heap:=cM,toks:=tk}:=by induction VS with|mk a _=>exact FV a rfl
 have ahe:=E.F.dw (.nU cX.cw i3.sa) (fun a I m=>ho [jv.locals] m) fun a I o e=>⟨o,cX.cw a o e,rfl⟩
 have VT:∀a∈([]:J aC),a∈[jv.locals]:=fun I m=>dz m
 refine Vl (ahb (f:=.ref f) Cd (VR _) cX.ns rfl M8 ((ag4 aD ux (i3.yY.hH (jD _)) (by show A.depth+1+1+20 *l+20 < _∧A.units+3+3+50 *l < _;exact⟨e6 (dR (pB (b:=2) (by decide)) 20) C.qM,e6 (pB (b:=6) (by decide)) C.un⟩) (i3.aL cX.lv) ahe E.G p9 VS h).jH (fun v c4 hb k5 d gJ gs I kk=>?_) fun x c4 p=>?_))
 ·exact .mk (b:=.be af) (i3.f3 gJ VT fun b o I e=>.qK e) (gs.hH gU.bh) (aE.o _) kk
 ·induction p with|mk gJ gs ex M4=>
  refine .of (i3.lv (i3.aL cX.lv) gJ VT gs ex fun lM nY kK yZ hS=>.of (ag8 (fw:=fH (A.deeper jv)) (fun bQ Q E q=>J7 Cd (VR _) (RP (by refine cX.gl▸VN▸?_;exact kK.oO bZ (by decide)) gl.ez q) (by decide)) hS (R.mm.up kK) yZ fun aqq lQ=>⟨rfl,?_⟩))
  exact .mk (b:=.be ae) (nY.Gv lQ fun a m=>(cV.mp (hy▸m)).elim (fun e:a=L=>.inr (e▸i3.sa _ (i3.io L hf))) .inl) ((kK.Gv lQ i3.yY.dS fun b o e=>H.KW e).hH gU.bh) (aE.o _) M4
theorem ahf (W:ft g c)(lQ:MZ g.b)(GL:Cc g.b)(R:wk g)(ux:g.b.NoLimit)(M9:c.lv=l+1)(aD:db g {c with lv:=l} n)(E:bz g A c.lv O N s env sc loc hp)(aV:gC sc kE=af)(p9:yp et sc aJ=af)(h:bT {c with lv:=l} n (b1 bA k aJ b) (fun hp=>K (.be ae) hp) (kD (ii aJ (b4 sc)) loc) hp fun I hp=>K (.be af) hp):dP g A O N s (eval (.Call (.Name kE np) [.Lambda et b aJ sy] [] pos) env) K X:=by
 obtain⟨dr,fM,bZ, -,gl⟩:=W.iY
 have a:=fun {x y:aZ} (h:(x&&y)=af)=>ct.mp h
 have uw:=a (a (a p9).1).1
 have cL:Ay aJ env=bV (he env.cells aJ.names []):=Uv fun x m=>by induction BK E.F E.G uw.2 m with|mk _ _ e _ _=>exact⟨_,e⟩
 refine yH (E.oO aV (by decide) bZ gl.TH) rfl (Bq (R:=fun h I (f:aC) v=>v=[.ref f]∧uy h et b aJ (he env.cells aJ.names []) f) (K1:=fun I bq=>bq=hp) (show(1:ah)≤30 by decide) ?_ (fun aB bj bN H=>?_) (fun f vs bN aB bj st H r q=>?_) fun I I q=>q)
 ·show U g A [] O N s (mN [(ae,eval (.Lambda et b aJ sy) env)]) _ _ _
  exact Y FO (d1 (agU lQ cL E.F.ok.iY (E.G.cd aV) (a uw.1).1 E.H fun f aj tk st H lam=>cc (cs (cc (fi (cs (cs (.mk (b:=f) st H ⟨rfl,lam⟩ rfl))))))))
 ·induction GL with|mk bC hd=>exact FV (H.cw _ _ bC (by decide)) hd
 ·obtain⟨rfl,lam⟩:=r
  subst q
  exact ew (ahd (X:=X) W GL R ux M9 aD (E.f3 st H) p9 lam h) (fun I I=>.jG st) fun I I=>.jG st
end
theorem VU:kv "bytes" "__lt__" "bytes.__lt__":=
 .of (owner:="bytes") (n:="__lt__") (by refine Y (fG ..) (Y (fF ..) ?_);kernel_rfl) (by decide+kernel) (by decide+kernel) (by decide+kernel) (.inl (by decide+kernel)) (by refine Y (kS ..) ?_;kernel_rfl)
theorem ahg:kU jb "bytes.__lt__"=B Builtin.«bytes.__lt__»:=qy (by kernel_rfl)
theorem ahh (a b:au):ja "bytes.__lt__" ⟨[a,b],[]⟩:=by unfold ja;kernel_rfl
theorem VV:∀a b:J am,(J4 a b==.lt)=a9 (a < b)
 | [],[]=>rfl
 | [],y::b=>(eO (List.nil_lt_cons y b)).symm
 |x::a,[]=>(jZ (List.not_lt_nil (x::a))).symm
 |x::a,y::b=>by
  unfold J4
  by_cases wr:x < y
  ·exact Y (b3 wr) ((eO (DX.mpr (.inl wr))).symm)
  ·by_cases GN:y < x
   ·exact Y (bL wr) (Y (b3 GN) ((jZ fun h=>(DX.mp h).elim wr fun h=>UInt8.lt_irrefl _ (h.1▸GN)).symm))
   ·exact Y (bL wr) (Y (bL GN) (Y (VV a b) (x8.mpr ⟨fun h=>DX.mpr (.inr ⟨(UInt8.le_antisymm (Sq.mp GN) (Sq.mp wr):x=y),h⟩),fun h=>(DX.mp h).elim (fun h=>(wr h).elim) And.right⟩)))
noncomputable def Ce:au→J am
 | .bytes b _=>b.toList
 |_=>[]
noncomputable def VW:au→ax (J am)
 | .bytes b _=>B b.toList
 |_=>ab
@[reducible] noncomputable def Cf:I' where
 α:=J am
 blt a b:=a9 (a < b)
 irrefl a:=jZ (List.lt_irrefl a)
 trans a b c aY bu:=eO (List.lt_trans (dg aY) (dg bu))
 negTrans a b c h:=by
  induction q:a9 (a < b)with
  |true=>exact .inl rfl
  |false=>exact .inr (eO (List.lt_of_le_of_lt (En.mp (r2 q)) (dg h)))
 total a b aY bu:=I2 (En.mp (r2 bu)) (En.mp (r2 aY))
 keyOf:=VW
 dflt:=[]
theorem VX (h:VW v=B a):∃b t,v=.bytes b t∧b.toList=a:=by
 cases v<;>first| (exact nn h;done)|exact⟨_,_,rfl,bo h⟩
theorem ahi:Cf.OneLt:=by
 intro prog w A E s x y a b Q b0 ay h
 obtain⟨x,t,rfl,rfl⟩:=VX b0
 obtain⟨y,u,rfl,rfl⟩:=VX ay
 refine Y (oneLt'_eq ..) ?_
 refine aX (wpAny_cRoomFor_byValue rfl ?_)
 refine aX (wpAny_callSpecialIfBound?_slot (gf s x t) VU (As VU (gf s x t) ahg ?_ (ahh _ _)))
 show bM _ _ (ret (.bool (J4 x.toList y.toList==.lt))) _ _ s
 exact Y (VV ..) (cq ⟨_,rfl,xH h⟩)
theorem VY {α:Type}{r:α→α→Prop}(ahj:∀a b,r a b→r b a→a=b):∀{l m:J α},l.Perm m→l.Pairwise r→m.Pairwise r→l=m:=by
 intro l
 induction l with
 |nil=>exact fun hp I I=>hp.nil_eq
 |cons a l az=>
  intro m hp aY bu
  induction m with
  |nil=>exact vD hp.eq_nil
  |cons b m=>
   have i2:=ve.mp aY
   have p2:=ve.mp bu
   have vE:a=b:=(cV.mp (hp.subset (.head _))).elim id fun BZ=>(cV.mp (hp.symm.subset (.head _))).elim Eq.symm fun fM=>ahj _ _ (i2.1 b fM) (p2.1 a BZ)
   subst vE
   exact bl (a::·) (az hp.cons_inv i2.2 p2.2)
section
variable {le:α→α→aZ}
theorem Na (x:α):∀l,(qP le x l).Perm (x::l)
 | []=>.refl _
 |y::r=>by
  by_cases h:le x y=af
  ·exact Y (show qP le x (y::r)=x::y::r from b3 h) (.refl _)
  ·exact Y (show qP le x (y::r)=y::qP le x r from bL h) (((Na x r).cons y).trans (.swap ..))
theorem jw:∀l,(A4 le l).Perm l
 | []=>.refl _
 |x::r=>(Na x _).trans ((jw r).cons x)
theorem ahk (Y:∀a b c,le a b=af→le b c=af→le a c=af)(to:∀a b,le a b=af∨le b a=af)(x:α):∀{l},l.Pairwise (fun a b=>le a b=af)→(qP le x l).Pairwise fun a b=>le a b=af:=by
 intro l
 induction l with
 |nil=>exact fun I=>List.pairwise_singleton ..
 |cons y r az=>
  intro h
  have p:=ve.mp h
  by_cases Cg:le x y=af
  ·rw[show qP le x (y::r)=x::y::r from b3 Cg];exact ve.mpr ⟨fun z ea=>(cV.mp ea).elim (fun e=>e▸Cg) fun ea=>Y _ _ _ Cg (p.1 z ea),h⟩
  ·rw[show qP le x (y::r)=y::qP le x r from bL Cg];exact ve.mpr ⟨fun z ea=>(cV.mp ((Na x r).subset ea)).elim (fun e=>e▸(to x y).resolve_left Cg) (p.1 z),az p.2⟩
theorem Nb (Y:∀a b c,le a b=af→le b c=af→le a c=af)(to:∀a b,le a b=af∨le b a=af):∀l,(A4 le l).Pairwise fun a b=>le a b=af
 | []=>.nil
 |x::r=>ahk Y to x (Nb Y to r)
end
theorem Nc (l:J (J am)):(eV l).Pairwise (·≤·):=
 (Nb (le:=fun a b:J am=>a9 (a≤b)) (fun a b c aY bu=>eO (List.le_trans (dg aY) (dg bu))) (fun a b=>(List.le_total a b).imp (eO ·) (eO ·)) l).imp fun h=>dg h
theorem ahl (l:J aq):(ha l).Pairwise (·≤·):=
 (Nb (le:=fun a b:aq=>a9 (a≤b)) (fun a b c aY bu=>eO (qt (dg aY) (dg bu))) (fun a b=>(Int.le_total a b).imp (eO ·) (eO ·)) l).imp fun h=>dg h
section
variable {K:a0}{a:aC}
theorem fe.Ci (H:aR g s.heap N O hp)(hk:∀b o,s.heap.get? b=B o→aj.get? b=B o)(b0:s.heap.get? a=ab)(aV:aj.get? a=B (hU "list" vs n))(aL:cp g s.heap N O l vs)(k:hX m (.br l) (.aP l) hp K):fe g A [] O N s (fun h N=>aE g h N O) K (.ref a) {s with heap:=aj,toks:=tk}:=
 .e0 H hk b0 k (.mk aV ((cz.app b0 hk).vs aL)) fun f=>.mk f (.mk aV ((cz.cw H hk).vs aL))
theorem GO {n:ah}(h:n≤16777216):(n:aq) < 2 ^ 63:=by lia
theorem ahm (H:aR g s.heap N O hp)(av:aE g s.heap N O d v)(h:bS (fK hp d) (fun l=>l.length≤1000000∧K (.ac l.length) hp) (bF (nJ hp d) fun l=>l.length≤1000000∧K (.ac l.length) hp)):eF g A O N s (cY (.builtin "len") [v] []) K X:=by
 refine(ys h).elim (fun h=>?_) fun h=>?_
 ·induction h with|mk e h=>
  induction oL H e av with|@mk p aG w=>
  induction w with|mk hd aL=>
  refine call_len_dict (knd:=hF g.p g.w) (jY.mpr fun q=>aG (q▸.head _)) hd (by refine aL.bJ▸?_;exact GO (ao h.1 (by decide))) ?_
  exact Y aL.bJ (.dV H (aE.i _ _) h.2)
 ·induction cQ.of h with|mk e h=>
  rcases Bf H e av with⟨-,w⟩|⟨-,w⟩
  ·induction w with|mk _ w=>
   induction w with|@mk vs n aV aL=>
   refine F' ⟨_,aV,rfl,n,rfl⟩ (by refine dD▸aL.bJ▸?_;exact GO (ao h.1 (by decide))) ?_
   exact Y dD (Y aL.bJ (.dV H (aE.i _ _) h.2))
  ·induction w with|mk _ w=>
   induction w with|@mk vs n aV aL=>
   refine call_len_list ⟨_,aV,rfl,n,rfl⟩ (by refine dD▸aL.bJ▸?_;exact GO (ao h.1 (by decide))) ?_
   exact Y dD (Y aL.bJ (.dV H (aE.i _ _) h.2))
set_option tactic.hygienic true in
theorem ahn (H:aR g s.heap N O hp)(av:aE g s.heap N O d v)(h:SM hp K d):eF g A O N s (cY (.builtin "len") [v] []) K X:=by
 cases d<;>first|exact ahm H av h|skip
 rename_i b
 induction av
 refine call_len_gives (n:=(b.toArray.size:ah)) (gf s _ _) W.FB.slot_bytes_len W.FB.entry_bytes_len (W.FB.args_bytes_len_1 _) (W.gives_bytes_len _ _) (ph.mpr (gY _)) (by refine dD▸?_;exact DT.mpr (GO h.1)) ?_
 exact dD▸(.dV H (aE.i _ _) h.2)
theorem aho (H:aR g s.heap N O hp)(av:aE g s.heap N O d v)(h:bF (gB hp d) fun l=>l.length≤1000∧K (.aW l) hp):eF g A O N s (cY (.type "tuple") [v] []) K X:=by
 induction cQ.of h with|mk e h=>
 induction oK H e av with|mk _ w=>
 induction w with|@mk vs n aV aL=>
 refine call_tuple_list ⟨_,aV,rfl,n,rfl⟩ (fun aj hk=>?_) (by refine dD▸aL.bJ▸?_;exact ao h.1 (by decide))
 exact .jG (.e7 (k:=s.toks) hk) (.Lo (t:=s.toks) (H.tO hk) h.2 ((cz.cw H hk).vs aL))
theorem ahp (H:aR g s.heap N O hp)(av:aE g s.heap N O (.aF x) v)(h:bF (dW x.cps.toList) fun c=>K (.ac (c:ah)) hp):eF g A O N s (cY (.builtin "ord") [v] []) K X:=by
 induction cQ.of h with|@mk c e h=>
 induction av
 obtain⟨⟨l⟩⟩:=x
 have h2:=(ml e:l=[c]);subst h2
 exact P.ord_of_char (.dV H (aE.i _ _) h)
theorem ahq (h:kB i):i.natAbs.log2 < 1920:=by
 by_cases ea:i.natAbs=0
 ·refine ea▸?_;decide
 ·exact ts ((Nat.log2_lt ea (k:=64)).mpr h) (by decide)
theorem Nd:∀{bs:J (J am)} {vs:J au},cp g h N O (bs.map .V) vs→vs.map Ce=bs∧∀v∈vs,∃b t,v=.bytes b t:=by
 intro bs
 induction bs with
 |nil=>intro vs r;induction r;exact⟨rfl,fun I=>dz⟩
 |cons b bs az=>
  intro vs r
  induction r with|mk h1 MV=>
  have z:=az MV
  induction h1
  exact⟨bl (b::·) z.1,fun v m=>(cV.mp m).elim (fun e=>⟨_,_,e⟩) (z.2 v)⟩
theorem VZ:∀{vs:J au},(∀v∈vs,∃b t,v=.bytes b t)→cp g h N O ((vs.map Ce).map .V) vs
 | [],_=>.mk
 |v::vs,bU=>by
  obtain⟨b,t,rfl⟩:=bU v (.head _)
  exact .mk (aE.b b.toList t) (VZ fun u m=>bU u (.tail _ m))
theorem ahr {f:au→dM au}:∀{vs:J au},(∀v∈vs,f v=bV c)→vs.mapM f=bV (vs.map fun I=>c):=by
 intro vs
 induction vs with
 |nil=>exact fun I=>Jc
 |cons v vs az=>
  intro bU
  rw[I8,bU v (.head _),az fun u m=>bU u (.tail _ m)];rfl
theorem V0 {f:au→dM (ax au)}:∀{vs:J au},(∀v∈vs,f v=bV c)→vs.mapM f=bV (vs.map fun I=>c)
 | [],_=>Jc
 |v::vs,bU=>by refine Y I8 (Y (bU v (.head _)) (Y (V0 fun u m=>bU u (.tail _ m)) ?_));rfl
theorem ahs (V1:∀v∈we::GP::vs,∃b t,v=.bytes b t):keyKind' (we::GP::vs).toArray=bV oneType':=by
 refine Y (keyKind'_eq ..) (Y (Qo ..) (Y (V0 (c:=ab) fun v m=>by obtain⟨b,t,rfl⟩:=V1 v m;rfl) ?_))
 simp only[map_pure,IP]
 refine Y (bL (by simp)) (Y (bL (by simp)) ?_)
 refine Y (oneTypeOnly'_eq ..) (Y (Qo ..) (Y (ahr (c:=.type "bytes") fun v m=>by obtain⟨b,t,rfl⟩:=V1 v m;rfl) ?_))
 simp only[map_pure,IP]
 have yF:((Jg (fun I=>tH "bytes") (we::GP::vs)).toArray.all fun x=>x==tH "bytes")=af:=by
  exact Y List.all_toArray (Y Je (gy.mpr fun I I=>rfl))
 have h0:(Jg (fun I=>tH "bytes") (we::GP::vs)).toArray[0]?=B (tH "bytes"):=rfl
 refine Y h0 ?_
 simp only[yF,E9,IP,Es]
end
section
variable {K:a0}{h aj:b8}
theorem V2 (hi:i < dp.size)(hx:∃b t,dp[i].1=.bytes b t):KK Cf dp i=Ce dp[i].1:=by
 refine hx.elim fun b cj=>cj.elim fun t e=>?_
 unfold KK;refine Y (getElem?_pos dp i hi) ?_
 show(Cf.keyOf dp[i].1).getD _=_
 refine Y e ?_;rfl
theorem aht (aL:cp g h N O (bs.map .V) vs)(bq:dp.Perm (pairsOf vs))(aG:SortedToK Cf dp (pairsOf vs).size):cp g h0 N O ((eV bs).map .V) (dp.map (·.2)).toList:=by
 refine(Nd aL).elim fun Cj ri=>?_
 have aw:dp.toList.Perm (vs.zip vs):=cN (Q0 ..) (Array.perm_iff_toList_perm.mp bq)
 have GQ:∀p,p∈dp.toList→p.1=p.2∧p.1∈vs:=fun p bq=>mem_zip_self (aw.mem_iff.mp bq)
 have e:(dp.map (·.2)).toList=dp.toList.map (·.1):=Y Array.toList_map (IY fun p bq=>(GQ p bq).1.symm)
 have yF:∀v∈dp.toList.map (·.1),∃b t,v=.bytes b t:=fun v av=>by
  refine(h9.mp av).elim fun p cj=>cj.elim fun bq pZ=>?_;subst pZ
  exact ri _ (GQ p bq).2
 have key:(dp.toList.map (·.1)).map Ce=eV bs:=by
  refine VY (fun I I=>I2) ?_ ?_ (Nc bs)
  ·have aY:=(aw.map (·.1)).map Ce
   rw[List.map_fst_zip (a8 _),Cj] at aY
   exact aY.trans (jw bs).symm
  ·refine List.pairwise_iff_getElem.mpr fun i j hi da ahu=>?_
   rw[cH,cH,DK] at hi da
   have aY:=aG i j (ir ahu) (cN bq.size_eq da)
   rw[V2 hi (ri _ (GQ dp[i] (PS hi)).2),V2 da (ri _ (GQ dp[j] (PS da)).2)] at aY
   exact Y (Ei ..) (Y (Ei ..) (Y (Ei ..) (Y (Ei ..) (Y (PT ..) (Y (PT ..) (En.mp (r2 aY)))))))
 exact e▸key▸(VZ yF)
theorem ahv (ri:∀v∈vs,∃b t,v=.bytes b t):KeysOf Cf (pairsOf vs):=by
 intro p bq
 rw[Q0] at bq
 exact(ri _ (mem_zip_self bq).2).elim fun b cj=>cj.elim fun t e=>⟨b.toList,by refine Y e ?_;rfl⟩
theorem V3 (h:bM (bB prog w) A.in1 (collect v) (fun vs ar=>vs.length≤16777216∧bM (bB prog w) A.in1 (cY (.builtin "list.sort") [.ref ar.heap.objs.size] []) (fun I iv=>Q (.ref ar.heap.objs.size) iv) E {ar with heap:=ar.heap.push {cls:=.type "list",data:=.seq vs.toArray}}) E s):
  bM (bB prog w) A (cY (.builtin "sorted") [v] []) Q E s:=by
 refine Calls.call_function_entry kind_sorted plain_sorted entry_sorted (args_sorted1 _) ?_
 unfold Builtin.«sorted»
 refine aX (m:=checkCount "sorted" 1 1 _) (cq ?_)
 refine aX (ou h (fun vs ar bU=>?_) fun I I e=>e)
 refine aX (JM ?_ bU.1)
 exact aX (pq (ou bU.2 (fun I iv q=>cq ⟨_,rfl,q⟩) fun I I e=>e))
theorem V4:∀{kvs:J (bf×au)} {vs:J au},dA g h N O l kvs→vs.length=kvs.length→(∀(j:ah) (v:au),vs[j]?=B v→∃k x,kvs[j]?=B (k,x)∧bf.is k v=af)→cp g aj N O (l.map fun p=>p.1.d) vs:=by
 induction l with
 |nil=>intro kvs vs x e k;induction x;exact Y (IS.mp e) (.mk)
 |cons p l az=>
  intro kvs vs x e k
  induction x with|mk a r=>
  induction a with|mk a=>
  induction vs with
  |nil=>exact nomatch e
  |cons v vs=>
   refine(k 0 v rfl).elim fun gq cj=>cj.elim fun x0 d3=>d3.elim fun eb gG=>?_
   exact .mk (bf.h1 ((bl lr (bo eb)).symm▸gG)) (az r (qx e) fun j v q=>k (j+1) v q)
abbrev GR (g:ci)(A:dc)(O N:J aC)(s:a3)(v:au)(l:J D):Prop:=∀(E:au→a3→Prop) (Q:J au→a3→Prop),(∀(aj:b8) (tk:ah) (vs:J au),(∀b o,s.heap.get? b=B o→aj.get? b=B o)→cp g aj N O l vs→Q vs {s with heap:=aj,toks:=tk})→bM (bB g.p g.w) A (collect v) Q E s
theorem V5 (bU:A.handled=ab)(H:aR g s.heap N O hp)(e:fK hp d=B l)(av:aE g s.heap N O d v)(aw:l.length≤1000):GR g A O N s v (l.map fun p=>p.1.d):=fun E Q k=>by
 induction oL H e av with|@mk p aG w=>
 induction w with|@mk kvs hd aL=>
 obtain⟨ep,bZ⟩:=hd.dictAt
 refine kdu_collect (kdl_dict (knd:=hF g.p g.w) (prog:=g.p) (w:=g.w) (d:=p) (kvs:=kvs) (ep:=ep) (jY.mpr fun q=>aG (q▸.head _))) bU bZ (by refine aL.bJ▸?_;exact ao aw (show(1000:ah)≤kT by decide)) fun aj tk acc hk Ck=>?_
 exact k aj tk _ hk (V4 aL (Y DK Ck.1) fun j v e=>Ck.2 j v (by refine cN IA ?_;exact e))
theorem ahw (H:aR g s.heap N O hp)(e:nJ hp d=B l)(av:aE g s.heap N O d v)(aw:l.length≤1000):GR g A O N s v l:=fun E Q k=>by
 have le:∀{vs:J au} {h:b8},cp g h N O l vs→vs.toArray.size≤kT:=fun r=>Y dD (Y r.bJ (ao aw (show(1000:ah)≤kT by decide)))
 rcases Bf H e av with⟨-,w⟩|⟨-,w⟩
 ·induction w with|mk _ w=>induction w with|mk aV aL=>exact Rj _ (.inr rfl) aV rfl rfl (fun aj hk=>k aj s.toks _ hk ((cz.cw H hk).vs aL)) (le aL)
 ·induction w with|mk _ w=>induction w with|mk aV aL=>exact Rj _ (.inl rfl) aV rfl rfl (fun aj hk=>k aj s.toks _ hk ((cz.cw H hk).vs aL)) (le aL)
theorem V6 (H:aR g s.heap N O hp)(wt:∀b o,s.heap.get? b=B o→aj.get? b=B o)(bC:cp g s.heap N O l out.toList)(hk:K (.aP l) hp):fe g A [] O N s (fun h N=>aE g h N O) K (.ref aj.objs.size) {s with heap:=sortedHeap (aj.push {cls:=.type "list",data:=.seq vs.toArray}) aj.objs.size vs out,toks:=tk}:=by
 refine(sortedHeap_at (out:=out) (ic aj (o:={cls:=.type "list",data:=.seq vs.toArray}) rfl)).elim fun e cP=>?_
 have q9:∀b o,s.heap.get? b=B o→(sortedHeap (aj.push {cls:=.type "list",data:=.seq vs.toArray}) aj.objs.size vs out).get? b=B o:=fun b o q=>by
  have lt:=py (wt b o q)
  refine Y (sortedHeap_old (rQ lt) (by refine Y (size_push' ..) ?_;exact QM lt)) ?_
  exact lx _ (wt b o q)
 exact .Ci (m:=ae) (tk:=tk) H q9 (pI (fun b o q=>⟨o,wt b o q⟩) (hZ _)) (n:=e) cP bC hk
theorem V7 (H:aR g s.heap N O hp)(Cm:bs.length < 64)(hk:K (.aP ((eV bs).map .V)) hp)(col:GR g A.in1 O N s v (bs.map .V)):eF g A O N s (cY (.builtin "sorted") [v] []) K X:=by
 refine V3 (col _ _ fun aj tk vs wt aL=>?_)
 have Cn:vs.length=bs.length:=Y (aL.bJ ..) (Y (cH ..) rfl)
 obtain⟨Cj,ri⟩:=Nd aL
 have sC:({s with heap:=aj.push {cls:=.type "list",data:=.seq vs.toArray},toks:=tk}:a3).heap.get? aj.objs.size=B (seqObj "list" vs.toArray 0):=ic _ rfl
 refine⟨Cn▸ao (ir Cm) (by decide),As Q2 ⟨_,sC,rfl⟩ QY (list_sort_treeK ahi sC (ahv ri) (fun we GP rest e=>ahs (e▸ri)) (Cn▸Cm) fun nT i2 p2=>⟨_,rfl,?_⟩) (Q1 _)⟩
 exact V6 H wt (aht aL i2 p2) hk
theorem V8:∀{vs:J au},cp g h N O (ns.map .ac) vs→IntsAre vs ns:=by
 induction ns with
 |nil=>intro vs x;induction x;exact .nil
 |cons n ns az=>intro vs x;induction x with|mk a r=>induction a with|mk t=>exact .cons _ t (az r)
theorem ahx (x:IntsAre vs ns):cp g h N O (ns.map .ac) vs:=by
 induction x with
 |nil=>exact .mk
 |cons n t r az=>exact .mk (aE.i n t) az
theorem ahy (H:aR g s.heap N O hp)(Cm:ns.length < 64)(hk:K (.aP ((ha ns).map .ac)) hp)(col:GR g A.in1 O N s v (ns.map .ac)):eF g A O N s (cY (.builtin "sorted") [v] []) K X:=by
 refine V3 (col _ _ fun aj tk vs wt aL=>?_)
 have Cn:vs.length=ns.length:=Y (aL.bJ ..) (Y (cH ..) rfl)
 have sC:({s with heap:=aj.push {cls:=.type "list",data:=.seq vs.toArray},toks:=tk}:a3).heap.get? aj.objs.size=B (seqObj "list" vs.toArray 0):=ic _ rfl
 refine⟨Cn▸ao (ir Cm) (by decide),As Q2 ⟨_,sC,rfl⟩ QY (list_sort_tree sC (V8 aL) (Cn▸Cm) fun out ahz rj jx sO=>⟨_,rfl,?_⟩) (Q1 _)⟩
 exact V6 H wt ((VY (fun a b aY bu=>Int.le_antisymm aY bu) (jx.trans (jw ns).symm) sO (ahl ns):ahz=ha ns)▸ahx rj) hk
theorem GS {α d0:Type}{f:α→ax d0}{q:α→D}{k:d0→D}(hf:∀a b,f a=B b→q a=k b):∀{l:J α} {bs:J d0},dF f l=B bs→l.map q=bs.map k:=by
 intro l
 induction l with
 |nil=>intro m e;exact bo e▸rfl
 |cons a l az=>
  intro m e
  obtain⟨b,bs,aT,aN,rfl⟩:=q1 e
  exact(bl (·::_) (hf a b aT)).trans (bl (k b::·) (az aN))
theorem ahA (h:tS k=B b):k.d=.V b:=by cases k<;>cases h;rfl
theorem ahB (h:Fp k=B b):k.d=.ac b:=by cases k<;>cases h;rfl
theorem ahC (bU:A.handled=ab)(H:aR g s.heap N O hp)(av:aE g s.heap N O d v)(h:Fq hp K d):eF g A O N s (cY (.builtin "sorted") [v] []) K X:=by
 have nZ:∀{n k:ah},k=n→k < 64→n≤1000:=fun e l=>e▸ao (ir l) (by decide)
 refine(ys h).elim (fun h=>?_) fun h=>?_
 ·induction h with|mk e h=>
  rcases ys h with h|h
  ·induction h with|mk aN h=>exact V7 H h.1 h.2 (GS (q:=fun p=>p.1.d) (k:=.V) (fun a b q=>ahA q) aN▸V5 (A:=A.in1) bU H e av (nZ (v3 aN) h.1))
  ·induction cQ.of h with|mk aN h=>exact ahy H h.1 h.2 (GS (q:=fun p=>p.1.d) (k:=.ac) (fun a b q=>ahB q) aN▸V5 (A:=A.in1) bU H e av (nZ (v3 aN) h.1))
 ·induction cQ.of h with|@mk l e h=>
  induction cQ.of h with|mk aN h=>
  have bZ:=GS (q:=fun p=>p) (k:=.V) (fun a b q=>pR q) aN
  rw[Em] at bZ
  exact V7 H h.1 h.2 (bZ▸ahw (A:=A.in1) H e av (nZ (v3 aN) h.1))
theorem ahD (bU:A.handled=ab)(H:aR g s.heap N O hp)(av:aE g s.heap N O d v)(h:SO m hp K d):eF g A O N s (cY (.type "list") [v] []) K X:=by
 have le:∀{n k:ah},k=n→n≤1000→k≤kT:=fun e l=>e▸ao l (show(1000:ah)≤kT by decide)
 refine(ys h).elim (fun h=>?_) fun h=>?_
 ·induction h with|mk e h=>
  induction oL H e av with|@mk p aG w=>
  induction w with|@mk kvs hd aL=>
  obtain⟨ep,bZ⟩:=hd.dictAt
  exact kdl_call (kdl_dict (knd:=hF g.p g.w) (prog:=g.p) (w:=g.w) (d:=p) (kvs:=kvs) (ep:=ep) (jY.mpr fun q=>aG (q▸.head _))) bU bZ (le aL.bJ h.1) fun aj tk acc dh hk aV Ck=>.Ci (tk:=tk) H hk (hZ _) (n:=dh) aV (V4 aL (Y DK Ck.1) fun j v e=>Ck.2 j v (by refine cN IA ?_;exact e)) h.2
 ·induction cQ.of h with|mk e h=>
  rcases Bf H e av with⟨-,w⟩|⟨-,w⟩
  ·induction w with|mk _ w=>induction w with|mk aV aL=>exact RC _ (.inr rfl) aV rfl rfl (fun aj dh hk e2=>.Ci (tk:=s.toks) H hk (hZ _) e2 aL h.2) (le (by rw[dD,aL.bJ]) h.1)
  ·induction w with|mk _ w=>induction w with|mk aV aL=>exact RC _ (.inl rfl) aV rfl rfl (fun aj dh hk e2=>.Ci (tk:=s.toks) H hk (hZ _) e2 aL h.2) (le (by rw[dD,aL.bJ]) h.1)
end
section
variable {K:a0}{k:bf}
theorem V9 (h:k.is v=af):(keyPart v).isSome=af:=
 bf.r4 (P:=fun I v=>(keyPart v).isSome=af) rfl (fun I I=>rfl) (fun I I=>rfl) (fun I I=>rfl) h
theorem GU (h:p∉l9):(p==Ax)=ae:=jY.mpr fun q=>h (q▸.head _)
theorem Nf (e:n=m)(h:m≤1000):n≤kT:=e▸ao h (show(1000:ah)≤kT by decide)
theorem ahE (H:aR g s.heap N O hp)(av:aE g s.heap N O d v)(hk:aE g s.heap N O kd ka)(cP:aE g s.heap N O e ev)(h:bF (fK hp d) fun l=>bF (dy kd) fun k=>K ((cB l k).getD e) hp):eF g A O N s (cY (.builtin "dict.get") [v,ka,ev] []) K X:=by
 induction cQ.of h with|mk aT h=>
 induction cQ.of h with|@mk k aN h=>
 induction oL H aT av with|@mk p aG w=>
 induction w with|@mk kvs hd aL=>
 refine oo PySem.F.slot_dict_get hd.typeIs PySem.F.entry_dict_get (PySem.F.args_dict_get_3 _ _ _) (meets_dict_get_default (hF g.p g.w) p (nP aN hk) (GU aG) ev) ⟨_,hd.mapOf,?_⟩
 show fe g A [] O N s _ K ((xU kvs k).getD ev) _
 generalize aV:cB _ k=o at h
 induction o with
 |some x=>induction aL.fv aV with|mk dK m3=>exact Y dK (.dV H m3 h)
 |none=>exact Y (aL.aK aV) (.dV H cP h)
theorem ahF (aV:d2 l k=ae):kX l k=l:=by
 unfold kX
 rw[List.filter_eq_self]
 exact fun a m=>by have:=Af.mp aV a m;simpa using this
theorem ahG {l:J ap}(e:l[i]?=B o):l.set i o=l:=by
 refine(gc.mp e).elim fun aw e=>?_
 exact e▸Qf aw
abbrev y6 (g:ci)(h:b8)(N O:J aC)(i:ah)(o:ap)(v:au):Prop:=f0 (fun p=>N[i]?=B p∧p∉l9) (fun p=>ht g h N O p o) v
theorem ahH (H:aR g s.heap N O hp)(av:y6 g s.heap N O i (.bv l) v)(e:hp[i]?=B (.bv l))(hk:aE g s.heap N O kd ka)(cP:aE g s.heap N O .aK ev)(h:bF (dy kd) fun k=>l.length≤1000∧K ((cB l k).getD .aK) (hp.set i (.bv (kX l k)))):
  eF g A O N s (cY (.builtin "dict.pop") [v,ka,ev] []) K X:=by
 induction cQ.of h with|@mk k aN h=>
 induction av with|@mk p da w=>
 induction w with|@mk kvs hd aL=>
 have nX:=nP aN hk
 generalize aV:cB l k=o at h
 induction o with
 |some x=>
  induction aL.fv aV with|@mk u dK m3=>
  refine oo RX hd.typeIs RW (RV _ _ _) (meets_dict_pop_there (hF g.p g.w) p nX [ev] (.inr ⟨_,rfl⟩) (V9 nX)) ⟨kvs,u,hd,Nf aL.bJ h.1,dK,fun aj jO gr=>?_⟩
  have M:=cz.fq (O:=O) da.1 gr
  exact .fq (o:=.bv (kX l k)) (t:=s.toks+1) H da.1 gr (jd.mk jO (M.aI aL.abY)) (M.v m3) h.2
 |none=>
  have bu:=h.2
  have bu:=(ahG e)▸((ahF (Lq aV))▸bu)
  induction cP
  exact oo RX hd.typeIs RW (RV _ _ _) (meets_dict_pop_default (hF g.p g.w) p nX (GU da.2) (V9 nX) .none) ⟨kvs,hd,aL.aK aV,.dV H aE.z bu⟩
theorem ahI (H:aR g s.heap N O hp)(av:y6 g s.heap N O i (.bv l) v)(bP:aE g s.heap N O (.a5 m) u)(h:l.length+m.length≤1000∧K .aK (hp.set i (.bv (jk l m)))):eF g A O N s (cY (.builtin "dict.update") [v,u] []) K X:=by
 induction av with|@mk p da w=>
 induction w with|@mk kvs hd aL=>
 induction bP with|@mk q bH w=>
 induction w with|@mk us jO ix=>
 refine oo PySem.F.slot_dict_update hd.typeIs PySem.F.entry_dict_update (PySem.F.args_dict_update_2 _ _) (meets_dict_update (hF g.p g.w) p q (fun z=>bH.r (z▸gZ da.1)) (GU bH.s)) ⟨kvs,us,hd,jO,Nf (Y aL.bJ (ix.bJ.symm▸rfl)) h.1,fun aj ahJ I gr=>?_⟩
 exact .fq (o:=.bv (jk l m)) (t:=s.toks) H da.1 gr (jd.mk ahJ ((cz.fq (O:=O) da.1 gr).aI (dA.LN ix aL))) aE.z h.2
theorem ahK (H:aR g s.heap N O hp)(av:y6 g s.heap N O i (.br l) v)(bP:aE g s.heap N O x u)(h:l.length≤1000000∧K .aK (hp.set i (.br (l++[x])))):eF g A O N s (cY (.builtin "list.append") [v,u] []) K X:=by
 induction av with|@mk p da w=>
 induction w with|@mk vs n aV aL=>
 refine Q7 ⟨n,aV⟩ (fun aj p7 gr=>?_) (by refine dD▸aL.bJ▸?_;exact ao h.1 (show(1000000:ah)≤kT by decide))
 refine p7.elim fun gm p7=>?_
 rw[Ef] at p7
 exact .fq (o:=.br (l++[x])) (t:=s.toks) H da.1 gr (kz.mk p7 ((cz.fq (O:=O) da.1 gr).vs (aL.app (.mk bP .mk)))) aE.z h.2
theorem ahL (H:aR g s.heap N O hp)(av:y6 g s.heap N O i (.br l) v)(bP:aE g s.heap N O (.aP m) u)(h:l.length+m.length≤1000000∧K .aK (hp.set i (.br (l++m)))):eF g A O N s (cY (.builtin "list.extend") [v,u] []) K X:=by
 induction av with|@mk p da w=>
 induction w with|@mk vs n aV aL=>
 induction bP with|@mk q bH w=>
 induction w with|@mk us gm e2 ix=>
 have ea:vs.toArray.size+us.toArray.size≤kT:=Y dD (Y dD (Y aL.bJ (Y ix.bJ (ao h.1 (by decide)))))
 have hc:aar (vs.toArray.size+us.toArray.size)=ae:=jZ (mI.mpr ea)
 have oM:=Sh aV (fun x=>x++us.toArray)
 rw[vc] at oM
 exact oo PySem.F.slot_list_extend ⟨_,aV,rfl⟩ PySem.F.entry_list_extend (PySem.F.args_list_extend_2 _ _) ((V' p vs.toArray n q us.toArray gm (Y hc (Y (rK ..) dO)) (ao (ed _ _) ea) (mH ea)).inModel g.p g.w) ⟨aV,e2,.fq (o:=.br (l++m)) (t:=s.toks) H da.1 (.update .. :hq p s.heap (s.heap.update p (Kp fun x=>x++us.toArray))) (kz.mk oM ((cz.fq (O:=O) da.1 (.update .. :hq p s.heap (s.heap.update p (Kp fun x=>x++us.toArray)))).vs (aL.app ix))) aE.z h.2⟩
end
theorem Wa (n:ah):aah n ab ab=(0,(n:aq)):=by
 show((if(0:aq) < 0 then max 0 (0+(n:aq))else 0),min (n:aq) (if(n:aq) < 0 then max 0 ((n:aq)+n)else n))=_
 exact Y (bL (by omega)) (Y (bL (by omega)) (Y (Int.min_self ..) rfl))
theorem ahM (b sub:J am)(t u:dv):
  pu (Builtin.«bytes.find» ⟨[.bytes b.toArray t,.bytes sub.toArray u],[]⟩) (fun A R s=>∀t' k,R (.ok (.ret (.int (mW b sub) t'))) {s with toks:=k}):=
 .of_wp fun prog w A R s h=>by
  unfold Builtin.«bytes.find» aag
  refine aX ?_
  unfold Z'
  refine aX (du (a:=(.bytes b.toArray t,[.bytes sub.toArray u])) rfl ?_)
  refine aX (du (a:=ab) rfl ?_)
  refine aX (du (a:=ab) rfl ?_)
  refine aX (du vB ?_)
  refine aX (cq ?_)
  refine aX (du (a:=b.toArray) rfl ?_)
  refine Y (Wa ..) ?_
  refine cq ?_
  have e:(rT (if((b.toArray.size:aq)) - 0 < (sub.toArray.size:aq)then ab else B ((0:aq).toNat,(b.toArray.size:aq).toNat)) fun x=>match x with| (lo,hi)=>if ae=af then RK b.toArray sub.toArray lo hi else EW b.toArray sub.toArray lo hi)=eA sub b 0:=by
   by_cases gF:(b.toArray.size:aq) - 0 < (sub.toArray.size:aq)
   ·refine Y (b3 gF) ?_
    rw[dD,dD] at gF
    exact(Tm b 0 (by omega)).symm
   ·exact Y (bL gF) (Tn sub b)
  unfold mW at h
  show bM _ _ (match(rT (if((b.toArray.size:aq)) - 0 < (sub.toArray.size:aq)then ab else B ((0:aq).toNat,(b.toArray.size:aq).toNat)) fun x=>match x with| (lo,hi)=>if ae=af then RK b.toArray sub.toArray lo hi else EW b.toArray sub.toArray lo hi)with|some i=>retInt (i:aq)|none=>_) _ _ _
  refine Y e ?_
  induction q:eA sub b 0 with
  |some i=>
   have h:=q▸h
   exact aX (Av (cq ⟨_,rfl,h _ _⟩))
  |none=>
   exact aX (oq (Y (bL (by decide)) (aX (Av (cq ⟨_,rfl,(q▸h) _ _⟩)))))
theorem ahN (b sub:J am)(t u:dv):
  pu (Builtin.«bytes.startswith» ⟨[.bytes b.toArray t,.bytes sub.toArray u],[]⟩) (fun A R s=>R (.ok (.ret (.bool (sub.isPrefixOf b)))) s):=
 .of_wp fun prog w A R s h=>by
  unfold Builtin.«bytes.startswith» aaa
  refine aX (du (a:=(.bytes b.toArray t,[.bytes sub.toArray u])) rfl ?_)
  refine aX (du (a:=ab) rfl ?_)
  refine aX (du (a:=ab) rfl ?_)
  refine aX (du (a:=b.toArray) rfl ?_)
  refine Y (Wa ..) ?_
  have fits:(if(b.toArray.size:aq) - 0 < (sub.toArray.size:aq)then ae else if ae=af then b.toArray.extract ((b.toArray.size:aq).toNat - sub.toArray.size) (b.toArray.size:aq).toNat==sub.toArray else b.toArray.extract (0:aq).toNat ((0:aq).toNat+sub.toArray.size)==sub.toArray)=sub.isPrefixOf b:=by
   by_cases gF:(b.toArray.size:aq) - 0 < (sub.toArray.size:aq)
   ·refine Y (b3 gF) ?_
    rw[dD,dD] at gF
    refine Y (Tk ..) ?_
    symm
    rw[jY]
    intro q
    have:=bl tr q
    rw[vg] at this
    omega
   ·refine Y (bL gF) (Y (bL (by decide)) ?_)
    have:=FI sub b 0
    rw[Ai] at this
    exact this
  refine aX (du (a:=ae) ?_ ?_)
  ·kernel_rfl
  refine Y (bL (by decide)) ?_
  refine aX (du vB ?_)
  refine cq ⟨_,rfl,?_⟩
  have h:=fits.symm▸h
  exact h
noncomputable def kj (x:am):J am→ah→J ah
 | [],_=>[]
 |c::r,k=>if c==x then k::kj x r (k+1)else kj x r (k+1)
noncomputable def GV (b:J am)(x:am)(acc:J ah×ah)(i:ah):J ah×ah:=
 if(a9 (i≥acc.2)&&b.toArray.extract i (i+1)== #[x])=af then(i::acc.1,i+1)else acc
theorem ahO (b:J am)(x:am)(i:ah):(b.toArray.extract i (i+1)== #[x])=(match b[i]? with|some c=>c==x|none=>ae):=by
 have:=FI [x] b i
 have e:(b.toArray.extract i (i+1)== #[x])=[x].isPrefixOf (b.drop i):=this
 rw[e]
 induction q:b[i]? with
 |none=>
  have:b.drop i=[]:=Ad.mpr (List.getElem?_eq_none_iff.mp q)
  rw[this];rfl
 |some c=>
  obtain⟨aw,aN⟩:=gc.mp q
  rw[IR aw,aN]
  show(x==c&&af)=(c==x)
  rw[IH]
  exact Bool.beq_comm
theorem idx_t (h:(c==x)=af):kj x (c::r) k=k::kj x r (k+1):=b3 h
theorem idx_f (h:¬ (c==x)=af):kj x (c::r) k=kj x r (k+1):=bL h
theorem spl_t (h:(c==x)=af):dC x (c::r)=[]::dC x r:=b3 h
theorem drop_hd {b r:J am}{c:am}{k:ah}(hd:b.drop k=c::r):k < b.length∧b[k]?=B c∧b.drop (k+1)=r:=
 have z:(b.drop k)[0]?=B c:=bl (fun l=>l[0]?) hd
 ⟨QN fun h=>aaG ((Ad.mpr h).symm.trans hd),(Qk (i:=k) (j:=0)).symm.trans z,Qx.symm.trans (bl QE hd)⟩
theorem ahP (b:J am)(x:am)(l:J am):∀(k:ah) (acc:J ah) (e:ah),b.drop k=l→e≤k→
  ((vi k l.length).foldl (GV b x) (acc,e)).1.reverse=acc.reverse++kj x l k:=by
 induction l with
 |nil=>exact fun k acc e I I=>(en _).symm
 |cons c r az=>
  intro k acc e hd cP
  have z:=drop_hd hd
  have st:GV b x (acc,e) k=if(c==x)=af then(k::acc,k+1)else(acc,e):=by
   unfold GV
   rw[ahO,z.2.1]
   simp only[ge_iff_le,cP,decide_true,II]
  rw[iO,I0,tp,st]
  by_cases hc:(c==x)=af
  ·rw[b3 hc,az (k+1) (k::acc) (k+1) z.2.2 (a8 _),idx_t hc,xu,dE];rfl
  ·rw[bL hc,az (k+1) acc e z.2.2 (mH cP),idx_f hc]
theorem Co (b:J am)(x:am):px b.toArray #[x] 0 b.toArray.size=kj x b 0:=by
 unfold px
 show(((g0 (b.toArray.size+1 - (0+1))).map (·+0)).foldl (GV b x) ([],0)).1.reverse=_
 have e:(g0 (b.toArray.size+1 - (0+1))).map (·+0)=vi 0 b.length:=by
  simp[IV]
 rw[e,ahP b x b 0 [] 0 (by simp) (a8 _)]
 simp
noncomputable def Cp (b:J am):ah→J ah→J (dn am)
 |j,[]=>[b.toArray.extract j b.toArray.size]
 |j,p::aI=>b.toArray.extract j p::Cp b (p+1) aI
theorem ahQ (b:J am)(aI:J ah):∀(parts:dn (dn am)) (j:ah),
  (let(q,last):=aI.foldl (fun(parts,last) p=>(parts.push (b.toArray.extract last p),p+1)) (parts,j);(q.push (b.toArray.extract last b.toArray.size)).toList)=parts.toList++Cp b j aI:=by
 induction aI with
 |nil=>exact fun parts j=>IB
 |cons p aI az=>
  intro parts j
  refine(az (parts.push (b.toArray.extract j p)) (p+1)).trans ?_
  rw[IB,dE];rfl
theorem ahR (b:J am)(aI:J ah):xY b.toArray 1 aI=Cp b 0 aI:=by
 unfold xY
 have:=ahQ b aI #[] 0
 simpa using this
noncomputable def wu (pre:J am):J (J am)→J (J am)
 | []=>[pre]
 |p::aI=>(pre++p)::aI
theorem Cq (h:¬ (c==x)=af):dC x (c::r)=wu [c] (dC x r):=(bL h).trans (by induction dC x r<;>rfl)
theorem Cr (x:am)(l:J am):dC x l≠[]:=by
 induction l with
 |nil=>exact tn _ _
 |cons c r=>
  by_cases hc:(c==x)=af
  ·exact fun e=>vD ((spl_t hc).symm.trans e)
  ·refine fun e=>?_
   have z:=(Cq hc).symm.trans e
   revert z
   induction dC x r<;>exact vD
theorem Wb (h:l≠[]):wu [] l=l:=by induction l with|nil=>exact cr rfl h|cons a r=>rfl
theorem att_att (p q:J am)(l:J (J am)):wu p (wu q l)=wu (p++q) l:=by
 induction l with
 |nil=>rfl
 |cons a l=>exact bl (·::l) (dE ..).symm
theorem ahS (b:J am)(x:am)(l:J am):∀(j k:ah),b.drop k=l→j≤k→k≤b.length→Cp b j (kj x l k)=(wu ((b.take k).drop j) (dC x l)).map pm:=by
 induction l with
 |nil=>
  intro j k hd da hk
  have e:=An hk (Ad.mp hd)
  subst e
  show[b.toArray.extract j b.toArray.size]=[((b.take b.length).drop j++[]).toArray]
  rw[en,I3]
  simp[DV]
 |cons c r az=>
  intro j k hd da hk
  have z:=drop_hd hd
  by_cases hc:(c==x)=af
  ·rw[spl_t hc,idx_t hc]
   show b.toArray.extract j k::Cp b (k+1) (kj x r (k+1))=((b.take k).drop j++[]).toArray::(dC x r).map pm
   rw[az (k+1) (k+1) z.2.2 (a8 _) z.1,I7,xD,Qy,Wb (Cr _ _),en]
   simp[I7]
  ·rw[Cq hc,idx_f hc,az j (k+1) z.2.2 (mH da) z.1,att_att,Qp,z.2.1,List.drop_append_of_le_length (by rw[vg];exact Nat.le_min.mpr ⟨da,ao da hk⟩)]
   rfl
theorem Wc (b:J am)(x:am):xY b.toArray 1 (px b.toArray #[x] 0 b.toArray.size)=(dC x b).map pm:=by
 rw[Co,ahR,ahS b x b 0 0 (by simp) (a8 _) (jD _)]
 rw[Qy,QA,Wb (Cr _ _)]
theorem ahT (sep:J am)(aI:J (J am)):∀(k:ah) (out:J am),0 < k→((aI.map pm).zipIdx k).foldl (fun out (p,i)=>(if i > 0 then out++sep.toArray else out)++p) out.toArray=(out++(aI.map (sep++·)).flatten).toArray:=by
 induction aI with
 |nil=>exact fun k out I=>bl pm (en out).symm
 |cons p aI az=>
  intro k out hk
  rw[h8,Qs,tp]
  show Jf _ ((if k > 0 then out.toArray++sep.toArray else out.toArray)++p.toArray) _=_
  rw[b3 hk,vc,vc,az (k+1) (out++sep++p) (tt k)]
  exact bl pm (by rw[h8,Ed,dE,dE,dE])
theorem Ng (sep:J am)(aI:J (J am)):∀(p:J am),kZ sep (p::aI)=p++(aI.map (sep++·)).flatten:=by
 induction aI with
 |nil=>exact fun p=>(en p).symm
 |cons q aI az=>exact fun p=>(bl (p++sep++·) (az q)).trans ((dE ..).trans (bl (p++·) (dE ..).symm))
theorem Wd (sep:J am)(aI:J (J am)):AG sep.toArray (aI.map pm)=(kZ sep aI).toArray:=by
 unfold AG
 induction aI with
 |nil=>rfl
 |cons p aI=>
  rw[h8,Qs,tp,Ng]
  have:=ahT sep aI 1 p (by decide)
  simp only[gt_iff_lt,Ao,AP]
  have e:(#[]:dn am)++p.toArray=p.toArray:=by simp
  rw[e]
  exact this
theorem ahU (x y:am)(b:J am):kZ [y] (dC x b)=b.map fun c=>if c==x then y else c:=by
 induction b with
 |nil=>rfl
 |cons c r az=>
  rw[h8,←az]
  by_cases hc:(c==x)=af
  ·rw[spl_t hc,b3 hc]
   induction aG:dC x r with
   |nil=>exact cr aG (Cr _ _)
   |cons p aI=>rfl
  ·rw[Cq hc,bL hc]
   induction aG:dC x r with
   |nil=>exact cr aG (Cr _ _)
   |cons p aI=>rw[show wu [c] (p::aI)=([c]++p)::aI from rfl,Ng,Ng];rfl
theorem We {x:am}{l:J am}:∀{k:ah},kj x l k=[]→(∀y,(l.map fun c=>if c==x then y else c)=l)∧dC x l=[l]:=by
 induction l with
 |nil=>exact fun I=>⟨fun I=>rfl,rfl⟩
 |cons c r az=>
  intro k h
  by_cases hc:(c==x)=af
  ·exact vD ((idx_t hc).symm.trans h)
  ·have z:=az ((idx_f hc).symm.trans h)
   exact⟨fun y=>by rw[h8,bL hc,z.1],by rw[Cq hc,z.2];rfl⟩
theorem Cs {id:gg}(h:Q b s):bM M A (RG id (.bytes b t)) Q E s:=by
 unfold RG
 exact aX (du vB (cq h))
theorem Wf (b:dn am)(t:dv):aak .bytes (.bytes b t)=bV (.bytes b t):=rfl
theorem Wg (h:n≤3000000):AF n=ae:=by
 unfold AF;refine vo▸?_;simp only[decide_eq_false_iff_not];lia
theorem Wh (x:am)(l:J am):∀(k:ah),(kj x l k).length≤l.length:=by
 induction l with
 |nil=>exact fun I=>a8 _
 |cons c r az=>
  intro k
  by_cases hc:(c==x)=af
  ·exact Y (idx_t hc) (d8 (az (k+1)))
  ·exact Y (idx_f hc) (mH (az (k+1)))
theorem ahV (b:J am)(x y:am)(t u v:dv)(ay:b.length≤1000000):
  pu (Builtin.«bytes.replace» ⟨[.bytes b.toArray t,.bytes #[x] u,.bytes #[y] v],[]⟩) (fun A R s=>∀t' k,R (.ok (.ret (.bytes (b.map fun c=>if c==x then y else c).toArray t'))) {s with toks:=k}):=
 .of_wp fun prog w A R s h=>by
  unfold Builtin.«bytes.replace» aae
  refine aX (du (a:=(.bytes b.toArray t,[.bytes #[x] u,.bytes #[y] v])) rfl ?_)
  refine aX (Cs ?_)
  refine aX (Cs ?_)
  refine aX (cq ?_)
  refine aX (Cs ?_)
  refine aX (Cs ?_)
  refine aX (du (a:=b.toArray) rfl ?_)
  have ahW:(#[x]:dn am).isEmpty=ae:=rfl
  have aT:(if(#[x]:dn am).isEmpty=af then g0 (b.toArray.size+1)else px b.toArray #[x] 0 b.toArray.size)=kj x b 0:=by
   rw[ahW,bL (by decide)];exact Co b x
  have aN:(if(-1:aq) < 0 then(if(#[x]:dn am).isEmpty=af then g0 (b.toArray.size+1)else px b.toArray #[x] 0 b.toArray.size)else(if(#[x]:dn am).isEmpty=af then g0 (b.toArray.size+1)else px b.toArray #[x] 0 b.toArray.size).take (-1:aq).toNat)=kj x b 0:=by
   rw[b3 (by decide)];exact aT
  show bM _ _ (if((if(-1:aq) < 0 then(if(#[x]:dn am).isEmpty=af then g0 (b.toArray.size+1)else px b.toArray #[x] 0 b.toArray.size)else(if(#[x]:dn am).isEmpty=af then g0 (b.toArray.size+1)else px b.toArray #[x] 0 b.toArray.size).take (-1:aq).toNat).isEmpty||_)=af then _ else _) _ _ _
  rw[aN]
  induction q:kj x b 0 with
  |nil=>
   rw[b3 (show(([]:J ah).isEmpty||(#[x]:dn am).isEmpty&&(#[y]:dn am).isEmpty)=af from rfl)]
   refine aX (oq (aX (du (Wf _ _) (cq ⟨_,rfl,?_⟩))))
   have:=h t s.toks
   rw[(We q).1 y] at this
   exact this
  |cons p aI=>
   rw[bL (by simp)]
   rw[←q]
   have aw:=Wh x b 0
   show bM _ _ (if AF (b.toArray.size+(kj x b 0).length *1)=af then _ else _) _ _ _
   rw[Wg (by rw[dD];lia),bL (by decide)]
   have dK:AG #[y] (xY b.toArray (#[x]:dn am).size (kj x b 0))=(b.map fun c=>if c==x then y else c).toArray:=by
    rw[←Co b x]
    show AG [y].toArray (xY b.toArray 1 _)=_
    rw[Wc,Wd,ahU]
   rw[dK]
   exact aX (EB (cq ⟨_,rfl,h _ _⟩) (by rw[dD,cH,vo];lia))
theorem sP (x:am)(l:J am):(dC x l).length≤l.length+1∧∀p∈dC x l,p.length≤l.length:=by
 induction l with
 |nil=>exact⟨a8 _,fun p h=>df.mp h▸a8 _⟩
 |cons c r az=>
  by_cases hc:(c==x)=af
  ·rw[spl_t hc]
   exact⟨d8 az.1,fun p hp=>(cV.mp hp).elim (fun e=>e▸jD _) fun hp=>mH (az.2 p hp)⟩
  ·rw[Cq hc]
   revert az
   induction dC x r with
   |nil=>exact fun az=>⟨d8 (jD _),fun q bH=>df.mp bH▸d8 (jD _)⟩
   |cons p aI=>exact fun az=>⟨mH az.1,fun q bH=>(cV.mp bH).elim (fun e=>e▸d8 (az.2 p (.head _))) fun bH=>mH (az.2 q (.tail _ bH))⟩
theorem ahX:∀(l:J (J am)) (s:a3) (Q:J au→a3→Prop),(∀p∈l,p.length≤1000000)→(∀vs k,cp g h N O (l.map .V) vs→Q vs {s with toks:=k})→
  bM M A ((l.map pm).mapM (RL .bytes)) Q E s:=by
 intro l
 induction l with
 |nil=>intro s Q I dJ;rw[Jd,Jc];exact cq (dJ _ s.toks .mk)
 |cons p r az=>
  intro s Q hp dJ
  rw[h8,I8]
  refine aX (EB ?_ (by rw[dD];exact ao (hp p (.head _)) (by decide)))
  exact aX (az _ _ (fun q bH=>hp q (.tail _ bH)) fun vs k aL=>cq (dJ _ k (.mk (aE.b _ _) aL)))
theorem ahY (b:J am)(x:am)(t u:dv)(ay:b.length≤1000000):
  pu (Builtin.«bytes.split» ⟨[.bytes b.toArray t,.bytes #[x] u],[]⟩) (fun A R s=>∀vs k,cp g s.heap N O ((dC x b).map .V) vs→R (.ok (.ret (.ref s.heap.objs.size))) {s with heap:=s.heap.push {cls:=.type "list",data:=.seq vs.toArray},toks:=k}):=
 .of_wp fun prog Ct A R s h=>by
  unfold Builtin.«bytes.split» aai
  refine aX (du (a:=[B (.bytes #[x] u),ab]) ?_ ?_)
  ·kernel_rfl
  refine aX (cq ?_)
  refine aX (du (a:=b.toArray) rfl ?_)
  refine aX (Cs ?_)
  rw[bL (show ¬ (#[x]:dn am).isEmpty=af from dO)]
  have aT:(px b.toArray #[x] 0 b.toArray.size).take (b.toArray.size+1)=kj x b 0:=by
   rw[Co]
   exact DV (by rw[dD];exact mH (Wh x b 0))
  show bM _ _ (if((px b.toArray #[x] 0 b.toArray.size).take (b.toArray.size+1)).isEmpty=af then _ else _) _ _ _
  rw[aT]
  induction q:kj x b 0 with
  |nil=>
   rw[b3 (show([]:J ah).isEmpty=af from rfl)]
   exact aX (oq (aX (du (Wf _ _) (aX (JM (cq ⟨_,rfl,h _ s.toks (by rw[(We q).2];exact .mk (aE.b _ _) .mk)⟩) (show(1:ah)≤kT by decide))))))
  |cons p aI=>
   rw[bL (show ¬ (p::aI).isEmpty=af from dO)]
   show bM _ _ (List.mapM J5.new (xY b.toArray 1 ((px b.toArray #[x] 0 b.toArray.size).take (b.toArray.size+1)))>>=_) _ _ _
   rw[aT,←Co b x,Wc]
   have aw:=sP x b
   refine aX (ahX (g:=g) (h:=s.heap) (N:=N) (O:=O) (dC x b) _ _ (fun p hp=>ao (aw.2 p hp) ay) fun vs k aL=>?_)
   exact aX (JM (cq ⟨_,rfl,h vs k aL⟩) (by rw[aL.bJ,cH];exact ao aw.1 (ao (d8 ay) (by decide))))
theorem Wi (aD:ah→d0→Prop)(turn:∀i c,i < n→aD i c→bM M A (F i c) (fun r ar=>match r with| .yield dh=>ar=s∧aD (i+1) dh| .done dh=>Q dh ar) E s)(fin:∀c,aD n c→Q c s)(h:aD 0 c):bM M A (ti [0:n] c F) Q E s:=by
 refine Y (aaE ..) ?_
 have e:[0:n].size=n:=by simp[aaF]
 refine Y e ?_
 have st:∀{x rest i},x::rest=vi i (n - i)→i < n∧x=i∧rest=vi (i+1) (n - (i+1)):=fun {x rest i} e=>by
  by_cases hi:i < n
  ·rw[show n - i=n - (i+1)+1 from(Nat.sub_add_cancel (Nat.sub_pos_of_lt hi)).symm,I0] at e
   exact⟨hi,(xA e).1,(xA e).2⟩
  ·rw[Jk (Am hi)] at e;exact vD e
 refine wpAny_forIn_list F (fun rest c ar=>ar=s∧∃i,rest=vi i (n - i)∧i≤n∧aD i c) Q ?_ ?_ _ c ⟨rfl,0,rfl,jD _,h⟩
 ·rintro x rest c ar ⟨rfl,i,aT,aN,dK⟩
  obtain⟨hi,rfl,fN⟩:=st aT
  exact ou (turn x c hi dK) (fun r ar aL=>by induction r;exact aL;exact⟨aL.1,x+1,fN,hi,aL.2⟩) fun I I x=>x
 ·rintro c ar ⟨rfl,i,aT,aN,dK⟩
  exact fin c ((An aN (by have:=bl tr aT;rw[List.length_range',I6] at this;exact Jj this.symm):i=n)▸dK)
theorem Wj {id:gg}(h:Q (B (b,ab)) s):bM M A (RE id (.bytes b t) 0) Q E s:=by
 unfold RE Y'
 exact aX (Ez (aX (du (AN E7) (aX (du So (Y (bL (by decide)) (aX (du (AN E7) (aX (du vB (cq (cq h))))))))))))
theorem Wk:∀(taken:J (au×ax au)) {Q:g5→a3→Prop},(∀p∈taken,p.2=ab)→Q () s→bM M A (aab taken keep) Q E s
 | [],_,_,h=>cq h
 | (x,w)::r,Q,aA,h=>by
  have e:w=ab:=aA _ (.head _)
  subst e
  exact aX (m:=letGo _ _) (wpAny_letGo (Wk r (fun p hp=>aA p (.tail _ hp)) h))
theorem ahZ (aI:J (J am)):∀n:ah,(aI.map pm).foldl (fun(a:ah) (x:dn am)=>a+x.size) n=n+(aI.map tr).sum:=by
 induction aI with
 |nil=>exact fun n=>rfl
 |cons p aI az=>intro n;rw[h8,tp,az,h8,QB,dD,gd]
theorem Nh (sep:J am):∀(aI:J (J am)),(kZ sep aI).length=sep.length *(aI.length - 1)+(aI.map tr).sum
 | []=>rfl
 | [p]=>(iP _).symm
 |p::q::aI=>by
  show(p++sep++kZ sep (q::aI)).length=sep.length *(aI.length+1)+(p.length+((q::aI).map tr).sum)
  refine Y (cG ..) (Y (cG ..) (Y (Nh sep (q::aI)) (Y (tu ..) ?_)))
  show p.length+sep.length+(sep.length *aI.length+_)=_
  lia
def ah0 (bs:J (J am))(i:ah)(c:dn (dn am)×J (au×ax au)):Prop:=c.1=((bs.take i).map pm).toArray∧∀p∈c.2,p.2=ab∧p.1.onHeap=ae
theorem ah1 (key:bM M A m Q E s)(h:∀v,vs=[v]→s.TypeIs v "bytes"∧∀k,Q (.done (.ret v)) {s with toks:=k}):
  bM M A (if(J5==J5)=af then
   match vs.toArray with
   | #[x]=>do
    if(←kW x)==tH "bytes" then
     rule "bytes.join.one-item"
     ret x
    else m
   |x=>m
  else m) Q E s:=by
 match vs with
 | []=>exact key
 | [v]=>
  refine aX (m:=kW _) (xM (h v rfl).1 ?_)
  exact aX (oq (cq ((h v rfl).2 s.toks)))
 |_::_::_=>exact key
theorem ah2 (b:J am)(l:aC)(vs:J au)(bs:J (J am))(n:ah)(t:dv)(aL:cp g h0 N O (bs.map .V) vs)(ea:(kZ b bs).length≤1000000):
  pu (Builtin.«bytes.join» ⟨[.bytes b.toArray t,.ref l],[]⟩) (fun A R s=>s.heap.get? l=B (hU "list" vs n)∧∀t' k,R (.ok (.ret (.bytes (kZ b bs).toArray t'))) {s with toks:=k}):=
 .of_wp fun prog w A R s eb=>eb.elim fun aV h=>by
  refine(Nd aL).elim fun Cj ri=>?_
  have at_:∀{i:ah} {v:au},vs[i]?=B v→∃p t',bs[i]?=B p∧v=.bytes p.toArray t':=fun {i v} e=>by
   obtain⟨x,t',rfl⟩:=ri v (gZ e)
   exact⟨x.toList,t',by refine Cj▸gP▸e▸?_;rfl,rfl⟩
  have aw:bs.length=vs.length:=Cj▸cH ..
  unfold Builtin.«bytes.join» aaj
  refine aX (du (a:=(.bytes b.toArray t,.ref l)) rfl ?_)
  refine aX (m:=RH (.ref l)) ?_
  unfold RH
  refine aX (xM ⟨_,aV,rfl⟩ ?_)
  refine Y (b3 (by decide)) ?_
  refine cq (aX (xK aV rfl ?_))
  refine ah1 (vs:=vs) ?_ fun v e=>?_
  ·refine aX (Wi (ah0 bs) (fun i c hi hc=>?_) (fun c hc=>?_) ⟨rfl,fun p hp=>dz hp⟩)
   ·obtain⟨p,t',aT,aN⟩:=at_ (hQ hi)
    refine aX (xK aV rfl ?_)
    show bM _ _ (if(_||c.2.any fun x=>x.1.onHeap)=af then _ else _) _ _ _
    have b0:(c.2.any fun x=>x.1.onHeap)=ae:=Af.mpr fun x hx=>by exact Y ((hc.2 x hx).2) dO
    have dK:vs.toArray.getD i iU=.bytes p.toArray t':=by exact cN aN (dif_pos hi)
    refine Y b0 (Y (bL (by decide)) (Y dK ?_))
    refine aX (pq (Wj (aX (xK aV rfl ?_))))
    show bM _ _ (if(vs.toArray.size !=vs.toArray.size)=af then _ else _) _ _ _
    refine Y (tJ ..) (Y (bL dO) ?_)
    refine cq ⟨rfl,?_,fun q bH=>(fE.mp bH).elim (hc.2 q) fun bH=>df.mp bH▸⟨rfl,rfl⟩⟩
    show c.1.push p.toArray=_
    refine Y (hc.1 ..) (Y (Qp ..) (Y aT (Y (eS ..) (Y (Ef ..) ?_))));rfl
   ·have dK:c.1=(bs.map pm).toArray:=by exact Y hc.1 (dD.symm▸(DV (eT aw)).symm▸rfl)
    refine aX (du (a:=b.toArray) rfl ?_)
    have ah3:AF (c.1.foldl (fun(a:ah) (x:dn am)=>a+x.size) (b.toArray.size *(c.1.size - 1)))=ae:=by
     exact Y dK (cN (Array.foldl_toList ..) (Y (ahZ ..) (Y (dD ..) (Y (dD ..) (Y (cH ..) (cN (Nh ..) (Wg (ao ea (by decide)))))))))
    show bM _ _ (if AF (c.1.foldl (fun(a:ah) (x:dn am)=>a+x.size) (b.toArray.size *(c.1.size - 1)))=af then _ else _) _ _ _
    refine Y ah3 (Y (bL dO) ?_)
    show bM _ _ (RL .bytes (AG b.toArray c.1.toList)>>=_) _ _ _
    exact Y dK (Y (Wd b bs) (aX (EB (aX (pq (wpAny_point (aX (Wk _ (fun p hp=>(hc.2 p hp).1) (cq ⟨_,rfl,h _ _⟩)))))) (Y dD (ao ea (by decide))))))
  ·subst e
   obtain⟨p,t',aT,aN⟩:=at_ (i:=0) rfl
   have dK:bs=[p]:=(IT.mp aw).elim fun q bH=>bH.trans (bl (fun x=>[x]) (bo ((bl (fun l:J (J am)=>l[0]?) bH).symm.trans aT)))
   subst aN dK
   exact⟨gf s _ _,fun k=>⟨_,rfl,h t' k⟩⟩
section
open PySem.SeqAt (EqAt)
theorem ah4 {α:Type}{f:α→aZ}{l:J α}{y:α}(e:l[k]?=B y)(h:(l.drop k).findIdx? f=B i):(f y=af∧i=0)∨(f y=ae∧∃j,i=j+1∧(l.drop (k+1)).findIdx? f=B j):=by
 refine(gc.mp e).elim fun aw aN=>?_
 rw[IR aw,aN,Eb] at h
 induction hf:f y with
 |true=>rw[hf] at h;exact .inl ⟨rfl,(bo h).symm⟩
 |false=>
  rw[hf] at h
  exact(iu.mp h).elim fun j cj=>cj.elim fun q e=>.inr ⟨rfl,j,e.symm,q⟩
theorem ah5 (l:aC)(vs:J au)(n:ah)(x:au){A:dc}{R:l5→a3→Prop}(f:au→aZ)(cP:∀y∈vs,jX A.in1 s y x (f y))(i:ah)(hi:vs.findIdx? f=B i)(aV:s.heap.get? l=B (hU "tuple" vs n))(h:∀t' k,R (.ok (.ret (.int i t'))) {s with toks:=k}):
  bM (bB prog w) A.in1 (Builtin.«tuple.index» ⟨[.ref l,x],[]⟩) (fun fin ar=>∃v,fin=.done (.ret v)∧R (.ok (.ret v)) ar) (fun e ar=>R (.error e) ar) s:=by
 unfold Builtin.«tuple.index»
 refine aX (du (a:=(.ref l,[x])) rfl (aX (wpAny_tupleItemsOf aV rfl (aX (cq (aX (cq (aX ?_))))))))
 refine Y (Nat.min_self ..) (Y (dD ..) ?_)
 refine Wi (n:=vs.length) (fun k I=>∃j,(vs.drop k).findIdx? f=B j∧i=k+j) (fun k c gF q=>?_) (fun c q=>?_) ⟨i,hi,(iP i).symm⟩
 ·obtain⟨j,aN,dK⟩:=q
  refine(by exact rL.symm▸(hQ gF).symm▸rfl:vs.toArray[k]?=some vs[k])▸?_
  refine aX (cP vs[k] (Qt gF) prog w _ _ ?_)
  rcases ah4 (hQ gF) aN with⟨g1,rfl⟩|⟨g1,y7,rfl,g2⟩
  ·exact Y (b3 g1) (aX (aX (Av (cq (cq (cq ⟨_,rfl,(show i=k from dK)▸h _ _⟩))))))
  ·refine Y (bL (by refine Y g1 ?_;exact dO)) ?_
   exact cq ⟨rfl,y7,g2,by lia⟩
 ·obtain⟨j,aN, -⟩:=q
  have aN:=List.drop_length▸aN;exact nn aN
section
variable {K:a0}
theorem ah6:∀{vs:J au},cp g h N O l vs→(l.all fun e=>(dy e).isSome)=af→vs.findIdx? (fun y=>k.is y)=l.findIdx? fun e=>a9 (dy e=B k):=by
 induction l with
 |nil=>intro vs x _;induction x;rfl
 |cons d l az=>
  intro vs x b0
  rw[xz,IF] at b0
  induction x with|mk av aL=>exact Y Eb (Y Eb (Y (LA b0.1 av) (Y (az aL b0.2) rfl)))
theorem ah7 (H:aR g s.heap N O hp)(av:aE g s.heap N O (.aW l) v)(bP:aE g s.heap N O x u)(h:bF (dy x) fun k=>bF (l.findIdx? fun e=>a9 (dy e=B k)) fun i=>((l.all fun e=>(dy e).isSome)=af∧l.length≤1000)∧K (.ac i) hp):eF g A O N s (cY (.builtin "tuple.index") [v,u] []) K X:=by
 induction cQ.of h with|@mk k aT h=>
 induction cQ.of h with|mk aN h=>
 induction av with|@mk p aqr w=>
 induction w with|mk aV aL=>
 refine As M.T7 ⟨_,aV,rfl⟩ M.adZ (ah5 (R:=wants (fe g A [] O N s (fun h N=>aE g h N O) K) (gR g A [] O N s X)) p _ _ u (fun y=>k.is y) (fun y eI=>(LB aL h.1.1 (nP aT bP)).2 y (Ag.mpr eI)) _ ?_ aV fun t' k=>.dV H (aE.i _ _) h.2) (M.ad0 _ _)
 exact Y (ah6 aL h.1.1) aN
theorem Ni {b:dn am}{u:dv}{T:gg}(gn:(tH "bytes"==tH T)=ae)(LU:kW (.type T)=bV (.type "type"))(Wl:JU (.type "bytes") (.type T)=bV ae)(bH:Q (.bool ae) {s with toks:=s.toks+1}):bM (bB prog w) A (cY (.builtin "isinstance") [.bytes b u,.type T]) Q E s:=
 call_isinstance (show pu (Builtin.«isinstance» ⟨[.bytes b u,.type T],[]⟩) (fun I R s=>R (.ok (.ret (.bool ae))) {s with toks:=s.toks+1}) from fun I I I I s aG=>by
  obtain⟨h,g,d,t,os⟩:=s
  exact isinstance_outer (isinstance_nested_false_bytes gn LU Wl aG)) bH
theorem ah8 (H:aR g s.heap N O hp)(av:aE g s.heap N O d v)(h:t≠1∧bF (fK hp d) fun I=>K (.be (a9 (t=0))) hp):eF g A O N s (cY (.builtin "isinstance") [v,yA t] []) K X:=by
 induction cQ.of h.2 with|mk e k=>
 induction oL H e av with|@mk p aG w=>
 induction w with|mk hd aL=>
 refine(id hd).elim fun o cj=>cj.elim fun I d3=>d3.elim fun I fW=>fW.elim fun fN sB=>sB.elim fun p5 I=>?_
 induction t with
 |zero=>exact IsiPair.dict_dict fN p5.1 (.dV H (aE.o _) k)
 |succ t=>induction t with
  |zero=>exact cr rfl h.1
  |succ t=>exact IsiPair.dict_bool fN p5.1 (.dV H (aE.o _) k)
theorem ah9 (H:aR g s.heap N O hp)(av:aE g s.heap N O d v)(h:sj hp d t K):eF g A O N s (cY (.builtin "isinstance") [v,yA t] []) K X:=by
 cases d<;>first|exact ah8 H av h|skip
 ·induction av
  induction t with
  |zero=>exact IsiPair.bool_dict (.dV H (aE.o _) h)
  |succ t=>induction t with
   |zero=>exact IsiPair.bool_int (.dV H (aE.o _) h)
   |succ t=>exact IsiPair.bool_bool (.dV H (aE.o _) h)
 ·induction av
  induction t with
  |zero=>exact IsiPair.int_dict (.dV H (aE.o _) h)
  |succ t=>induction t with
   |zero=>exact IsiPair.int_int (.dV H (aE.o _) h)
   |succ t=>exact IsiPair.int_bool (.dV H (aE.o _) h)
 ·induction av
  induction t with
  |zero=>exact Ni (by decide+kernel) F.isi_meta_dict F.sub_bytes_dict (.dV H (aE.o _) h)
  |succ t=>induction t with
   |zero=>exact Ni (by decide+kernel) F.isi_meta_int R5 (.dV H (aE.o _) h)
   |succ t=>exact Ni (by decide+kernel) F.isi_meta_bool F.sub_bytes_bool (.dV H (aE.o _) h)
theorem aia (H:aR g s.heap N O hp)(av:aE g s.heap N O (.V b) v)(bP:aE g s.heap N O (.V c) u)(h:K (.ac (mW b c)) hp):eF g A O N s (cY (.builtin "bytes.find") [v,u] []) K X:=by
 induction av;induction bP
 exact oo M.T2 (gf s _ _) M.adK (M.adL _ _) ((ahM _ _ _ _).inModel g.p g.w) fun t' k=>.dV H (aE.i _ _) h
theorem aib (H:aR g s.heap N O hp)(av:aE g s.heap N O (.V b) v)(bP:aE g s.heap N O (.V c) u)(h:K (.be (c.isPrefixOf b)) hp):eF g A O N s (cY (.builtin "bytes.startswith") [v,u] []) K X:=by
 induction av;induction bP
 exact oo M.T3 (gf s _ _) M.adN (M.adO _ _) ((ahN _ _ _ _).inModel g.p g.w) (.dj H (aE.o _) h)
theorem aic {x y:am}(H:aR g s.heap N O hp)(av:aE g s.heap N O (.V b) v)(bP:aE g s.heap N O (.V [x]) u)(aid:aE g s.heap N O (.V [y]) aie)(h:b.length≤1000000∧K (.V (b.map fun c=>if c==x then y else c)) hp):eF g A O N s (cY (.builtin "bytes.replace") [v,u,aie] []) K X:=by
 induction av;induction bP;induction aid
 exact oo M.T5 (gf s _ _) M.adT (M.adU _ _ _) ((ahV _ _ _ _ _ _ h.1).inModel g.p g.w) fun t' k=>.dV H (aE.b _ _) h.2
theorem aif {x:am}(H:aR g s.heap N O hp)(av:aE g s.heap N O (.V b) v)(bP:aE g s.heap N O (.V [x]) u)(h:b.length≤1000000∧K (.aP ((dC x b).map .V)) hp):eF g A O N s (cY (.builtin "bytes.split") [v,u] []) K X:=by
 induction av;induction bP
 exact oo M.T4 (gf s _ _) M.adQ (M.adR _ _) ((ahY (g:=g) (N:=N) (O:=O) _ _ _ _ h.1).inModel g.p g.w) fun vs k aL=>.Ci (m:=ae) (tk:=k) H fV (hZ _) (n:=0) (ic _ rfl) aL h.2
theorem aig (H:aR g s.heap N O hp)(av:aE g s.heap N O (.V b) v)(bP:aE g s.heap N O d u)(h:bF (gB hp d) fun l=>bF (dF D.f5 l) fun l=>((kZ b l).length≤1000000∧l.length≤1000)∧K (.V (kZ b l)) hp):eF g A O N s (cY (.builtin "bytes.join") [v,u] []) K X:=by
 induction cQ.of h with|mk aT h=>
 induction cQ.of h with|@mk bs aN h=>
 induction oK H aT bP with|@mk p _ w=>
 induction w with|@mk vs n aV aL=>
 induction av
 have bZ:=GS (q:=fun p=>p) (k:=.V) (fun a b q=>pR q) aN
 rw[Em] at bZ
 rw[bZ] at aL
 exact oo M.T6 (gf s _ _) M.adW (M.adX _ _) ((ah2 b p vs bs n _ aL h.1.1).inModel g.p g.w) ⟨aV,fun t' k=>.dV H (aE.b _ _) h.2⟩
end
end
theorem aih:mK (.type "list") "keys"=bV ab:=by rw[fG,fF];kernel_rfl
theorem aii:mK (.type "list") "__getattr__"=bV ab:=by rw[fG,fF];kernel_rfl
section
variable {os:OsState}
theorem aij (hx:h.get? a=B ⟨.type "list",ab,.seq dp n, #[]⟩)(bU:A.handled=ab)(r6:∀aj k e,Kj h aj e (.ref a) "keys"→E (.ref e) ⟨aj,g,d,k,os⟩):
  bM (bB prog w) A (Builtin.«object.__getattribute__» ⟨[.ref a,.str "keys" tk],[]⟩) Q E ⟨h,g,d,t,os⟩:=by
 have di:∀k,(⟨h,g,d,k,os⟩:a3).TypeIs (.ref a) "list":=fun I=>⟨_,hx,rfl⟩
 have f1:=aih
 unfold Builtin.«object.__getattribute__»
 repeat(any_goals(first|assumption|wp_step))
 exact wpAny_raiseAttrError bU r6 (attrMsg_fits (by decide+kernel) (by decide+kernel))
theorem aik (hx:h.get? a=B ⟨.type "list",ab,.seq dp n, #[]⟩)(bU:A.handled=ab)(r6:∀aj k e,Kj h aj e (.ref a) "keys"→R (.error (.ref e)) ⟨aj,g,d,k,os⟩):
  ps (bB prog w) A (.call (.builtin "list.__getattribute__") ⟨[.ref a,.str "keys" tk],[]⟩) R ⟨h,g,d,t,os⟩:=
 JA EZ.plain F.entry_list_ga (EZ.check _ _ _ _ _ _ _ _ (show(⟨h,g,d,t,os⟩:a3).TypeIs (.ref a) "list" from⟨_,hx,rfl⟩) (F.args_list_getattribute_2 _ _) (aij hx bU r6))
theorem ail (hx:h.get? a=B ⟨.type "list",ab,.seq dp n, #[]⟩)(bU:A.handled=ab)(r6:∀aj k e,Kj h aj e (.ref a) "keys"→E (.ref e) ⟨aj,g,d,k,os⟩):
  bM (bB prog w) A (getAttrBy (.ref a) (.str "keys" tk) ae) Q E ⟨h,g,d,t,os⟩:=by
 have di:(⟨h,g,d,t,os⟩:a3).TypeIs (.ref a) "list":=⟨_,hx,rfl⟩
 have f2:=EZ.lookup
 have lH:=EZ.bind (.ref a)
 have aqs:=aii
 have Wm:=Rf
 unfold getAttrBy
 repeat(any_goals(first|assumption|wp_step))
 refine aik hx bU fun aj k e aA=>?_
 obtain⟨t',aim,cP⟩:=aA.there
 show bM _ _ (Rg _ _ _ _ _ _ _) _ _ _
 unfold Rg
 repeat(any_goals(first|assumption|wp_step))
 exact r6 _ _ _ aA
theorem ain (hx:h.get? a=B ⟨.type "list",ab,.seq dp n, #[]⟩)(bU:A.handled=ab)(bH:∀aj k,(∀b o,h.get? b=B o→aj.get? b=B o)→Q ab ⟨aj,g,d,k,os⟩):
  bM (bB prog w) A (getAttr? (.ref a) "keys") Q E ⟨h,g,d,t,os⟩:=by
 unfold getAttr? getAttrBy?
 have Wm:=Rf
 refine aX ?_
 refine JN ?_
 refine aX (Ez (ail hx bU fun aj k e aA=>?_))
 obtain⟨t',aim,cP⟩:=aA.there
 refine aX (xI (T:="AttributeError") ⟨_,cP,rfl⟩ Wm ?_)
 exact cq (bH _ _ aA.keeps)
end
theorem aio {id:gg}(bH:plainId id=af)(hc:r5.contains id=ae)(ay:kU jb id=B b)(hk:bM (bB prog w) A.in1 (xJ id args) (fun I aB=>aB=s) (fun I I=>bt) s)(h:bK (bB prog w) A.in1 (b args) (fun fin ar=>match fin with| .done f=>R (.ok f) ar| .again dh=>dh.quiet=af∧g6 (bB prog w) A dh R ar) (fun e ar=>R (.error e) ar) s):
  g6 (bB prog w) A (.call (.builtin id) args) R s:=by
 refine qI rfl ?_
 show bK _ A.in1 (do xJ id args;pv (.builtin id args)) _ _ s
 refine d1 (ou hk (fun I aB cM=>?_) fun I I aj=>aj.elim)
 subst cM
 refine cs ⟨vn bH args,qI (show(!r5.contains id)=af by rw[hc];rfl) ?_⟩
 rw[vw bH args]
 show bK _ _ (match kU jb id with|some b=>b args|none=>JR ((Rx id "#data").getD id)) _ _ aB
 rw[ay];exact h
theorem Nj {T:gg}{id:gg}(slot:kv T name id)(di:s.TypeIs self T)(hc:r5.contains id=ae)(ay:kU jb id=B b)(b0:ja id ⟨self::rest,[]⟩)(h:bK (bB prog w) A.in1 (b ⟨self::rest,[]⟩) (fun fin ar=>∃v,fin=.done (.ret v)∧Q v ar) E s):
  bK (bB prog w) A (cY (.builtin id) (self::rest)) Q E s:=
 AV (aio slot.plain hc ay (slot.check _ _ _ _ _ _ _ _ di b0 rfl) (ew h (fun fin ar eb=>eb.elim fun v gG=>gG.elim fun e q=>by exact Y e q) fun I I x=>x))
theorem Wn (aV:s.heap.get? a=B ⟨.type "bytearray",ab,.bytearray b 0, #[]⟩)(q:Q () s):bK M A (J1 (.ref a)) Q E s:=by
 unfold J1
 refine cc ?_
 refine cc (SE ?_)
 show bK _ _ ((do return (←RI (.ref a)) > 0:dM aZ)) _ _ _
 refine d1 ?_
 show bM _ _ (load a>>=_) _ _ _
 refine aX (rX aV (cq ?_))
 refine cs ?_
 rw[bL (by decide)]
 exact cs q
theorem Wo (aV:s.heap.get? a=B ⟨.type "bytearray",ab,.bytearray b 0, #[]⟩)(q:Q b s):bM M A (RJ (.ref a)) Q E s:=by
 unfold RJ aaf
 exact aX (aX (rX aV (cq (cq q))))
theorem GW (aV:s.heap.get? a=B ⟨.type "bytearray",ab,.bytearray b 0, #[]⟩)(ea:(f b).size≤16777216)(q:∀aj,aj.get? a=B ⟨.type "bytearray",ab,.bytearray (f b) 0, #[]⟩→hq a s.heap aj→Q () {s with heap:=aj}):bM M A (EX (.ref a) f) Q E s:=by
 show bM _ _ (Rs a f) _ _ _
 unfold Rs
 refine aX (rX aV ?_)
 show bM _ _ (update a (Kn f)>>=fun I=>lookBehind a) _ _ _
 refine aX (wpAny_update aV ?_)
 have Wp:(s.heap.update a (Kn f)).get? a=B ⟨.type "bytearray",ab,.bytearray (f b) 0, #[]⟩:=x1 (Kn f) aV rfl
 refine JC Wp ?_ ?_
 ·show(if(f b).size > kT then B "bytearray:memory" else ab)=ab
  rw[bL (by rw[vo];omega)]
 ·exact q _ Wp (aaD ..)
theorem aip {id:gg}(hc:r5.contains id=ae)(ay:kU jb id=B b)(h:bK (bB prog w) (A.under (.builtin id args)) (b args) (fun fin ar=>match fin with| .done f=>R (.ok f) ar| .again dh=>dh.quiet=af∧g6 (bB prog w) A dh R ar) (fun e ar=>R (.error e) ar) s):
  g6 (bB prog w) A (.builtin id args) R s:=by
 refine qI (show(!r5.contains id)=af by rw[hc];rfl) ?_
 show bK _ _ (match kU jb id with|some b=>b args|none=>JR ((Rx id "#data").getD id)) _ _ s
 rw[ay];exact h
namespace GX
theorem Nk:mroOf (.type "bytearray")=bV [.type "bytearray",.type "object"]:=by rw[mroOf_type];kernel_rfl
theorem aiq:mK (.type "bytearray") "__new__"=bV (B (.builtin "bytearray.__new__")):=by rw[fG,fF];kernel_rfl
theorem GY:kv "bytearray" "__init__" "bytearray.__init__":=
 .of (owner:="bytearray") (n:="__init__") (by refine Y (fG ..) (Y (fF ..) ?_);kernel_rfl) (by decide+kernel) (by decide+kernel) (by decide+kernel)
  (by first|exact .inl (by decide+kernel)|exact .inr (by decide+kernel)) (by refine Y (kS ..) ?_;kernel_rfl)
theorem Nl:TypeCalled "bytearray" "bytearray.__new__" "bytearray.__init__":=
 ⟨by decide+kernel,by decide+kernel,⟨_,_,Nk⟩,madeBy_type Nk aiq (by decide+kernel),by decide+kernel,by refine Y (kS ..) ?_;kernel_rfl,GY⟩
theorem air (a:au):checkTypeCall "bytearray" ⟨[a],[]⟩=bV ():=by kernel_rfl
theorem ais (a:au):xJ "bytearray.__new__" ⟨[.type "bytearray",a],[]⟩=bV ():=by kernel_rfl
theorem ait:kU jb "bytearray.__new__"=B Builtin.«list.__new__»:=entryFor_alias (id':="list.__new__") (by kernel_rfl) (by first|rfl|decide+kernel) (by decide+kernel) (by kernel_rfl)
theorem aiu:kU jb "bytearray.__init__"=B Builtin.«bytearray.__init__»:=by first|exact entryFor_of_fast (by kernel_rfl)|exact entryFor_of_tree (by kernel_rfl)
theorem Wq:plainId "bytearray.__new__"=af:=by decide+kernel
theorem aiv (a b:au):ja "bytearray.__init__" ⟨[a,b],[]⟩:=by
 unfold ja;kernel_rfl
set_option maxRecDepth 1000000 in
set_option maxHeartbeats 4000000 in
theorem aiw : ("bytearray.__new__".splitOn ".__new__").headD "" = "bytearray" := by simp +decide [String.splitOn, String.splitOnAux]
theorem GZ:JU (.type "bytearray") (.type "bytearray")=bV af:=by rw[kS];kernel_rfl
theorem aix:mK (.type "bytearray") "__release_buffer__"=bV (B (.builtin "bytearray.__release_buffer__")):=by rw[fG,fF];kernel_rfl
theorem gj (v:au):X' "bytearray.__init__" "bytearray" ["source","encoding","errors"] [v] []=bV [B v,ab,ab]:=by kernel_rfl
theorem aiy (a:au)(h:Q₁ (.ref s.heap.objs.size) {s with heap:=s.heap.push {cls:=.type "bytearray",data:=.bytearray #[]}}):
  ps (bB prog w) A (.call (.builtin "bytearray.__new__") ⟨[.type "bytearray",a],[]⟩) (wants Q₁ E) s:=by
 refine Rr ?_
 show bM _ A.in1 (do xJ "bytearray.__new__" ⟨[.type "bytearray",a],[]⟩;pv (.builtin "bytearray.__new__" ⟨[.type "bytearray",a],[]⟩)) _ _ s
 refine aX (du (ais a) (cq ⟨vn Wq _,codeAny_builtin_stack ait rfl fun p st=>?_⟩))
 rw[vw Wq _]
 have Wl:=GZ
 have Fu:=aiw
 obtain⟨hp,g,d,tk,os⟩:=s
 simp only[Fu]
 wp_walk
 exact h
theorem Wr (di:s.TypeIs a "bytearray")(q:Q ae s):bM M A (RF a) Q E s:=by
 have key:∀x:gg,x="bytearray"→∀{Q:aZ→a3→Prop},Q af s→bM M A (Aw a (.type x)) Q E s:=fun x hx Q q=>by
  subst hx;exact xI di GZ q
 unfold RF J2
 refine aX (aX (tw di aix ?_))
 dsimp only
 split
 ·rename_i hx
  exact cr hx (by decide+kernel)
 ·exact key _ (by decide+kernel) (cq q)
theorem aiz {Q:b8→Prop}(aV:s.heap.get? p=B ⟨.type "bytearray",ab,.bytearray #[] 0, #[]⟩)(ea:c.size≤1000000)(q:∀aj,aj.get? p=B ⟨.type "bytearray",ab,.bytearray c 0, #[]⟩→hq p s.heap aj→Q aj):
  bK (bB prog w) A (Builtin.«bytearray.__init__» ⟨[.ref p,.bytes c tk],[]⟩) (fun fin ar=>fin=.done (.ret .none)∧∃aj,Q aj∧ar={s with heap:=aj}) E s:=by
 unfold Builtin.«bytearray.__init__»
 refine d1 (Wr ⟨_,aV,rfl⟩ ?_)
 rw[bL (by decide)]
 refine d1 (du (gj _) ?_)
 refine d1 (du (a:=()) rfl ?_)
 refine d1 (du (a:=()) rfl ?_)
 refine cc ?_
 refine cc (SE ?_)
 show bK _ _ ((do return (←RI (.ref p)) > 0:dM aZ)) _ _ _
 refine d1 ?_
 show bM _ _ (load p>>=_) _ _ _
 refine aX (rX aV (cq ?_))
 refine cs ?_
 rw[bL (by decide)]
 refine d1 (GW aV (by simp) fun aY lF aiA=>?_)
 refine d1 (du (a:=ab) rfl ?_)
 rw[bL (by decide)]
 refine d1 (du (a:=()) rfl ?_)
 refine d1 (du (AN Tq) ?_)
 rw[bL (by decide)]
 refine d1 (du (a:=B c) ?_ ?_)
 ·unfold J3
  rw[AN E7,So,KBy.own_release]
  kernel_rfl
 refine d1 (oq ?_)
 refine d1 (GW lF (by omega) fun bu oM yU=>?_)
 exact cs ⟨rfl,bu,q bu oM (aiA.trans yU),rfl⟩
theorem aiB (ea:c.size≤1000000)(q:∀aj,aj.get? s.heap.objs.size=B ⟨.type "bytearray",ab,.bytearray c 0, #[]⟩→(∀b o,s.heap.get? b=B o→aj.get? b=B o)→Q (.ref s.heap.objs.size) {s with heap:=aj}):
  bK (bB prog w) A (cY (.type "bytearray") [.bytes c tk]) Q E s:=by
 refine AV (qI rfl ?_)
 show bK _ _ (callAny (.type "bytearray") _) _ _ _
 refine cs ⟨J8 _ (by decide+kernel),aip (by decide+kernel) F.entry_type_call ?_⟩
 rw[Around.under_plain (weight_type_call_type "bytearray" [.bytes c tk] []) rfl]
 unfold Builtin.«type.__call__»
 dsimp only
 rw[bL (by rw[Nl.notType];decide)]
 rw[bL (by rw[Nl.canCreate];decide)]
 refine d1 (du (air _) ?_)
 refine d1 (du Nk ?_)
 rw[bL (by simp)]
 refine d1 (du Nl.made ?_)
 refine cc (cs ?_)
 refine d1 (pq (EG (aiy _ ?_)))
 have aV:(s.heap.push {cls:=.type "bytearray",data:=.bytearray #[]}).get? s.heap.objs.size=B ⟨.type "bytearray",ab,.bytearray #[] 0, #[]⟩:=ic _ rfl
 refine d1 (xI (T:="bytearray") ⟨_,aV,rfl⟩ GZ ?_)
 rw[bL (by decide)]
 refine cc (fi ?_)
 unfold callSpecial?
 refine d1 (tw (T:="bytearray") ⟨_,aV,rfl⟩ GY.lookup ?_)
 dsimp only
 refine fi (d1 (du (GY.bind _) ?_))
 have st:bK (bB prog w) A.in1 (cY (.builtin "bytearray.__init__") [.ref s.heap.objs.size,.bytes c tk]) (fun r ar=>r=.none∧∃aj,(aj.get? s.heap.objs.size=B ⟨.type "bytearray",ab,.bytearray c 0, #[]⟩∧hq s.heap.objs.size (s.heap.push {cls:=.type "bytearray",data:=.bytearray #[]}) aj)∧ar={s with heap:=aj}) (fun e ar=>E e ar)
   {s with heap:=s.heap.push {cls:=.type "bytearray",data:=.bytearray #[]}}:=
  Nj GY ⟨_,aV,rfl⟩ (by decide+kernel) aiu (aiv _ _) (ew (aiz (Q:=fun aj=>aj.get? s.heap.objs.size=B ⟨.type "bytearray",ab,.bytearray c 0, #[]⟩∧hq s.heap.objs.size (s.heap.push {cls:=.type "bytearray",data:=.bytearray #[]}) aj) aV ea fun aj g1 g2=>⟨g1,g2⟩) (fun fin ar x=>⟨.none,x.1,rfl,x.2⟩) fun I I x=>x)
 refine cc (ew st ?_ fun I I x=>x)
 rintro r ar ⟨rfl,aj,⟨g1,g2⟩,rfl⟩
 refine cs ?_
 dsimp only
 rw[bL (by decide)]
 refine cs (q aj g1 fun b o e=>(g2.2 b (rQ (py e))).trans (lx _ e))
end GX
section
variable {K:a0}
theorem Ws {c:am}(h:nK x=B c):∃i:aq,x=.ac i∧(0≤i∧i < 256)∧c=i.toNat.toUInt8:=by
 induction nO h with|@mk i e q=>
 have z:=rS.mp q
 exact⟨i,oJ e,z.1,(bo z.2).symm⟩
theorem aiC (H:aR g s.heap N O hp)(av:y6 g s.heap N O i (.er b) v)(bP:aE g s.heap N O x u)(h:bF (nK x) fun c=>b.length≤1000000∧K .aK (hp.set i (.er (b++[c])))):dP g A O N s (cY (.builtin "bytearray.append") [v,u] []) K X:=by
 induction cQ.of h with|mk aT h=>
 obtain⟨z,rfl,aqt,rfl⟩:=Ws aT
 induction av with|@mk p da aV=>
 have aV:s.heap.get? p=B ⟨.type "bytearray",ab,.bytearray b.toArray 0, #[]⟩:=aV
 induction bP with|mk tk=>
 refine Nj M.TZ ⟨_,aV,rfl⟩ (by decide+kernel) M.ady (M.adz _ _) ?_
 unfold Builtin.«bytearray.append»
 refine d1 (du (a:=(hr p,Sn z tk)) rfl ?_)
 unfold aac
 refine cc (d1 (du (rfl:asIndex (.int z tk)=bV z) ?_))
 rw[bL (by simp;omega)]
 refine cs (cc (Wn aV (d1 (GW aV (by rw[Array.size_push,dD];exact ao (d8 h.1) (by decide)) fun aj e2 gr=>?_))))
 rw[Ef] at e2
 exact cs ⟨_,rfl,.fq (o:=.er (b++[z.toNat.toUInt8])) (t:=s.toks) H da.1 gr e2 aE.z h.2⟩
theorem aiD (H:aR g s.heap N O hp)(av:y6 g s.heap N O i (.er b) v)(bP:aE g s.heap N O (.V c) u)(h:b.length+c.length≤1000000∧K .aK (hp.set i (.er (b++c)))):dP g A O N s (cY (.builtin "bytearray.extend") [v,u] []) K X:=by
 induction av with|@mk p da aV=>
 have aV:s.heap.get? p=B ⟨.type "bytearray",ab,.bytearray b.toArray 0, #[]⟩:=aV
 induction bP with|mk tk=>
 refine Nj M.T1 ⟨_,aV,rfl⟩ (by decide+kernel) M.adB (M.adC _ _) ?_
 unfold Builtin.«bytearray.extend»
 refine d1 (du (a:=(hr p,Ks c.toArray tk)) rfl ?_)
 refine d1 (du (AN E7) ?_)
 rw[b3 (by rfl)]
 refine d1 (oq (d1 (Wo aV (d1 (Wj ?_)))))
 have fin:bK (bB g.p g.w) A.in1 (EX (.ref p) (·++c.toArray)>>=fun I=>ret .none) (fun fin ar=>∃v,fin=.done (.ret v)∧fe g A [] O N s (fun h N=>aE g h N O) K v ar) (gR g A [] O N s X) s:=by
  refine d1 (GW aV (by rw[Array.size_append,dD,dD];exact ao h.1 (by decide)) fun aj e2 gr=>?_)
  rw[vc] at e2
  exact cs ⟨_,rfl,.fq (o:=.er (b++c)) (t:=s.toks) H da.1 gr e2 aE.z h.2⟩
 show bK _ _ (if(!c.toArray.isEmpty)=af then(J1 (.ref p)>>=fun I=>(EX (.ref p) (·++c.toArray)>>=fun I=>ret .none))else(EX (.ref p) (·++c.toArray)>>=fun I=>ret .none)) _ _ _
 by_cases hc:(!c.toArray.isEmpty)=af
 ·rw[b3 hc];exact cc (Wn aV fin)
 ·rw[bL hc];exact fin
theorem aiE (H:aR g s.heap N O hp)(av:aE g s.heap N O d v)(h:bF d.f5 fun c=>c.length≤1000000∧K (.bb hp.length) (hp++[.er c])):dP g A O N s (cY (.type "bytearray") [v] []) K X:=by
 induction cQ.of h with|@mk c e h=>
 cases pR e
 induction av
 exact GX.aiB (Y dD h.1) fun aj aV hk=>.mk (b:=.bb hp.length) (.yf hk (hZ _)) (H.KX (o:=.er c) hk (hZ _) aV) (f0.mk (Bd H) cy) h.2
end
theorem G0:plainId "dict.update.loop"=af:=by decide+kernel
theorem Wt:kU jb "dict.update.loop"=B Builtin.«dict.update.loop»:=qy (by kernel_rfl)
inductive y8 (h:b8):J au→J (bf×au)→Prop
 |fj:y8 h [] []
 |dN {p:aC}{ka v:au}{k:bf}{n:ah}{vs:J au}{kvs:J (bf×au)}(aV:h.get? p=B (hU "tuple" [ka,v] n))(hk:k.is ka=af)(r:y8 h vs kvs):y8 h (.ref p::vs) ((k,v)::kvs)
theorem aiF {kvs:J (bf×au)}{k:bf}{v:au}:(EC kvs k v).length≤kvs.length+1:=by
 unfold EC
 split
 ·exact Y (cH ..) (iQ _)
 ·exact Y cG (a8 _)
section
variable {g:ci}{A:dc}{E:au→a3→Prop}{R:l5→a3→Prop}{h0:b8}{l aD d:aC}{vs:J au}{s:a3}
theorem aiG {prog:mM}{w:iT}(bU:A.handled=ab)(aw:h0.IsList l vs.toArray)(r8:h0.get? aD=ab)(hd:h0.get? d=ab)(Nm:aD≠d){rest:J (bf×au)}{us:J au}(uz:y8 h0 us rest):
  ∀{i:ah} {acc:J (bf×au)} {s:a3},us=vs.drop i→(∀b o,b≠aD→b≠d→h0.get? b=B o→s.heap.get? b=B o)→
   s.heap.IsListIter aD l i→s.heap.DictOf (hF prog w) d acc→acc.length+rest.length≤1000000→
   (∀aj k,aj.DictOf (hF prog w) d (JO acc rest)→(∀b o,b≠aD→b≠d→h0.get? b=B o→aj.get? b=B o)→R (.ok (.ret .none)) {s with heap:=aj,toks:=k})→
   ps (bB prog w) A (.builtin "dict.update.loop" ⟨[.ref d,.ref aD,l6 i,.none],[]⟩) R s:=by
 have ne:∀{b o},h0.get? b=B o→b≠aD∧b≠d:=fun e=>⟨fun q=>fb r8 (q▸e),fun q=>fb hd (q▸e)⟩
 induction uz with
 |fj=>
  intro i acc s bP keep hit Nn ea l8
  have p7:s.heap.IsList l vs.toArray:=aw.imp fun o z=>⟨keep _ _ (ne z.1).1 (ne z.1).2 z.1,z.2⟩
  refine At Wt ?_
  refine Y (vw G0 _) ?_
  have aA:vs.toArray[i]?=ab:=by refine Y rL ?_;exact Qd (Ad.mp bP.symm)
  exact aX (m:=tE (.ref aD)) (wpAny_pyNext_list_end bU hit p7 aA fun aj cP=>aX (cq (cq (l8 aj s.toks (Nn.imp fun o=>gb fun es=>gb fun ep z=>⟨cP d _ (rR Nm) z.1,z.2⟩) fun b o mr jM e=>cP b o mr (keep b o mr jM e)))))
 |@dN p ka v k n us rest aV hk r az=>
  intro i acc s bP keep hit Nn ea l8
  refine(Uk bP).elim fun aA bP=>?_
  refine At Wt ?_
  refine Y (vw G0 _) ?_
  refine aX (m:=tE (.ref aD)) (wpAny_pyNext_list_item hit (aw.imp fun o z=>⟨keep _ _ (ne z.1).1 (ne z.1).2 z.1,z.2⟩:s.heap.IsList l vs.toArray) (rL▸aA) fun aj LZ aG=>?_)
  have Wu:∀b o,b≠aD→b≠d→h0.get? b=B o→aj.get? b=B o:=fun b o mr jM e=>(aG.2 b mr).trans (keep b o mr jM e)
  have lF:aj.get? p=B (hU "tuple" [ka,v] n):=Wu p _ (ne aV).1 (ne aV).2 aV
  refine aX (pq (aX (wpAny_tryCatch ?_)))
  unfold aap
  refine aX (xM (T:="tuple") ⟨_,lF,rfl⟩ ?_)
  refine Y (b3 (by decide)) ?_
  refine aX (xK lF rfl (cq ?_))
  rw[iO] at ea
  refine pq (Rc (knd:=hF prog w) hk (Nn.imp fun o=>gb fun es=>gb fun ep z=>⟨(aG.2 d (rR Nm)).trans z.1,z.2⟩:aj.DictOf (hF prog w) d acc) (fun bu aiH Wv=>?_) (ao (ao (ed _ _) ea) (by decide)))
  refine cq ⟨vn G0 _,az (i:=i+1) bP (fun b o mr jM e=>(Wv.2 b jM).trans (Wu b o mr jM e)) (LZ.imp fun o z=>⟨(Wv.2 aD Nm).trans z.1,z.2⟩) aiH ?_ fun cu c2 g1 g2=>l8 cu c2 g1 g2⟩
  exact ao (dR aiF _) (by lia)
theorem aiI {nn:ah}{kvs:J (bf×au)}{Q:au→a3→Prop}(bU:A.handled=ab)(aV:s.heap.get? l=B (hU "list" vs nn))(hp:y8 s.heap vs kvs)(ea:kvs.length≤1000000)
  (q:∀aj k,nB g aj s.heap.objs.size (JO [] kvs)→(∀b o,s.heap.get? b=B o→aj.get? b=B o)→Q (.ref s.heap.objs.size) {s with heap:=aj,toks:=k}):bM (bB g.p g.w) A (cY (.type "dict") [.ref l]) Q E s:=by
 refine Ry (Q₁:=fun obj aB=>obj=.ref s.heap.objs.size∧aB={s with heap:=s.heap.push {cls:=.type "dict",data:=.dict #[]}}) F.kt_called_dict (F.kt_typeCall_dict_1 _) F.entry_dict_init (kt_code_dict_new _ ⟨rfl,rfl⟩) ?_
 rintro obj aB ⟨rfl,rfl⟩
 have uj:(s.heap.push {cls:=.type "dict",data:=.dict #[]}).DictOf (hF g.p g.w) s.heap.objs.size []:=aaC s.heap
 have jg:∀b o,s.heap.get? b=B o→(s.heap.push {cls:=.type "dict",data:=.dict #[]}).get? b=B o:=fV
 generalize s.heap.push {cls:=.type "dict",data:=.dict #[]}=aqu at *
 have lF:=jg _ _ aV
 refine⟨uj.typeIs,F.args_dict_init_2 _ _,?_⟩
 unfold Builtin.«dict.__init__»
 refine aX ?_
 unfold aao
 refine aX (Q8 uj.typeIs (cq ?_))
 show bM _ _ (RM "dict.__init__" s.heap.objs.size (.ref l) [] .none) _ _ _
 unfold RM
 refine aX (xM (T:="list") ⟨_,lF,rfl⟩ ?_)
 rw[b3 (by decide)]
 refine aX (ain lF bU fun aj k keep=>?_)
 rw[b3 (by rfl)]
 refine aX (oq (aX (Rh (s:={s with heap:=aj,toks:=k}) ⟨_,keep _ _ lF,rfl,nn,rfl⟩ ?_)))
 have gF:s.heap.objs.size < aj.objs.size:=uj.elim fun o z=>z.elim fun I z=>z.elim fun I z=>py (keep _ _ z.1)
 have Ww:s.heap.get? aj.objs.size=ab:=rZ (ir gF)
 refine cq ⟨vn G0 _,codeAny_mono (aiG (R:=wants (fun r c6=>r=iU∧Q (.ref s.heap.objs.size) c6) E) (A:=A.in1) bU ⟨_,aV,rfl,nn,rfl⟩ Ww (hZ _) (xE gF) hp (i:=0) (acc:=[]) rfl
  (fun b o I I e=>fV _ _ (keep _ _ (jg b o e))) ⟨_,ic _ rfl,rfl,rfl⟩ (uj.imp fun o=>gb fun es=>gb fun ep z=>⟨fV _ _ (keep _ _ z.1),z.2⟩) (by rw[I6,iP];exact ea) fun cu c2 g1 g2=>⟨rfl,q cu c2 g1 fun b o e=>g2 b o (fun z=>fb Ww (z▸e)) (fun z=>fb (hZ _) (z▸e)) e⟩) fun r ar z=>by induction r<;>exact z⟩
end
theorem aiJ:mK (.type "bytearray") "__bytes__"=bV ab:=by rw[fG,fF];kernel_rfl
theorem aiK:mK (.type "bytearray") "__index__"=bV ab:=by rw[fG,fF];kernel_rfl
theorem No:mK (.type "bytearray") "__buffer__"=bV (B (.builtin "bytearray.__buffer__")):=by rw[fG,fF];kernel_rfl
section
variable {K:a0}{a:aC}
theorem aiL:∀{vs:J au} {aI:J (bf×D)},cp g h N O l vs→dF vP l=B aI→∃kvs,y8 h vs kvs∧dA g h N O aI kvs:=by
 induction l with
 |nil=>intro vs aI x e;induction x;exact⟨[],.fj,bo e▸j0.mk⟩
 |cons d l az=>
  intro vs aI x e
  obtain⟨p,aqv,aT,aN,rfl⟩:=q1 e
  induction x with|mk av aL=>
  refine(az aL aN).elim fun kvs cj=>cj.elim fun aY bu=>?_
  induction nO aT with|@mk t p0 aT=>
  induction nO aT with|@mk q eq aT=>
  obtain⟨k,gH,rfl⟩:=iu.mp aT
  induction(yt eq▸vW p0▸av:aE g h N O (.aW [q.1,q.2]) _)with|mk _ w=>
  induction w with|mk aV w=>
  induction w with|mk fz w=>
  induction w with|mk mx w=>
  induction w
  exact⟨_,.dN aV (nP gH fz) aY,.mk (.mk mx) bu⟩
theorem fe.Wx (H:aR g s.heap N O hp)(hk:∀b o,s.heap.get? b=B o→aj.get? b=B o)(b0:s.heap.get? a=ab)(hd:nB g aj a kvs)(aL:dA g s.heap N O l kvs)(k:hX m (.bv l) (.a5 l) hp K):fe g A [] O N s (fun h N=>aE g h N O) K (.ref a) {s with heap:=aj,toks:=tk}:=
 .e0 H hk b0 k (.mk hd ((cz.app b0 hk).aI aL)) fun f=>.mk f (.mk hd ((cz.cw H hk).aI aL))
theorem aiM (bU:A.handled=ab)(H:aR g s.heap N O hp)(av:aE g s.heap N O d v)(h:SN m hp K d):eF g A O N s (cY (.type "dict") [v] []) K X:=by
 refine(ys h).elim (fun h=>?_) fun h=>?_
 ·induction h with|mk e h=>
  induction oL H e av with|@mk p aG w=>
  induction w with|mk hd aL=>
  exact kt_call_dict (knd:=hF g.p g.w) (GU aG) hd (Nf aL.bJ h.1) fun aj jO gr=>.Wx (tk:=s.toks) H (fun b o e=>(gr.2 b (rQ (py e))).trans (lx _ e)) (hZ _) jO aL h.2
 ·induction cQ.of h with|mk e h=>
  induction cQ.of h with|mk aN h=>
  induction oK H e av with|mk _ w=>
  induction w with|mk aV aL=>
  exact(aiL aL aN).elim fun kvs cj=>cj.elim fun uz Wy=>aiI bU aV uz (Wy.bJ▸ao h.1 (by decide)) fun aj k jO keep=>.Wx (tk:=k) H keep (hZ _) jO (dA.LN (l:=[]) Wy j0.mk) h.2
theorem aiN:∀{l:J D} {b:J am},dF nK l=B b→∃ns:J aq,l=ns.map .ac∧(∀n∈ns,0≤n∧n < 256)∧byteArr ns=b.toArray:=by
 intro l
 induction l with
 |nil=>intro b e;exact⟨[],rfl,fun I m=>(dz m),bo e▸rfl⟩
 |cons x l az=>
  intro b e
  obtain⟨c,yC,aT,aN,rfl⟩:=q1 e
  refine(az aN).elim fun ns z=>?_
  obtain⟨i,rfl,aiO,rfl⟩:=Ws aT
  refine⟨i::ns,bl (_::·) z.1,fun n aA=>(cV.mp aA).elim (fun e=>e▸aiO) (z.2.1 n),?_⟩
  have:=bl IC z.2.2
  unfold byteArr at this⊢
  exact Y h8 (bl (fun l=>(_::l:J am).toArray) this)
theorem aiP (bU:A.handled=ab)(H:aR g s.heap N O hp)(av:aE g s.heap N O d v)(h:K9 hp K d):eF g A O N s (cY (.type "bytes") [v] []) K X:=by
 induction cQ.of h with|mk aT cu=>
 induction cQ.of cu with|@mk b e fg=>
 clear h cu
 induction oK H aT av with|mk _ w=>
 induction w with|@mk vs n aV aL=>
 obtain⟨ns,rfl,aY,bu⟩:=aiN e
 refine call_bytes_ints ⟨_,aV,rfl,n,rfl⟩ (V8 aL) aY (by refine aL.bJ▸(v3 e)▸?_;exact ao fg.1 (by decide)) bU fun aj t k keep=>?_
 exact Y bu (.mk (b:=.V b) (.e7 keep) (H.tO keep) (aE.b _ _) fg.2)
theorem aiQ {a:au}(di:s.TypeIs a "bytearray")(q:Q af s):bM M A (J2 a "__buffer__") Q E s:=by
 have key:∀x:gg,x="bytearray"→∀{Q:aZ→a3→Prop},Q af s→bM M A (Aw a (.type x)) Q E s:=fun x hx Q q=>by
  subst hx;exact xI di GX.GZ q
 unfold J2
 refine aX (tw di No ?_)
 dsimp only
 split
 ·rename_i hx
  exact cr hx (by decide+kernel)
 ·exact key _ (by decide+kernel) q
theorem aiR (aV:s.heap.get? p=B ⟨.type "bytearray",ab,.bytearray b 0, #[]⟩)(ea:b.size≤1000000)(dJ:Q (.bytes b s.toks) {s with toks:=s.toks+1}):
  ps (bB prog w) A (.call (.builtin "bytes.__new__") ⟨[.type "bytes",.ref p],[]⟩) (wants Q E) s:=by
 refine JA F.bm_plain F.bm_entry (du (F.bm_newCall _) ?_)
 have di:s.TypeIs (.ref p) "bytearray":=⟨_,aV,rfl⟩
 unfold Builtin.«bytes.__new__»
 refine aX (du (a:=af) rfl (EE rfl ?_))
 refine aX (du F.bm_sub (EE rfl ?_))
 refine aX (du (F.bm_bind _) ?_)
 refine aX (du (a:=()) rfl ?_)
 refine aX (du (a:=()) rfl (EE rfl ?_))
 refine aX (tw di aiJ ?_)
 refine aX (aX ?_)
 show bM _ _ (load p>>=_) _ _ _
 refine aX (rX aV ?_)
 refine cq (cq (EE rfl ?_))
 refine aX (tw di aiK (bm_if_true rfl (aX ?_)))
 show bM _ _ (J3 "bytes.__new__" (.ref p) af) _ _ _
 unfold J3
 refine aX (tw di No (aX (aiQ di ?_)))
 rw[bL (by decide)]
 refine aX (tw di No (aX (GX.Wr di ?_)))
 rw[bL (by decide)]
 refine aX (Wo aV (cq (aX (oq (aX (EB ?_ (ao ea (by decide))))))))
 show bM _ _ (if(tH "bytes"==.type "bytes")=af then(do return←ret (Ks b s.toks))else _) _ _ _
 rw[b3 (by decide)]
 exact cq dJ
theorem aiS (H:aR g s.heap N O hp)(aV:s.heap.get? p=B ⟨.type "bytearray",ab,.bytearray b.toArray 0, #[]⟩)(h:b.length≤1000000∧K (.V b) hp):eF g A O N s (cY (.type "bytes") [.ref p] []) K X:=
 Ry (Q₁:=fun obj aB=>aB.TypeIs obj "bytes"∧fe g A [] O N s (fun h N=>aE g h N O) K obj aB) Kh (F.bm_typeCall _) F.entry_object_init (aiR aV (by rw[dD];exact h.1) ⟨gf _ _ _,.dV H (aE.b _ _) h.2⟩)
  fun obj aB cM=>⟨cM.1,F.args_object_init_2 obj _,object_init_meets Kh.init.lookup Kh.made (by decide) g.p g.w A.in1 _ aB ⟨cM.1,rfl,cM.2⟩⟩
theorem aiT (bU:A.handled=ab)(H:aR g s.heap N O hp)(av:aE g s.heap N O d v)(h:yk hp K d):eF g A O N s (cY (.type "bytes") [v] []) K X:=by
 refine(ys h).elim (fun h=>?_) fun h=>?_
 ·induction h with|mk e aj=>
  induction nO e with|@mk o aT aN=>
  induction nO aT with|@mk i dK fN=>
  cases Ll dK
  cases abU aN
  induction nN H fN av with|mk _ w=>exact aiS H w aj
 ·exact aiP bU H av h
theorem Wz {P:J au→Prop}(av:cp g h N O l vs)(e:dW l=B x)(k:∀u,aE g h N O x u→P [u]):P vs:=by
 induction(ml e▸av:cp g h N O [x] vs)with|mk fz mx=>induction mx;exact k _ fz
theorem aiU {P:J au→Prop}(av:cp g h N O l vs)(e:mU l=B p)(k:∀u w,aE g h N O p.1 u→aE g h N O p.2 w→P [u,w]):P vs:=by
 induction(yt e▸av:cp g h N O [p.1,p.2] vs)with|mk fz mx=>induction mx with|mk mx aiV=>induction aiV;exact k _ _ fz mx
theorem Np {P:D→Ty→Prop}(bE:k0 hp d=B t)(h:sk d hp F)(k:∀i o,hp[i]?=B o→F i o→P (.bb i) o.ty):P d t:=
 gE h fun i e h=>gE h fun o aN h=>by
  have z:d=.bb i:=Ll e
  exact z▸(bo ((bl (Ap ap.ty) aN).symm.trans (z▸bE)))▸(k i o aN h)
theorem aiW {P:D→Ty→Prop}(bE:k0 hp d=B t)(e:d.f5=B b)(k:P (.V b) .V):P d t:=by
 have z:d=.V b:=pR e
 exact z▸(bo (z▸bE))▸k
theorem aiX (H:aR g s.heap N O hp)(h:match x with| .be b=>K (.ac (if b then 1 else 0)) hp|_=>bt)(r:aE g s.heap N O x u):eF g A O N s (cY (.type "int") [u] []) K X:=by
 cases x<;>first|exact h.elim|skip
 induction r;exact call_int_bool (.dV H (aE.i _ _) h)
theorem aiY (H:aR g s.heap N O hp)(h:match x with| .aF x=>bF (dW x.cps.toList) fun c=>K (.ac (c:ah)) hp|_=>bt)(r:aE g s.heap N O x u):eF g A O N s (cY (.builtin "ord") [u] []) K X:=by
 cases x<;>first|exact h.elim|skip
 exact ahp H r h
theorem aiZ (H:aR g s.heap N O hp)(h:match x with| .be b=>K (.aF (if b then "True" else "False")) hp|d=>bF d.eK fun i=>kB i∧K (.aF (ly (AO i))) hp)(r:aE g s.heap N O x u):eF g A O N s (cY (.type "str") [u] []) K X:=by
 cases x<;>first|exact h.elim|skip
 ·induction r;exact P.str_of_bool (.dV H (aE.x _ _) h)
 ·induction r;exact P.str_of_int (ahq h.1) (.dV H (aE.x _ _) h.2)
theorem ai0 (C:fc A n O s.heap)(H:aR g s.heap N O hp)(av:cp g s.heap N O ds vs)(h:j5 m f ds hp K):dP g A O N s (cY (yz f) vs []) K X:=
 gE h fun x e h=>Wz (P:=fun vs=>dP g A O N s (cY (yz f) vs []) K X) av e fun u r=>by
 induction f with
 |bJ=>exact .of (ahn H r h)
 |fS=>exact .of (ahC C.hd H r h)
 |V=>exact .of (aiT C.hd H r h)
 |pK=>exact aiE H r h
 |bv=>exact .of (aiM C.hd H r h)
 |br=>exact .of (ahD C.hd H r h)
 |nH=>exact .of (aho H r h)
 |ac=>exact .of (aiX H h r)
 |A0=>exact .of (aiY H h r)
 |aF=>exact .of (aiZ H h r)
abbrev qa (g:ci)(A:dc)(O N:J aC)(s:a3)(v:au)(vs:J au)(K:a0)(X:J ap→Prop)(f:oz)(d:D)(t:Ty):Prop:=aE g s.heap N O d v→dP g A O N s (cY (.builtin (Br f t)) (v::vs) []) K X
theorem ai1 (H:aR g s.heap N O hp)(bE:k0 hp d=B t)(fz:aE g s.heap N O x u)(h:sk d hp fun i o=>match o with
  | .br l=>l.length≤1000000∧K .aK (hp.set i (.br (l++[x])))
  | .er b=>bF (nK x) fun c=>b.length≤1000000∧K .aK (hp.set i (.er (b++[c])))
  | .bv _=>bt):qa g A O N s v [u] K X .eP d t:=Np (P:=qa g A O N s v [u] K X .eP) bE h fun i o e h r=>by
 induction o with
 |br l=>exact .of (ahK H (nN H e r) fz h)
 |er b=>exact aiC H (nN H e r) fz h
 |bv=>exact h.elim
theorem ai2 (H:aR g s.heap N O hp)(bE:k0 hp d=B t)(fz:aE g s.heap N O x u)(h:sk d hp fun i o=>match o with
  | .br l=>bF x.oB fun m=>l.length+m.length≤1000000∧K .aK (hp.set i (.br (l++m)))
  | .er b=>bF x.f5 fun c=>b.length+c.length≤1000000∧K .aK (hp.set i (.er (b++c)))
  | .bv _=>bt):qa g A O N s v [u] K X .mc d t:=Np (P:=qa g A O N s v [u] K X .mc) bE h fun i o e h r=>by
 induction o with
 |br l=>exact gE h fun m dK h=>.of (ahL H (nN H e r) (S8 dK▸fz) h)
 |er b=>exact gE h fun m dK h=>aiD H (nN H e r) (pR dK▸fz) h
 |bv=>exact h.elim
theorem ai3 (C:fc A n O s.heap)(H:aR g s.heap N O hp)(r:aE g s.heap N O d v)(av:cp g s.heap N O ds vs)(bE:k0 hp d=B t)(aw:A5 f t=af)(h:mg f d ds hp K):
  dP g A O N s (cY (.builtin (Br f t)) (v::vs) []) K X:=by
 revert r
 have h4:=fun {x:D} (e:dW ds=B x) (k:∀u,aE g s.heap N O x u→qa g A O N s v [u] K X f d t)=>Wz (P:=fun vs=>qa g A O N s v vs K X f d t) av e k
 have gw:=fun {p:D×D} (e:mU ds=B p) (k:∀u w,aE g s.heap N O p.1 u→aE g s.heap N O p.2 w→qa g A O N s v [u,w] K X f d t)=>aiU (P:=fun vs=>qa g A O N s v vs K X f d t) av e k
 have cO:=fun {b:J am} {us:J au} (e:d.f5=B b) (k:qa g A O N s v us K X f (.V b) .V)=>aiW (P:=qa g A O N s v us K X f) bE e k
 have or:=fun {us:J au} {F:ah→ap→Prop} (h:sk d hp F) k=>Np (P:=qa g A O N s v us K X f) bE h k
 clear av
 induction f with
 |eP=>exact gE h fun x e h=>h4 e fun u fz=>ai1 H bE fz h
 |mc=>exact gE h fun x e h=>h4 e fun u fz=>ai2 H bE fz h
 |tQ=>
  refine gE h fun x e h=>h4 e fun u fz=>or h fun i o aN h r=>gE h fun m dK h=>gE h fun l fN h=>?_
  have z:=Lp fN
  rw[z] at aN⊢
  exact .of (ahI H (nN H aN r) (abS dK▸fz) h)
 |sd=>
  refine gE h fun x e h=>gw e fun u w fz mx=>or h fun i o aN h r=>gE h.2 fun m dK aj=>?_
  have z:=Lp dK
  rw[z] at aN⊢
  exact .of (ahH H (nN H aN r) aN fz (Lm h.1▸mx) aj)
 |fv=>
  refine gE h fun x e h=>gw e fun u w fz mx r=>?_
  have e:t=.bv:=by induction t<;>first|rfl|exact(dO aw).elim
  exact Y e (.of (ahE H r fz mx h))
 |oA=>exact gE h fun x e h=>h4 e fun u fz=>gE h fun b aT h=>cO aT fun r=>gE h fun c aN h=>.of (aia H r (pR aN▸fz) h.2)
 |se=>exact gE h fun x e h=>h4 e fun u fz=>gE h fun b aT h=>cO aT fun r=>gE h fun c aN h=>.of (aib H r (pR aN▸fz) h)
 |pL=>exact gE h fun x e h=>h4 e fun u fz=>gE h fun b aT h=>cO aT fun r=>gE h fun c aN h=>(i6.mp aN).elim fun y z=>.of (aif H r (ml z.2▸pR z.1▸fz) h)
 |A1=>exact gE h fun x e h=>gw e fun u w fz mx=>gE h fun b aT h=>cO aT fun r=>gE h fun c aN h=>gE h fun dh fN h=>(i6.mp aN).elim fun y z=>(i6.mp fN).elim fun aqw FK=>.of (aic H r (ml z.2▸pR z.1▸fz) (ml FK.2▸pR FK.1▸mx) h)
 |A2=>exact gE h fun x e h=>h4 e fun u fz=>gE h fun b aT h=>cO aT fun r=>.of (aig H r fz h)
 |tR=>
  refine gE h fun x e h=>h4 e fun u fz=>gE h fun l aT h r=>?_
  rw[(vW aT)] at bE r
  exact cN (bo (bE:B Ty.nH=B t)) (.of (ah7 H r fz h))
end
abbrev ai4 (K:kx)(C:aC):Prop:=∃cd,clsIn K C=B cd∧cd.mro.isEmpty=ae∧cd.mro.contains (.type "object")=af∧cd.hasDict=af∧∀self,EH self "__setattr__" cd.mro=bV ()
abbrev ai5 (K:kx)(C:aC):Prop:=x5 K (.ref C) "__setattr__"=B (B (.builtin "object.__setattr__"))
structure oX (K:kx)(C:aC)(names:J aO):Prop where
 mm:ai4 K C
 gv:ai5 K C
 tk:∀a∈names,takerIn K C a=B ab
section
variable {K:kx}{names:J aO}
theorem WA (cX:oX K C names)(bZ:name∈names)(X:K.In s.heap)(aD:InstAt s.heap x ox C od)(h:∀b,bM (bB prog w) A.in1 (aas (.ref x) (.ref C) (.str name tk) name v b)
   (fun fin ar=>match fin with| .done f=>R (.ok f) ar| .again dh=>dh.quiet=af∧ps (bB prog w) A dh R ar) (fun e ar=>R (.error e) ar) s):
  ps (bB prog w) A (.call (.builtin "object.__setattr__") ⟨[.ref x,.str name tk,v],[]⟩) R s:=by
 have Cu:=PySem.F.store_object
 refine cX.mm.elim fun cd cj=>cj.elim fun hc d3=>d3.elim fun ne fW=>fW.elim fun bC sB=>sB.elim fun I aL=>?_
 refine JA Cu.slot.plain Cu.entry (@check_slot (bB prog w) _ _ s "object.__setattr__" "object" "__setattr__" (.ref x) [.str name tk,v] [] _ Cu.kind Cu.split (aD.type.andThen (looks_mroIn X (by unfold mroIn;exact Y hc (Y (Option.bind_some ..) (Y (bL (by refine Y ne ?_;decide)) (Y bC rfl))))):Looks (bB prog w) s.heap (Aw (.ref x) (.type "object")) af) (Cu.args (.ref x) (.str name tk) v) ?_)
 refine(i6.mp (cX.tk name bZ)).elim fun attr cj=>cj.elim fun b0 ay=>?_
 have wv:Looks (bB prog w) s.heap (aau attr) ab:=by
  induction attr with
  |none=>exact .now
  |some a=>
   refine(iu.mp ay).elim fun b cj=>cj.elim fun ay e=>?_
   refine(looks_takesIn X ay).andThen ?_
   cases b<;>first|exact .now|exact sn e
 refine Y (osa_eq ..) (Y (refuse_eq ..) ?_)
 refine aX (aX (aD.type.here (aX (((Ku X hc).andThen .now:Looks (bB prog w) s.heap (mroOf (.ref C)) cd.mro).here ?_))))
 rw[aL]
 exact cq (aX (aD.type.here (aX ((Kt X b0).here (aX (wv.here (h _)))))))
def Cv (name:aO)(es:J iS):Prop:=∀e∈es,∃y t,e.key=.str y t∧(y==name)=ae
theorem WB:∀{es:J iS},Cv name es→nsPutIn name.cps.size name.cps.toList f es=(es++[f ab],af)
 | [],_=>rfl
 |e::r,h=>by
  refine(h e (.head _)).elim fun y cj=>cj.elim fun t d3=>d3.elim fun aT aN=>?_
  unfold nsPutIn
  refine Y (Value.isStrByCps_eq ..) (Y aT ?_)
  have:(x3 y t).isStr name=ae:=aN
  refine Y this (Y (bL (by decide)) (Y (WB (f:=f) (es:=r) fun e m=>h e (.tail _ m)) ?_))
  rfl
theorem ai6 (h:Cv name es):(lookIn name ⟨.type "dict",ab,.dict es.toArray n, #[]⟩).isSome=af:=by
 unfold lookIn
 dsimp only
 have aY:es.toArray.toList.find? (·.key.isStr name)=ab:=by
  rw[Ea]
  intro e m
  obtain⟨y,t,aT,aN⟩:=h e (by simpa using m)
  rw[aT]
  have:(x3 y t).isStr name=ae:=aN
  rw[this];decide
 rw[aY]
 have bu:es.toArray.toList.any (·.refKey)=ae:=by
  rw[Af]
  intro e m
  obtain⟨y,t,aT,aN⟩:=h e (by simpa using m)
  unfold DictEntry.refKey
  rw[aT];simp
 rw[bu];rfl
noncomputable abbrev iB (es:J iS)(n:ah):ee:=⟨.type "dict",ab,.dict es.toArray n, #[]⟩
set_option tactic.hygienic true in
theorem ai7 (cX:oX K C names)(bZ:name∈names)(X:K.In s.heap)(F:Fr h₀ L s.heap m)(de:tv h₀ L s.heap (pre++(dx,iB es n)::post))(aD:InstAt s.heap x ox C (B (iB es n)))(hd:ox.dict=B dx)(hk:Cv name es)(ea:es.length≤100)(aY:∀p∈pre,p.1≠dx)(bu:∀p∈post,p.1≠dx)(q:∀aj tk t,Fr h₀ L aj m→tv h₀ L aj (pre++(dx,iB (es++[⟨nz w.params name,.str name t,v⟩]) (n+1))::post)→R (.ok (.ret .none)) {s with heap:=aj,toks:=tk}):
  ps (bB prog w) A (.call (.builtin "object.__setattr__") ⟨[.ref x,.str name tk,v],[]⟩) R s:=by
 refine WA cX bZ X aD fun b=>?_
 refine cX.mm.elim fun cd cj=>cj.elim fun hc d3=>d3.elim fun I fW=>fW.elim fun I sB=>sB.elim fun jO I=>?_
 have e:Ko name (nz w.params name) (.str name s.toks) v (iB es n)=iB (es++[⟨nz w.params name,.str name s.toks,v⟩]) (n+1):=by
  unfold Ko
  simp only[WB hk]
 refine(news_upd (f:=Ko name (nz w.params name) (.str name s.toks) v) F de aY bu e rfl).elim fun ai8 WC=>?_
 have D:=(de (dx,iB es n) (by simp)).1
 have aw:=ai6 (n:=n) hk
 obtain⟨hx,cL,aA, -⟩:=aD
 obtain⟨iA,aqx,aqy,aqz⟩:=ox
 dsimp only at cL hd
 subst cL hd
 refine aX (cq (aX (aX (JJ hx (aX ((Ku X hc).here ?_))))))
 refine jO.symm▸?_
 refine cq (a:=B dx) (aX (cq (aX ?_)))
 unfold nsSet
 refine aX (aX (Rk (cq (aX (JN (aX (JJ D ?_)))))))
 dsimp only
 unfold lookIn at aw
 dsimp only at aw
 have c:(!es.toArray.any (·.key.isStr name)&&es.toArray.any (·.refKey))=ae:=by
  refine cN PU (cN PU ?_)
  split at aw
  ·rename_i gu cP
   refine Y (qu.mpr ⟨gu,tl cP,xx cP⟩) ?_;rfl
  ·split at aw
   ·exact nb aw
   ·rename_i z;rw[Bool.not_eq_true] at z;exact Y z (Y (rK ..) rfl)
 refine Y (aRefKeyMayBeTheName_at ..) (Y c ?_)
 refine wpAny_updatePart D ?_
 refine aX (JC ((WC (dx,iB (es++[⟨nz w.params name,.str name s.toks,v⟩]) (n+1)) (by simp)).1) (Rm (by refine Y dD (Y vo ?_);simp;omega)) ?_)
 exact cq (q _ _ _ ai8 WC)
theorem WD (cX:oX K C names)(bZ:name∈names)(X:K.In s.heap)(F:Fr h₀ L s.heap m)(de:tv h₀ L s.heap (pre++(dx,iB es n)::post))(aD:InstAt s.heap x ox C (B (iB es n)))(hd:ox.dict=B dx)(hk:Cv name es)(ea:es.length≤100)(aY:∀p∈pre,p.1≠dx)(bu:∀p∈post,p.1≠dx)(q:∀aj tk t,Fr h₀ L aj m→tv h₀ L aj (pre++(dx,iB (es++[⟨nz w.params name,.str name t,v⟩]) (n+1))::post)→Q () {s with heap:=aj,toks:=tk}):
  bM (bB prog w) A (setAttr (.ref x) name v) Q E s:=set_plain X aD cX.gv (ai7 (s:={s with toks:=s.toks+1}) cX bZ X F de aD hd hk ea aY bu q)
theorem ai9 (cX:oX K C names)(bZ:name∈names)(X:K.In s.heap)(hx:s.heap.get? x=B ⟨.ref C,ab,.fields vs, #[]⟩)(q:∀aj tk dx,aj.get? x=B ⟨.ref C,B dx,.fields vs, #[]⟩→(∀b o,b≠x→s.heap.get? b=B o→aj.get? b=B o)→R (.ok (.ret .none)) {s with heap:=aj,toks:=tk}):
  ps (bB prog w) A (.call (.builtin "object.__setattr__") ⟨[.ref x,.str name tk,v],[]⟩) R s:=by
 refine WA cX bZ X (ox:=⟨.ref C,ab,.fields vs, #[]⟩) (od:=ab) ⟨hx,rfl,rfl,cy⟩ fun b=>?_
 obtain⟨cd,hc,_,_,jO,_⟩:=cX.mm
 refine aX (cq (aX (aX (JJ hx (aX ((Ku X hc).here ?_))))))
 rw[jO]
 obtain⟨h,g,d,t,os⟩:=s
 have WE:(h.push {cls:=.type "dict",data:=.dict #[]}).get? x=B ⟨.ref C,ab,.fields vs, #[]⟩:=lx _ hx
 have WF:x≠h.objs.size:=rQ (py hx)
 refine aX (wpAny_alloc ?_)
 refine aX (wpAny_update WE ?_)
 refine cq (a:=B h.objs.size) ?_
 have Nq:((h.push {cls:=.type "dict",data:=.dict #[]}).update x fun o=>{cls:=o.cls,dict:=B h.objs.size,data:=o.data,slots:=o.slots}).get? h.objs.size
   =B {cls:=.type "dict",data:=.dict #[]}:=
  (Se _ _ _ _ WF.symm).trans (Heap.get?_push_at rfl rfl)
 have B3:((h.push {cls:=.type "dict",data:=.dict #[]}).update x fun o=>{cls:=o.cls,dict:=B h.objs.size,data:=o.data,slots:=o.slots}).Ns h.objs.size (fun I=>ab):=
  ⟨_, #[],_,Nq,rfl,fun e cP=>cr cP (by simp),fun I=>rfl⟩
 show bM _ _ (RN h.objs.size (.str name tk) name v) _ _ _
 unfold RN aat
 refine aX (cq (aX (wpAny_nsSet1 (Heap.Ns1.of_empty B3) fun aj mZ aG=>?_)))
 obtain⟨oD,aqA,aqB,aja,ajb,ajc⟩:=mZ.count (Within.cons name v Within.nil)
 refine aX (JC aja (by rw[ajb];exact Rm (ao ajc (by rw[iO,I6,vo];omega))) ?_)
 refine cq (q aj _ h.objs.size ?_ fun b o nb e=>?_)
 ·refine(aG.2 x WF).trans (x1 _ WE rfl)
 ·exact(aG.2 b (rQ (py e))).trans ((Se _ _ _ _ nb).trans (lx _ e))
theorem ajd (cX:oX K C names)(bZ:name∈names)(X:K.In s.heap)(hx:s.heap.get? x=B ⟨.ref C,ab,.fields vs, #[]⟩)(q:∀aj tk dx,aj.get? x=B ⟨.ref C,B dx,.fields vs, #[]⟩→(∀b o,b≠x→s.heap.get? b=B o→aj.get? b=B o)→Q () {s with heap:=aj,toks:=tk}):
  bM (bB prog w) A (setAttr (.ref x) name v) Q E s:=by
 refine set_plain X (ox:=⟨.ref C,ab,.fields vs, #[]⟩) (od:=ab) ⟨hx,rfl,rfl,cy⟩ cX.gv ?_
 exact ai9 (s:={s with toks:=s.toks+1}) cX bZ X hx q
end
structure Nr (K:kx)(f:aC)(fd:i9)(body:J gQ):Prop where
 cO:∃iA od ch,K.lookup f=B ⟨iA,od,.func fd,ch⟩
 cd:codeIn K fd.code fd.qualname=af
 y0:fd.body=.stmts body
 WG:∀x∈fd.scope.names,x.2≠.cell
 co:fd.scope.isCoroutine=ae
 Gy:fd.scope.isGenerator=ae
 k:fd.scope.kind=.function
inductive rk:J gQ→J (aO×aO)→Prop
 |fj:rk [] []
 |dN {a x:aO}{i2 p2 kM jR:ib}{r:J gQ}{l:J (aO×aO)}(h:rk r l):rk (.Assign [.Attribute (.Name ("self":aO) i2) a p2] (.Name x kM) jR::r) ((a,x)::l)
inductive rl (w:iT)(m:aO→ax au):J iS→J (aO×aO)→Prop
 |fj:rl w m [] []
 |dN {e:iS}{es:J iS}{a x:aO}{l:J (aO×aO)}(aY:e.hash=nz w.params a)(bu:∃t,e.key=.str a t)(cu:m x=B e.val)(h:rl w m es l):rl w m (e::es) ((a,x)::l)
section
variable {K:kx}
theorem WH (cX:oX K C names)(hk:fd.scope.kind=.function)(aje:fd.scope.names.lookup ("self":aO)=B .local)(ajf:m "self"=B (.ref x))(ajg:K.In h₀)(cL:ox.cls=.ref C)(M2:notCls ox=af)(hd:ox.dict=B dx)(y9:x≠dx):
  ∀{stmts:J gQ} {l:J (aO×aO)},rk stmts l→∀(es:J iS) (n:ah) (s:a3),(∀p∈l,p.1∈names∧fd.scope.names.lookup p.2=B .local∧(m p.2).isSome=af∧(p.2==("__debug__":aO))=ae)→
   (∀e∈es,∃y t,e.key=.str y t∧∀p∈l,(y==p.1)=ae)→l.Pairwise (fun p q=>(p.1==q.1)=ae)→es.length+l.length≤100→
   Fr h₀ L s.heap m→tv h₀ L s.heap ([(x,ox)]++(dx,iB es n)::[])→
   (∀aj tk Mz gm,Fr h₀ L aj m→tv h₀ L aj ([(x,ox)]++(dx,iB (es++Mz) gm)::[])→rl w m Mz l→bM (bB prog w) A (pw rest (EQ fd L fI)) Q E {s with heap:=aj,toks:=tk})→
   bM (bB prog w) A (pw (stmts++rest) (EQ fd L fI)) Q E s:=by
 intro stmts l bQ
 induction bQ with
 |fj=>
  intro es n s _ _ _ _ F de q
  exact q s.heap s.toks [] n F (Y (en ..) de) .fj
 |@dN a y i2 p2 kM jR r l h az=>
  intro es n s aw G1 hp ea F de q
  refine JD ?_
  refine(aw _ (.head _)).elim fun g1 cj=>cj.elim fun g2 d3=>d3.elim fun g3 BG=>?_
  refine(iR.mp g3).elim fun v av=>?_
  refine Jz (ldc hk g2 F.ns av (ldc hk aje F.ns ajf ?_ (by decide)) BG)
  have sQ:=ve.mp hp
  have ea:=iO▸ea
  refine WD (pre:=[(x,ox)]) (post:=[]) cX g1 (ajg.keeps F.keep) F de ⟨(de _ (.head _)).1,cL,M2,by refine hd▸?_;exact(de (dx,iB es n) (.tail _ (.head _))).1⟩ hd (fun e la=>(G1 e la).imp fun y=>gb fun t z=>⟨z.1,z.2 _ (.head _)⟩) (ao (ed _ _) ea) (fun p hp=>Y (df.mp hp) y9) (fun p hp=>dz hp) fun aj tk t lB sR=>?_
  refine az (es++[⟨nz w.params a,.str a t,v⟩]) (n+1) _ (fun p hp=>aw p (.tail _ hp)) (fun e la=>?_) sQ.2 (by rw[cG,Qe,gd,fQ 1];exact ea) lB sR fun bu ajh VE jM wc za Us=>?_
  ·rcases fE.mp la with la|la
   ·exact(G1 e la).imp fun y=>gb fun t z=>⟨z.1,fun p hp=>z.2 p (.tail _ hp)⟩
   ·exact Y (df.mp la) (⟨a,t,rfl,fun p aji=>sQ.1 p aji⟩)
  ·exact q bu ajh (⟨nz w.params a,.str a t,v⟩::VE) jM wc (by rw[dE] at za;exact za) (.dN rfl ⟨t,rfl⟩ av Us)
end
noncomputable def n0 (bs:J (aO×au))(x:aC):aO→ax au:=fun y=>((("self":aO),hr x)::bs).reverse.lookup y
structure Cw (K:kx)(C fI:aC)(fd:i9)(body:J gQ):Prop where
 ajj:AJ K C=af
 Nt:x5 K (.ref C) "__init__"=B (B (.ref fI))
 ww:E3 K (.ref fI)=B (.type "function")
 fn:Nr K fI fd body
 oU:fd.scope.names.lookup ("self":aO)=B .local
section
variable {w:iT}{K:kx}{C x:aC}{s:a3}{fd:i9}
theorem WI (X:K.In s.heap)(dk:Cw K C fI fd body)(aA:s.heap.NoLimit)(zb:A.depth+2 < mJ)(ay:∀ar x,K.In ar.heap→qB ar fd ⟨.ref x::vs,[]⟩ ((("self":aO),hr x)::bs))(aw:∀y∈bs,fd.scope.names.lookup y.1=B .local)
  (h:∀(nR:dc) x dx L aY tk,x≠dx→Fr s.heap L aY (n0 bs x)→tv s.heap L aY ([(x,mO C dx)]++(dx,iB [] 0)::[])→
   bM (bB prog w) nR (pw body (EQ fd L fI)) (fun f ar=>f=.next∧Q (.ref x) ar) (fun I I=>bt) {s with heap:=aY,toks:=tk}):
  bM (bB prog w) A (cY (.ref C) vs) Q E s:=by
 obtain⟨bU,g,d,t,os⟩:=s
 refine dk.fn.cO.elim fun iA cj=>cj.elim fun od d3=>d3.elim fun ch bC=>?_
 refine EG (make_core (makes_of X dk.ajj) (Kt X dk.Nt) (fun self=>bind_fn X self dk.ww) (.inl rfl) ?_)
 have k:∀b o,bU.get? b=B o→((bU.push lz).push (mO C bU.objs.size)).get? b=B o:=fun b o e=>lx _ (lx _ e)
 refine Rn (fd:=fd) (body:=body) (show A.depth+1 < mJ by omega) ((X.keeps k:K.In ((bU.push lz).push (mO C bU.objs.size))) _ _ bC) rfl (aA.keeps k) (codeRec_of (X.keeps k:K.In ((bU.push lz).push (mO C bU.objs.size))) dk.fn.cd) dk.fn.y0 (ay _ _ (X.keeps k:K.In ((bU.push lz).push (mO C bU.objs.size)))) dk.fn.WG (fun y eI=>?_) (fun aY k6 keep=>?_) dk.fn.co dk.fn.Gy dk.fn.k
 ·rcases cV.mp eI with rfl|eI
  ·exact dk.oU
  ·exact aw y eI
 ·have hK:((bU.push lz).push (mO C bU.objs.size)).objs.size=bU.objs.size+2:=by simp only[Sf]
  dsimp only at k6 keep⊢
  have ajk:aY.get? (bU.objs.size+1)=B (mO C bU.objs.size):=keep _ _ (by heap_get)
  have Nq:aY.get? bU.objs.size=B lz:=keep _ _ (by heap_get)
  refine ou (h _ (bU.objs.size+1) bU.objs.size ((bU.push lz).push (mO C bU.objs.size)).objs.size aY _ (QO _) ⟨k6,fun b o e=>keep b o (k b o e),by refine hK▸?_;exact ed _ _⟩ fun p hp=>?_) (fun f ar eb=>eb.elim fun e q=>?_) fun I I x=>x.elim
  ·simp only[Ej,Ah,cV,mF,KC] at hp
   rcases hp with rfl|rfl
   ·exact⟨ajk,by refine Y hK ?_;exact rQ (rP _),rZ (iQ _)⟩
   ·exact⟨Nq,by refine Y hK ?_;exact rQ (Eo (by decide)),rZ (a8 _)⟩
  ·exact Y e (⟨rfl,q⟩)
structure WJ (w:iT)(C:aC)(s:a3)(m:aO→ax au)(l:J (aO×aO))(x dx:aC)(es:J iS)(n:ah)(aj:b8):Prop where
 cw:∀b o,s.heap.get? b=B o→aj.get? b=B o
 mY:aj.get? x=B (mO C dx)
 y3:aj.get? dx=B (iB es n)
 pF:s.heap.get? x=ab
 fd:s.heap.get? dx=ab
theorem ajl (cX:oX K C names)(X:K.In s.heap)(dk:Cw K C fI fd body)(aA:s.heap.NoLimit)(zb:A.depth+2 < mJ)(ay:∀ar x,K.In ar.heap→qB ar fd ⟨.ref x::vs,[]⟩ ((("self":aO),hr x)::bs))(aw:∀y∈bs,fd.scope.names.lookup y.1=B .local)(bQ:rk body l)(aG:∀x,n0 bs x ("self":aO)=B (.ref x))(hp:∀x,∀p∈l,p.1∈names∧fd.scope.names.lookup p.2=B .local∧(n0 bs x p.2).isSome=af∧(p.2==("__debug__":aO))=ae)(hw:l.Pairwise (fun p q=>(p.1==q.1)=ae))(ea:l.length≤10)(q:∀x dx es n aj tk,WJ w C s (n0 bs x) l x dx es n aj→rl w (n0 bs x) es l→Q (.ref x) {s with heap:=aj,toks:=tk}):bM (bB prog w) A (cY (.ref C) vs) Q E s:=by
 refine WI X dk aA zb ay aw fun nR x dx L aY tk y9 F de=>?_
 have:=WH (prog:=prog) (w:=w) (A:=nR) (K:=K) (C:=C) (x:=x) (h₀:=s.heap) (L:=L) (m:=n0 bs x) (names:=names) (fd:=fd) (fI:=fI) (ox:=mO C dx) (dx:=dx) (rest:=[]) (Q:=fun f ar=>f=Ki∧Q (.ref x) ar) (E:=fun I I=>bt)
  cX dk.fn.k dk.oU (aG x) X rfl rfl rfl y9 bQ [] 0 {s with heap:=aY,toks:=tk} (hp x) (fun e la=>dz la) hw (by simp;omega) F de fun aj tk es n lB sR qb=>?_
 ·rw[en] at this;exact this
 ·refine JE ⟨rfl,q x dx es n aj tk ⟨lB.keep,(sR _ (.head _)).1,?_,(sR _ (.head _)).2.2,?_⟩ qb⟩
  ·have:=(sR (dx,iB ([]++es) n) (by simp)).1
   simpa using this
  ·exact(sR (dx,iB ([]++es) n) (by simp)).2.2
theorem ajm (cX:oX K C names)(X:K.In s.heap)(dk:Cw K C fI fd body)(aA:s.heap.NoLimit)(zb:A.depth+2 < mJ)(ay:∀ar x,K.In ar.heap→qB ar fd ⟨.ref x::vs,[]⟩ ((("self":aO),hr x)::bs))(aw:∀y∈bs,fd.scope.names.lookup y.1=B .local)(ajn:body=stmts++[.Assign [.Attribute (.Name ("self":aO) i2) a p2] (.Dict [] [] kM) jR])(bQ:rk stmts l)(aG:∀x,n0 bs x ("self":aO)=B (.ref x))(hp:∀x,∀p∈l,p.1∈names∧fd.scope.names.lookup p.2=B .local∧(n0 bs x p.2).isSome=af∧(p.2==("__debug__":aO))=ae)(hw:l.Pairwise (fun p q=>(p.1==q.1)=ae))(ea:l.length≤10)(b0:a∈names)(ajo:∀p∈l,(p.1==a)=ae)(q:∀x dx es n aj tk p t,WJ w C s (n0 bs x) l x dx (es++[⟨nz w.params a,.str a t,.ref p⟩]) n aj→rl w (n0 bs x) es l→s.heap.get? p=ab→aj.get? p=B lz→Q (.ref x) {s with heap:=aj,toks:=tk}):bM (bB prog w) A (cY (.ref C) vs) Q E s:=by
 refine WI X dk aA zb ay aw fun nR x dx L aY tk y9 F de=>?_
 rw[ajn]
 refine WH (prog:=prog) (w:=w) (A:=nR) (K:=K) (C:=C) (x:=x) (h₀:=s.heap) (L:=L) (m:=n0 bs x) (names:=names) (fd:=fd) (fI:=fI) (ox:=mO C dx) (dx:=dx) (Q:=fun f ar=>f=Ki∧Q (.ref x) ar) (E:=fun I I=>bt)
  cX dk.fn.k dk.oU (aG x) X rfl rfl rfl y9 bQ [] 0 {s with heap:=aY,toks:=tk} (hp x) (fun e la=>by cases la) hw (by simp;omega) F de fun aj tk es n lB sR qb=>?_
 refine JD ?_
 refine Jz (wpAny_Dict_empty ?_)
 have wc:=lB.push lz
 have sC:∀p∈[(x,mO C dx),(dx,iB ([]++es) n)],p.1 < aj.objs.size:=fun p hp=>py (sR p (by simpa using hp)).1
 have za:tv s.heap L (aj.push lz) ([(x,mO C dx)]++(dx,iB ([]++es) n)::[(aj.objs.size,lz)]):=by
  have ajp:=sR.push lB lz
  intro p hp
  simp only[Ej,Ah,cV,mF,KC] at hp
  refine ajp p ?_
  simp only[Ej,Ah,cV,mF,KC]
  rcases hp with h|h|h
  ·exact .inr (.inl h)
  ·exact .inr (.inr h)
  ·exact .inl h
 refine ldc dk.fn.k dk.oU wc.ns (aG x) ?_ (by decide)
 have G1:∀{es:J iS} {l:J (aO×aO)},rl w (n0 bs x) es l→(∀p∈l,(p.1==a)=ae)→Cv a es:=by
  intro es l Nu
  induction Nu with
  |fj=>intro _ e la;cases la
  |dN aY bu cu fg az=>
   intro bU e la
   cases la with
   |head=>obtain⟨t,e⟩:=bu;exact⟨_,t,e,bU _ (.head _)⟩
   |tail _ la=>exact az (fun p hp=>bU p (.tail _ hp)) e la
 have len:∀{es:J iS} {l:J (aO×aO)},rl w (n0 bs x) es l→es.length=l.length:=by
  intro es l Nu
  induction Nu with
  |fj=>rfl
  |dN _ _ _ _ az=>simp[az]
 refine WD (s:={s with heap:=aj.push lz,toks:=tk}) (pre:=[(x,mO C dx)]) (post:=[(aj.objs.size,lz)]) (es:=[]++es) cX b0 (X.keeps wc.keep) wc za ⟨(za _ (.head _)).1,rfl,rfl,?_⟩ rfl (by simpa using G1 qb ajo) (by simp[len qb];omega) (fun p hp=>by rw[df.mp hp];exact y9) (fun p hp=>by rw[df.mp hp];exact xE (sC (dx,iB ([]++es) n) (by simp))) fun cu ajq t MQ zc=>?_
 ·exact(za (dx,iB ([]++es) n) (by simp)).1
 ·refine JE ⟨rfl,q x dx es (n+1) cu ajq aj.objs.size t ⟨MQ.keep,(zc _ (.head _)).1,?_,(zc _ (.head _)).2.2,?_⟩ qb ?_ ?_⟩
  ·have:=(zc (dx,iB ([]++es++[⟨nz w.params a,.str a t,.ref aj.objs.size⟩]) (n+1)) (by simp)).1
   simpa using this
  ·exact(zc (dx,iB ([]++es++[⟨nz w.params a,.str a t,.ref aj.objs.size⟩]) (n+1)) (by simp)).2.2
  ·exact(zc (aj.objs.size,lz) (by simp)).2.2
  ·exact(zc (aj.objs.size,lz) (by simp)).1
end
section
variable {prog:mM}{w:iT}{A:dc}{R:l5→a3→Prop}{h:b8}{g:dn GenState}{d:Drawn}{t:ah}{os:OsState}
variable {nm q:aO}{C de:aC}{bs bm Cx:J au}{wj:aZ}{sn:J aO}{sub:J au}{pT:aZ}{col:ax aZ}{j9:ax aC}{gq jp ik lJ pU:ax au}{bQ newId WK:gg}
theorem ajr (F:ExcBaseFacts bQ newId WK Cx){M:vv}{E:au→a3→Prop}(ajs:(hr C::bm).contains (.type bQ)=af){rest:J au}{Q:g5→a3→Prop}(eu:h.get? C=B (rV nm q C de bs bm wj sn sub pT col j9 gq jp ik lJ pU newId))
  (bH:Q () ⟨h,g,d,t,os⟩):bM M A (xJ newId ⟨.ref C::rest,[]⟩) Q E ⟨h,g,d,t,os⟩:=by
 have aqC:=F.noStar
 unfold xJ
 refine Y F.newKind (Y F.newSplit (Y F.newRow ?_))
 dsimp only
 repeat(first|refine vl eu ?_| (refine Ew eu ?_;refine Y ajs ?_)|refine wpAny_staticBase_exc eu ?_|refine Ro eu ?_|simp only[tJ,IE,AP]|wp_step)
 exact bH
theorem ajt (F:ExcBaseFacts bQ newId WK Cx)(Cy:(hr C::bm).contains (.type bQ)=af)(wo:(hr C::bm).contains (.type "AttributeError")=ae)(G2:(hr C::bm).contains (.type "NameError")=ae){rest:J au}
  (eu:h.get? C=B (rV nm q C de bs bm wj sn sub pT col j9 gq jp ik lJ pU newId))
  (bH:R (.ok (.ret (.ref (h.objs.size+1)))) ⟨(h.push {cls:=.type "tuple",data:=.seq rest.toArray}).push
   {cls:=.ref C,data:=.fields #[.ref h.objs.size,.none,.none,.none,.bool ae,.none]},g,d,t,os⟩) (aqD:rest.length≤kT):
  ps (bB prog w) A (.builtin newId ⟨.ref C::rest,[]⟩) R ⟨h,g,d,t,os⟩:=by
 have aqE:=F.ends
 refine codeAny_builtinAt F.entry ?_
 unfold Builtin.«BaseException.__new__»
 refine Rt ?_
 show PySem.wpAt _ _ _ (stack>>=_) _ _ _
 refine Rt (PySem.wpAt_stack fun p below=>Rd ?_)
 wp_walk
 refine Rd ?_
 rw[F.owner]
 repeat(first|with_reducible refine wpAny_madeHere_exc F.canon eu ?_|with_reducible refine vl eu ?_| (with_reducible refine Ew eu ?_;first|rw[Cy]|rw[wo]|rw[G2])|wp_step)
 show R _ _
 rw[Sf]
 exact bH
end
inductive WL:ee→Prop
 |mk {nm q:aO}{bs bm:J au}{wj:aZ}{sn:J aO}{sub:J au}{pT:aZ}{col:ax aZ}{j9:ax aC}{gq jp ik lJ pU:ax au}(b:(hr 46::bm).contains (.type "Exception")=af)
  (a:(hr 46::bm).contains (.type "AttributeError")=ae) (n:(hr 46::bm).contains (.type "NameError")=ae):WL (rV nm q 46 45 bs bm wj sn sub pT col j9 gq jp ik lJ pU "Exception.__new__")
structure G3 (K:kx)(fI:aC)(fd:i9)(body:J gQ):Prop where
 mm:∃o,K.lookup 46=B o∧WL o
 Nt:x5 K (.ref 46) "__init__"=B (B (.ref fI))
 ww:E3 K (.ref fI)=B (.type "function")
 fn:Nr K fI fd body
 oU:fd.scope.names.lookup ("self":aO)=B .local
 told:fd.scope.names.lookup ("told":aO)=B .local
 bQ:rk body [(("told":aO),("told":aO))]
 cX:oX K 46 [("told":aO)]
 gj:∀ar x v,K.In ar.heap→qB ar fd ⟨[.ref x,v],[]⟩ [(("self":aO),hr x),(("told":aO),v)]
section
variable {prog:mM}{w:iT}{A:dc}{K:kx}{s:a3}{Q:au→a3→Prop}{E:au→a3→Prop}{fd:i9}{fI:aC}{body:J gQ}{v:au}
theorem aju {a x:aO}(h:rk body [(a,x)]):∃i2 p2 kM jR,body=[.Assign [.Attribute (.Name ("self":aO) i2) a p2] (.Name x kM) jR]:=by
 cases h with|dN h=>cases h;exact⟨_,_,_,_,rfl⟩
theorem ajv (x v:au):([(("self":aO),x),(("told":aO),v)]:J (aO×au)).reverse.lookup ("self":aO)=B x∧([(("self":aO),x),(("told":aO),v)]:J (aO×au)).reverse.lookup ("told":aO)=B v:=⟨rfl,rfl⟩
theorem ajw {L e:aC}{h:b8}{g:dn GenState}{d:Drawn}{t:ah}{os:OsState}{vs:dn au}{Q:tG→a3→Prop}(dk:G3 K fI fd body)(X:K.In h)(k6:h.Ns L fun x=>QC x [(("self":aO),hr e),(("told":aO),v)].reverse)
  (aV:h.get? e=B ⟨.ref 46,ab,.fields vs, #[]⟩) (q:∀aj tk dx,aj.get? e=B ⟨.ref 46,B dx,.fields vs, #[]⟩→(∀b o,b≠e→h.get? b=B o→aj.get? b=B o)→Q .next ⟨aj,g,d,tk,os⟩):
  bM (bB prog w) A (pw body (EQ fd L fI)) Q E ⟨h,g,d,t,os⟩:=by
 obtain⟨i2,p2,kM,jR,jo⟩:=aju dk.bQ
 rw[jo]
 have m:=ajv (.ref e) v
 exact JD (Jz (ldc dk.fn.k dk.told k6 m.2 (ldc dk.fn.k dk.oU k6 m.1 (ajd dk.cX (.head _) X aV fun aj tk dx aT aN=>JE (q aj tk dx aT aN)) (by decide)) (by decide)))
theorem ajx (X:K.In s.heap)(dk:G3 K fI fd body)(aA:s.heap.NoLimit)(zb:A.depth+4 < mJ)
  (q:∀aj e t dx tk,(∀b o,s.heap.get? b=B o→aj.get? b=B o)→s.heap.get? e=ab→aj.get? e=B ⟨.ref 46,B dx,.fields #[.ref t,.none,.none,.none,.bool ae,.none], #[]⟩→Q (.ref e) {s with heap:=aj,toks:=tk}):
  bM (bB prog w) A (cY (.ref 46) [v]) Q E s:=by
 cases s with|mk h g d t os=>
 obtain⟨o,Gj,Nv⟩:=dk.mm
 have eu:=X _ _ Gj
 clear Gj
 induction Nv with|mk Cy wo G2=>
 have di:(⟨h,g,d,t,os⟩:a3).TypeIs (.ref 46) "type":=⟨_,eu,rfl⟩
 refine EG (Rr ?_)
 show bM _ _ (callAny (.ref 46) _) _ _ _
 have f1:=tc_lookup
 have f2:=tc_bind (.ref 46)
 repeat(any_goals(first|assumption|with_reducible refine vl eu ?_|wp_step))
 refine⟨rfl,?_⟩
 clear f1 f2 di
 refine codeAny_call_builtin_at (J8 _ (by decide+kernel)) entry_typeCall (wpAny_check_type_call_sub eu ?_)
 repeat(first|with_reducible refine vl eu ?_|with_reducible refine Ro eu ?_|wp_step)
 refine codeAny_call_builtin_code (J8 _ Ka.quiet) (ajr Ka Cy eu ?_)
 refine ajt Ka Cy wo G2 eu ?_ (by rw[vo];exact dg rfl)
 show bM _ _ _ _ _ ⟨(h.push {cls:=.type "tuple",data:=.seq [v].toArray}).push {cls:=.ref 46,data:=.fields #[.ref h.objs.size,.none,.none,.none,.bool ae,.none]},g,d,t,os⟩
 have k:∀b o,h.get? b=B o→((h.push {cls:=.type "tuple",data:=.seq [v].toArray}).push {cls:=.ref 46,data:=.fields #[.ref h.objs.size,.none,.none,.none,.bool ae,.none]}).get? b=B o:=fun b o e=>lx _ (lx _ e)
 have WM:((h.push {cls:=.type "tuple",data:=.seq [v].toArray}).push
   {cls:=.ref 46,data:=.fields #[.ref h.objs.size,.none,.none,.none,.bool ae,.none]}).get? (h.objs.size+1)=B
   {cls:=.ref 46,data:=.fields #[.ref h.objs.size,.none,.none,.none,.bool ae,.none]}:=by heap_get
 have z:h.get? (h.objs.size+1)=ab:=rZ (iQ _)
 generalize(h.push {cls:=.type "tuple",data:=.seq [v].toArray}).push {cls:=.ref 46,data:=.fields #[.ref h.objs.size,.none,.none,.none,.bool ae,.none]}=aY at *
 generalize h.objs.size+1=e at *
 have WN:=k _ _ eu
 clear eu Cy wo G2
 have zd:K.In aY:=X.keeps k
 unfold Aw
 repeat(first|with_reducible refine vl WM ?_| (with_reducible refine Ew WN ?_;rw[show(hr 46::_).contains (.ref 46)=af from by simp])|wp_step)
 show bM _ _ (mK (.ref 46) _) _ _ _
 refine(Kt zd dk.Nt).here ?_
 refine pq (aX ((bind_fn zd _ dk.ww).here ?_))
 clear WN
 obtain⟨iA,od,ch,bC⟩:=dk.fn.cO
 refine aX (EG (Rn (fd:=fd) (body:=body) (e6 (eH (by decide:1≤4) _) zb) (zd _ _ bC) rfl (aA.keeps k) (codeRec_of zd dk.fn.cd) dk.fn.y0 (dk.gj _ _ _ zd) dk.fn.WG (fa.mpr ⟨dk.oU,fa.mpr ⟨dk.told,fun I h=>nomatch h⟩⟩) (fun bu k6 keep=>?_) dk.fn.co dk.fn.Gy dk.fn.k))
 refine ajw dk (zd.keeps keep) k6 (keep _ _ WM) fun aj tk dx aT aN=>?_
 refine cq ?_
 refine cq ?_
 exact q aj e _ dx tk (fun b o y=>aN b o (fun i=>nomatch (i▸y).symm.trans z) (keep _ _ (k b o y))) z aT
end
noncomputable abbrev rm:J aO:=["kind","scope","first","bounds"]
noncomputable abbrev wx:J aO:=["table","scope","parent"]
noncomputable abbrev ze:aO:="values"
noncomputable abbrev n1:aO:="self"
structure G4 (ay:b8)(K:kx):Prop where
 mY:K.In ay
 iV:∀t∈gh,K.lookup t=ab
def b6 (_:ah)(k:ah)(ds:J D)(hp:J ap)(K:a0)(_:J ap→Prop):Prop:=match k with
 |0=>bF (m5 4 [.aW []] ds) fun full=>K (.cO 0 full) hp
 |_=>bF (m5 3 [.aK] ds) fun full=>K (.cO 1 (full++[.bb hp.length])) (hp++[.bv []])
def Nw (g:ci)(K:kx)(fd:i9)(aI:J aO)(fU:J D):Prop:=∀{h:b8} {N O:J aC} {hp:J ap} {vs:J au} {ds full:J D},aR g h N O hp→cp g h N O ds vs→m5 aI.length fU ds=B full→
 ∃us,cp g h N O full us∧∀ar x,K.In ar.heap→qB ar fd ⟨.ref x::vs,[]⟩ ((n1,hr x)::aI.zip us)
noncomputable abbrev WO (aI:J aO):J (aO×aO):=aI.map fun p=>(p,p)
inductive WP (g:ci)(K:kx):Prop
 |mk {fI:aC}{fd:i9}{body:J gQ}(M:Cw K 132 fI fd body)(bQ:rk body (WO rm))(b:Nw g K fd rm [.aW []])(l:∀y∈rm,fd.scope.names.lookup y=B .local):WP g K
inductive WQ (g:ci)(K:kx):Prop
 |mk {fI:aC}{fd:i9}{stmts:J gQ}{i2 p2 kM jR:ib}(M:Cw K 209 fI fd (stmts++[.Assign [.Attribute (.Name n1 i2) ze p2] (.Dict [] [] kM) jR]))(bQ:rk stmts (WO wx))(b:Nw g K fd wx [.aK])(l:∀y∈wx,fd.scope.names.lookup y=B .local):WQ g K
structure G5 (g:ci)(K:kx):Prop where
 ok:G4 g.b K
 Cz:g.b.NoLimit
 v0:oX K 132 rm
 v1:oX K 209 ["table","scope","parent","values"]
 m0:WP g K
 By:WQ g K
section
variable {K:a0}
theorem G4.up (x:G4 g.b KF)(H:aR g h N O hp):KF.In h:=fun a o e=>H.cw a o (x.mY a o e) fun m=>nomatch (x.iV a m).symm.trans e
theorem Nx (x:rl w m es l):lA w es (l.map (·.1))∧(es.map fun e=>B e.val)=l.map fun p=>m p.2:=by
 induction x with
 |fj=>exact⟨.fj,rfl⟩
 |dN aY bu cu _ az=>exact⟨bu.elim fun t e=>.dN aY e az.1,Y h8 (h8.symm▸cu.symm▸az.2.symm▸rfl)⟩
theorem WR (x:rl w m es l)(e:(l.map fun p=>m p.2)=us.map B):es.map (·.val)=us:=by
 have:(es.map (·.val)).map B=us.map B:=Y vh ((Nx x).2.trans e)
 exact(List.map_inj_right fun I I=>bo).mp this
theorem G6 {α:Type}{l:J α}(h:l.length=n+1):∃a r,l=a::r∧r.length=n:=by
 induction l with
 |nil=>cases h
 |cons a r=>exact⟨a,r,rfl,qx h⟩
theorem WS {us:J au}(h:us.length=3):∃a b c,us=[a,b,c]:=by
 obtain⟨a,r,rfl,aY⟩:=G6 h
 obtain⟨b,r,rfl,bu⟩:=G6 aY
 obtain⟨c,r,rfl,cu⟩:=G6 bu
 exact⟨a,b,c,Y (IS.mp cu) rfl⟩
theorem ajy {us:J au}(h:us.length=4):∃a b c d,us=[a,b,c,d]:=by
 obtain⟨a,r,rfl,aY⟩:=G6 h
 obtain⟨b,c,d,rfl⟩:=WS aY
 exact⟨a,b,c,d,rfl⟩
theorem ajz (dk:G5 g KF)(C:fc A n O s.heap)(H:aR g s.heap N O hp)(aL:cp g s.heap N O ds vs)(h:bF (m5 4 [.aW []] ds) fun full=>K (.cO 0 full) hp):eF g A O N s (cY (.ref 132) vs []) K X:=by
 induction cQ.of h with|@mk full hf h=>
 induction dk.m0 with|@mk fI fd body M bQ Ny loc=>
 obtain⟨us,m3,Nz⟩:=Ny H aL hf
 obtain⟨a,b,c,d,rfl⟩:=ajy (m3.bJ.trans (MT hf))
 refine ajl (bs:=rm.zip [a,b,c,d]) dk.v0 (dk.ok.up H) M (dk.Cz.at fun o e=>H.cw _ _ e (by decide)) (e6 (by omega) C.qM) (fun ar x q=>Nz ar x q) (fun y eI=>loc y.1 (I5 (show(y.1,y.2)∈_ from eI)).1) bQ (fun x=>rfl) (fun x p hp=>?_) (by decide) (by decide) fun x dx es nn aj tk ap qb=>?_
 ·obtain⟨y,m,rfl⟩:=h9.mp hp
  refine⟨m,loc y m,?_,?_⟩
  ·rcases cV.mp m with rfl|m
   ·rfl
   ·rcases cV.mp m with rfl|m
    ·rfl
    ·rcases cV.mp m with rfl|m
     ·rfl
     ·exact Y (df.mp m) rfl
  ·exact(show∀y∈rm,(y==t8)=ae by decide) y m
 ·refine .mk (b:=.cO 0 full) (.e7 ap.cw) (H.tO ap.cw) (f0.mk (H.ma ap.pF) (.mk (H.ma ap.fd) ap.mY ap.y3 (Nx qb).1 ?_)) h
  exact Y (WR (us:=[a,b,c,d]) qb rfl) ((cz.cw H ap.cw).vs m3)
theorem ajA (dk:G5 g KF)(C:fc A n O s.heap)(H:aR g s.heap N O hp)(aL:cp g s.heap N O ds vs)(h:bF (m5 3 [.aK] ds) fun full=>K (.cO 1 (full++[.bb hp.length])) (hp++[.bv []])):eF g A O N s (cY (.ref 209) vs []) K X:=by
 induction cQ.of h with|@mk full hf h=>
 induction dk.By with|@mk fI fd stmts i2 p2 kM jR M bQ Ny loc=>
 obtain⟨us,m3,Nz⟩:=Ny H aL hf
 obtain⟨a,b,c,rfl⟩:=WS (m3.bJ.trans (MT hf))
 refine ajm (bs:=wx.zip [a,b,c]) dk.v1 (dk.ok.up H) M (dk.Cz.at fun o e=>H.cw _ _ e (by decide)) (e6 (by omega) C.qM) (fun ar x q=>Nz ar x q) (fun y eI=>loc y.1 (I5 (show(y.1,y.2)∈_ from eI)).1) rfl bQ (fun x=>rfl) (fun x p hp=>?_) (by decide) (by decide) (by decide) (by decide) fun x dx es nn aj tk p t ap qb f1 f2=>?_
 ·obtain⟨y,m,rfl⟩:=h9.mp hp
  refine⟨mE [ze] m,loc y m,?_,?_⟩
  ·rcases cV.mp m with rfl|m
   ·rfl
   ·rcases cV.mp m with rfl|m
    ·rfl
    ·exact Y (df.mp m) rfl
  ·exact(show∀y∈wx,(y==t8)=ae by decide) y m
 ·have bY:dx≠p:=fun q=>IQ es (tn _ []) (bl IC (Data.dict.inj (bl Obj.data (bo ((q▸ap.y3).symm.trans f2)))).1)
  have M1:cz N O (N++[p]) O s.heap aj:=.app f1 ap.cw
  have off:∀{y:aC},s.heap.get? y=ab→y≠p→hs (N++[p]) O y:=fun z ne=>⟨fun m=>(fE.mp m).elim (H.ma z).r fun q=>ne (df.mp q),(H.ma z).n,(H.ma z).s⟩
  have hd:nB g aj p []:=FT f2 rfl
  have kk:=Nx qb
  refine .mk (b:=.cO 1 (full++[.bb hp.length])) (.yf ap.cw f1) (H.KX (o:=.bv []) ap.cw f1 (.mk hd j0.mk)) (f0.mk (off ap.pF (fun q=>nomatch (q▸ap.mY).symm.trans f2:x≠p)) (.mk (off ap.fd bY) ap.mY ap.y3 ?_ ?_)) h
  ·have ajB:∀{es dp},lA g.w es dp→lA g.w (es++[⟨nz g.w.params ze,.str ze t,.ref p⟩]) (dp++[ze]):=fun x=>by
    induction x with
    |fj=>exact .dN rfl rfl .fj
    |dN a b _ az=>exact .dN a b az
   exact ajB kk.1
  ·exact Y eS (Y (WR (us:=[a,b,c]) qb rfl) ((M1.vs m3).app (.mk (f0.mk (Bd H) cy) .mk)))
theorem ajC (dk:G5 g KF)(C:fc A n O s.heap)(H:aR g s.heap N O hp)(aL:cp g s.heap N O ds vs)(h:b6 l k ds hp K X):dP g A O N s (cY (.ref (pC k)) vs []) K X:=by
 induction k with
 |zero=>exact .of (ajz dk C H aL h)
 |succ k=>exact .of (ajA dk C H aL h)
theorem ajD (Nv:rg g.b)(dk:G4 g.b KF)(lim:g.b.NoLimit)(bQ:G3 KF fI fd body):wk g:=
 ⟨Nv,fun {A O N s hp v d n} C H aL=>ajx (dk.up H) bQ (lim.at fun o e=>H.cw _ _ e (by decide)) (e6 (by omega) C.qM) fun aj e t dx tk keep ajE ge=>.mk (.e7 keep) (H.tO keep) ajE ge⟩
end
def qc (tab:ah→ax t2)(fx:ah→ax D):ah→ah→ah→J D→J ap→a0→(J ap→Prop)→Prop
 |0,_,_,_,_,_,_=>bt
 |m+1,l,f,ds,hp,K,X=>if l=m+1 then bF (tab f) fun d=>B5 ⟨m,qc tab fx m,b6,fx⟩ d.np d.k d.fU d.bd ds hp K X else qc tab fx m l f ds hp K X
noncomputable abbrev rn (tab:ah→ax t2)(fx:ah→ax D)(m l:ah):e9:=⟨l,qc tab fx m,b6,fx⟩
inductive G7 (g:ci)(f:ah)(d:t2):Prop
 |mk {F:GD}{kk:ah}(ok:MS g (fm.getD f 0) F)(b:kF bA kk F.sc F.y0=d.bd)(np:F.aI.length=d.np)(k:F.k=d.k)(fU:F.fU=d.fU):G7 g f d
abbrev FoundZ_glo (g:ci)(tab:ah→ax t2)(fx:ah→ax D):Prop:=∃dr fM,g.b.Ns i8 dr∧g.b.Ns lu fM∧LC g (rn tab fx 0 0) dr fM
abbrev FoundZ_fn (g:ci):Prop:=∀f x,qR[f]?=B x→∃o fd,g.b.get? (fm.getD f 0)=B o∧o.cls=.type "function"∧o.data=.func fd∧fm.getD f 0∉gh
abbrev FoundZ_meth (g:ci):Prop:=∃gp,sr g.b 1 gp∧gp "get"=B (.ref 191)∧gp "set"=B (.ref 199)∧gp "unset"=B (.ref 206)
structure qd (g:ci)(KF:kx)(tab:ah→ax t2)(fx:ah→ax D):Prop where
 mm:∀k,∃gp,sr g.b k gp
 iY:FoundZ_glo g tab fx
 fn:FoundZ_fn g
 fJ:FoundZ_meth g
 e0:G5 g KF
 lam:MZ g.b
 G8:Cc g.b
 ez:rg g.b
 MR:∃fI fd body,G3 KF fI fd body
 NA:∀f d,tab f=B d→G7 g f d
section
variable {K:a0}
theorem WT:∀{m:ah},qc tab fx m 0 f ds hp K X→bt
 |0,h=>h
 |m+1,h=>WT (show qc tab fx m 0 f ds hp K X from(bL (xC m).symm:qc tab fx (m+1) 0 f ds hp K X=_)▸h)
theorem NB:∀{m:ah},l+1≤m→qc tab fx m (l+1) f ds hp K X=bF (tab f) fun d=>B5 (rn tab fx l l) d.np d.k d.fU d.bd ds hp K X
 |0,h=>cr h (Nat.not_succ_le_zero l)
 |m+1,h=>by
  by_cases e:l=m
  ·subst e;exact b3 rfl
  ·exact(bL fun q=>e (qx q)).trans (NB (Jn (Ji h) e))
theorem qd.lD (F:qd g KF tab fx):wk g:=F.MR.elim fun I z=>z.elim fun I z=>z.elim fun I bQ=>ajD F.ez F.e0.ok F.e0.Cz bQ
theorem qd.G9 (F:qd g KF tab fx)(call:∀{A O N s hp f vs ds K X},fc A l O s.heap→aR g s.heap N O hp→cp g s.heap N O ds vs→qc tab fx m l f ds hp K X→dP g A O N s (cY (.ref (fm.getD f 0)) vs []) K X):ft g (rn tab fx m l) where
 mm:=F.mm
 iY:=F.iY.imp fun I=>gb fun I z=>⟨z.1,z.2.1,⟨z.2.2.fn,z.2.2.TF,z.2.2.bn,z.2.2.TG,z.2.2.bi,z.2.2.ji,z.2.2.vO,z.2.2.qO,z.2.2.fx,z.2.2.ez,z.2.2.TH⟩⟩
 fn:=F.fn
 fJ:=F.fJ
 bp:=call
 e0:=fun C H r h=>ajC (l:=0) F.e0 C H r h
 bi:=fun C H r h=>ai0 C H r h
 ji:=fun C H r h=>.of (ah9 H r h)
 bm:=fun C H r rs bE aw h=>ai3 C H r rs bE aw h
theorem qd.WU (F:qd g KF tab fx)(W:ft g (rn tab fx m l))(low:∀aU,l=aU+1→∀n,db g (rn tab fx m aU) n)(n:ah):db g (rn tab fx m l) n:=by
 induction n using QP with
 |ind n az=>
  induction n with
  |zero=>exact aeI
  |succ n=>
   refine aeJ W (az n (rP n)) (afL W (fun k hk=>az k (Jp hk)) fun {k et b aJ sy np pos sc env X loc hp K A O N s} E aV aw h=>?_)
   induction l with
   |zero=>exact h.elim
   |succ l=>exact ahf (l:=l) W F.lam F.G8 F.lD F.e0.Cz rfl (low l rfl n) E aV aw h
theorem wy (F:qd g KF tab fx):∀l m,l≤m→ft g (rn tab fx m l)∧∀n,db g (rn tab fx m l) n:=by
 intro l
 induction l with
 |zero=>
  intro m bZ
  have W:=F.G9 (m:=m) (l:=0) fun C H r h=>(WT h).elim
  exact⟨W,F.WU W fun I e=>nomatch e⟩
 |succ l WV=>
  intro m bZ
  have W:=F.G9 (m:=m) (l:=l+1) fun {A O N s hp f vs ds K X} C H r h=>by
   induction cQ.of ((NB bZ).mp h)with|@mk d e h=>
   induction F.NA f d e with|@mk G kk MU aT aN dK fN=>
   have aD:=WV l (a8 l)
   exact agA (c:=rn tab fx l l) (kk:=kk) MU (VF aD.1 F.lD aD.2 60) F.e0.Cz C H r (Y aN (Y dK (Y fN (Y aT h))))
  exact⟨W,F.WU W fun aU e=>qx e▸(WV m (Jo bZ)).2⟩
theorem ajF (F:qd g KF tab fx)(C:fc A l O s.heap)(H:aR g s.heap N O hp)(r:cp g s.heap N O ds vs)(h:qc tab fx l l f ds hp K X):dP g A O N s (cY (.ref (fm.getD f 0)) vs []) K X:=
 (wy F l l (a8 l)).1.bp C H r h
end
def bx (l f:ah)(ds:J D)(hp:J ap)(K:a0)(X:J ap→Prop):Prop:=∀m,l≤m→qc yr b5 m l f ds hp K X
section
variable {l f np k:ah}{hp bq:J ap}{K:a0}
theorem ajG (hf:m5 np fU ds=B full)(h:dX c 60 bd (uv hp X) (ut full k) hp (fun I bq=>kh hp K .aK bq) (fun d bq=>kh hp K d bq) fun I I=>bt):B5 c np k fU bd ds hp K X:=by
 delta B5
 exact Y hf h
theorem fX (h:P a):bF (B a) P:=h
def S (c:e9)(aM:lE)(R:a0)(bd:J cT)(k n:ah)(loc:cD)(hp:J ap):Prop:=dX c n (bd.drop k) aM loc hp (fun I bq=>R .aK bq) (fun d bq=>R d bq) fun I I=>bt
theorem a6 (e:bd[k]?=B s)(h:f6 c n s aM loc hp (fun loc hp=>S c aM R bd (k+1) n loc hp) (fun d bq=>R d bq) fun I I=>bt):S c aM R bd k (n+1) loc hp:=by
 delta S
 refine Y List.drop_eq_getElem?_toList_append (Y e ?_)
 exact h
theorem cZ (e:yr f=B ⟨np,k,fU,bd⟩)(hf:m5 np fU ds=B full)(aw:ut full k=loc)(h:∀(call:ah→ah→J D→J ap→a0→(J ap→Prop)→Prop) (R:a0) (aM:J ap→Prop),(∀{aU f ds hp K X},aU≤l→bx aU f ds hp K X→call aU f ds hp K X)→(∀{d bq},kh hp K d bq→R d bq)→(∀{bq},uv hp X bq→aM bq)→
   S ⟨l,call,b6,b5⟩ aM R bd 0 60 loc hp):bx (l+1) f ds hp K X:=fun m bZ=>
 (NB bZ).mpr (e▸fX (ajG hf (aw▸h (qc yr b5 l) (kh hp K) (uv hp X) (fun h r=>r _ h) (fun h=>h) fun h=>h)))
theorem lb {α σ:Type}(f:α→D)(st:σ→cD)(aG:σ→J ap)(aD:J α→σ→Prop)(nil:∀s,aD [] s→aQ (st s) (aG s))(cons:∀a r s,aD (a::r) s→∀P:fL,(∀s,aD r s→P (st s) (aG s))→b (f a) (st s) (aG s) P)(r:J α):∀s,aD r s→gk b (r.map f) (st s) (aG s) aQ:=by
 induction r with
 |nil=>exact nil
 |cons a r az=>exact fun s h=>cons a r s h _ az
theorem lf {α d0 σ:Type}{b:D→d0→cD→J ap→(d0→cD→J ap→Prop)→Prop}{aQ:d0→cD→J ap→Prop}(f:α→D)(Ha:σ→d0)(st:σ→cD)(aG:σ→J ap)(aD:J α→σ→Prop)(nil:∀s,aD [] s→aQ (Ha s) (st s) (aG s))
  (cons:∀a r s,aD (a::r) s→∀P:d0→cD→J ap→Prop,(∀s,aD r s→P (Ha s) (st s) (aG s))→b (f a) (Ha s) (st s) (aG s) P) (r:J α):∀s,aD r s→mh b (r.map f) (Ha s) (st s) (aG s) aQ:=by
 induction r with
 |nil=>exact nil
 |cons a r az=>exact fun s h=>cons a r s h _ az
theorem ajH (h:dX c n b (fun I=>bt) (loc.set i (B CA)) hp (fun loc hp=>dX c n b (fun I=>bt) (loc.set i (B yK)) hp aQ Kr aQ) Kr (fun loc hp=>dX c n b (fun I=>bt) (loc.set i (B yK)) hp aQ Kr aQ)):
  gk (fun d loc hp aQ=>hI [i] d loc fun loc=>dX c n b (fun I=>bt) loc hp aQ Kr aQ) [CA,yK] loc hp aQ:=h
theorem CB {σ:Type}(st:σ→cD)(aG:σ→J ap)(aD:ah→σ→Prop)(zero:∀s,¬ aD 0 s)(step:∀k s,aD (k+1) s→∀P:fL,(∀s,aD k s→P (st s) (aG s))→t (st s) (aG s) fun v hp=>ei v (b (st s) hp P) (aQ (st s) hp))(k:ah):∀s,aD k s→md t b k (st s) (aG s) aQ:=by
 induction k with
 |zero=>exact fun s h=>(zero s h).elim
 |succ k az=>exact fun s h=>step k s h _ az
theorem jy (h:xG (i.natAbs+1) 18446744073709551616=af):kB i:=Ep h
theorem Hb (h:aQ loc hp):dX c (n+1) [] aM loc hp aQ Kr Kc:=h
theorem ai (h:xG a b=af):a≤b:=Ep h
theorem eW (h:b=af→P)(aj:b=ae→Q):ei b P Q:=by induction b with|true=>exact h rfl|false=>exact aj rfl
theorem cI (h:b=af)(p:P):ei b P Q:=h▸p
theorem cW (h:b=ae)(q:Q):ei b P Q:=h▸q
theorem wz {b c:aZ}(h:(b&&c)=af→P)(aj:(b&&c)=ae→Q):ei b (ei c P Q) Q:=by induction b with|true=>exact eW (b:=c) h aj|false=>exact aj rfl
theorem ajI {b c:aZ}(h:(b&&c)=af→P)(aj:(b&&c)=ae→Q):ei b (ei (!c) Q P) (ei (!ae) Q P):=by
 induction b with
 |true=>induction c with|true=>exact h rfl|false=>exact aj rfl
 |false=>exact aj rfl
theorem qe (e:b=af)(h:K (bD b x y) hp):K x hp:=by have h:=e▸h;exact h
theorem n2 (e:b=ae)(h:K (bD b x y) hp):K y hp:=by have h:=e▸h;exact h
theorem uA (h:b=af→bQ)(aj:b=ae→A):ei (b==ae) A bQ:=by induction b with|true=>exact h rfl|false=>exact aj rfl
theorem Hc (h:b=af→A)(aj:b=ae→bQ):ei (b==af) A bQ:=by induction b with|true=>exact h rfl|false=>exact aj rfl
theorem kN {A T E:Prop}(h:b=af→A)(aj:b=ae→E):ei (b==af) A (ei b T E):=by induction b with|true=>exact h rfl|false=>exact aj rfl
theorem n3 {A T E:Prop}(h:b=af→T)(aj:b=ae→A):ei (b==ae) A (ei b T E):=by induction b with|true=>exact h rfl|false=>exact aj rfl
theorem cm {d:D}(e:bq.length=hp.length)(k:K d bq):kh hp K d bq:=.inl k
theorem jz (e:bq.length=hp.length)(k:X bq):uv hp X bq:=.inl k
theorem wA {d:D}(o:je (· < hp.length) d)(k:K d hp):kh hp K d (hp++ex):=.inr ⟨d,hp,.nD o,⟨rfl,fun i hi=>by refine Y (jC hi) ?_;exact .pH⟩,k⟩
theorem hg:(hp++[o])[hp.length]?=B o:=List.getElem?_concat_length
theorem cf (e:o=B a)(h:F a):bF o F:=by rw[e];exact h
theorem kl:k0 (hp++[o]) (.bb hp.length)=B o.ty:=by show((hp++[o])[hp.length]?).map ap.ty=_;refine hg▸?_;rfl
theorem sS:(hp++[o]).set hp.length o'=hp++[o']:=by rw[List.set_append_right _ _ (a8 _),xD];rfl
theorem zf (aw:q.length≤1000000)(h:K .aK (hp++[.br (q++[x])])):mg .eP (.bb hp.length) [x] (hp++[.br q]) K:=cf (a:=ap.br q) hg (ak aw (Y sS h))
end
inductive aQ|fo|iC|ip|qf|oY|jS|n4|lg
noncomputable def aQ.s:aQ→aO
 | .fo=>"flag" | .iC=>"number" | .ip=>"style" | .qf=>"choice" | .oY=>"key" | .jS=>"array" | .n4=>"colour" | .lg=>"octets"
inductive Sc|iD|dH
noncomputable def Sc.s:Sc→aO
 | .iD=>"pane" | .dH=>"window"
structure d4 where
 bk:aQ
 e3:ax Sc
 km:D
 hz:D
noncomputable def zg (o:ax Sc):D:=bS o (fun a=>.aF a.s) .aK
noncomputable def d4.d (k:d4):D:=.cO 0 [.aF k.bk.s,zg k.e3,k.km,k.hz]
noncomputable def my:J (J am×d4):=[([97,108,97,114,109],⟨.fo,B .dH,.be af,.aW []⟩),([100,101,112,116,104],⟨.iC,B .iD,.ac 3,.aW [.ac 0,.ac 30]⟩),
 ([100,101,112,116,104,45,109,111,115,116],⟨.iC,B .dH,.ac 9,.aW [.ac 0,.ac 99]⟩),([108,111,111,107],⟨.ip,B .iD,.V [],.aW []⟩),
 ([109,111,100,101],⟨.qf,B .iD,.V [118,105],.aW [.V [118,105],.V [101,109,97,99,115],.V [110,111,110,101]]⟩),([112,114,101,115,115],⟨.oY,B .iD,.V [67,45,97],.aW []⟩),
 ([114,111,119,115],⟨.jS,B .dH,.a5 [(.ac 0,.V [112]),(.ac 2,.V [113])],.aW []⟩),([115,104,97,100,101],⟨.n4,B .dH,.V [100,101,102,97,117,108,116],.aW []⟩),
 ([116,105,116,108,101],⟨.lg,B .iD,.V [97,32,98],.aW []⟩)]
noncomputable def eB:J (bf×D):=my.map fun p=>(.V p.1,p.2.d)
noncomputable def eL (b:J am):ax d4:=(my.find? fun p=>a9 (bf.V p.1=bf.V b)).map (·.2)
noncomputable def ajJ:d4:=⟨.lg,ab,.V [],.aW []⟩
noncomputable def bG (b:J am):d4:=(eL b).getD ajJ
noncomputable def cx (s:Sc)(p:D)(i:ah):D:=.cO 1 [.a5 eB,.aF s.s,p,.bb i]
def iE (o:ax α)(f:α→D)(K:a0)(X:J ap→Prop)(hp:J ap):Prop:=bS o (fun a=>K (f a) hp) (X hp)
section
variable {K:a0}
theorem aqF:bF (B a) F=F a:=rfl
theorem aqG:ei af P Q=P:=rfl
theorem aqH:ei ae P Q=Q:=rfl
theorem aqI:hI [n] x loc F=F (loc.set n (B x)):=rfl
theorem aqJ:hX ae o x hp K=K x hp:=rfl
theorem aqK:hX af o x hp K=K (.bb hp.length) (hp++[o]):=rfl
theorem aqL:iE (B a) f K X hp=K (f a) hp:=rfl
theorem aqM:iE ab f K X hp=X hp:=rfl
theorem aqN {k:d4}:oC k.d "kind" hp K=K (.aF k.bk.s) hp:=rfl
theorem aqO {k:d4}:oC k.d "scope" hp K=K (zg k.e3) hp:=rfl
theorem aqP {k:d4}:oC k.d "first" hp K=K k.km hp:=rfl
theorem aqQ {k:d4}:oC k.d "bounds" hp K=K k.hz hp:=rfl
theorem aqR:oC (cx s x n) "table" hp K=K (.a5 eB) hp:=rfl
theorem aqS:oC (cx s x n) "scope" hp K=K (.aF s.s) hp:=rfl
theorem aqT:oC (cx s x n) "parent" hp K=K x hp:=rfl
theorem aqU:oC (cx s x n) "values" hp K=K (.bb n) hp:=rfl
noncomputable def c7 (b:J am)(L:J (J am)):aZ:=(L.map D.V).any fun e=>a9 (dy e=B (bf.V b))
noncomputable def Hd (b:J am)(L:J (J am)):aq:=(((L.map D.V).findIdx? fun e=>a9 (dy e=B (bf.V b))).getD 0:ah)
theorem zh {L:J (J am)}:((L.map D.V).all fun e=>(dy e).isSome)=af:=Je▸(gy.mpr fun I I=>rfl)
theorem m6 (L:J (J am))(h:F (c7 b L)):eg .In (.V b) (.aW (L.map .V)) hp F:=ak zh h
theorem uB (e:dy x=B k)(h:F (d2 m k)):eg .In x (.a5 m) hp F:=cf e h
theorem NC (e:dy x=B k)(h:F (!d2 m k)):eg .NotIn x (.a5 m) hp F:=cf e h
theorem fu (h:F v):si (.be v) F:=h
theorem WW (L:J (J am))(h:F (c7 b L)):eg .In (.V b) (.aP (L.map .V)) hp F:=ak zh h
theorem WX (h:c7 b L=af)(aw:L.length≤1000)(k:K (.ac (Hd b L)) hp):mg .tR (.aW (L.map .V)) [.V b] hp K:=by
 induction iR.mp (List.findIdx?_isSome.trans h:((L.map D.V).findIdx? fun e=>a9 (dy e=B (bf.V b))).isSome=af)with
 |intro i e=>
 rw[Hd,e] at k
 exact cf e (ak ⟨zh,(cH (as:=L) D.V).symm▸aw⟩ k)
theorem mz (h:F (a9 (i < j))):eg .Lt (.ac i) (.ac j) hp F:=h
theorem zi (h:F (a9 (i≤j))):eg .LtE (.ac i) (.ac j) hp F:=h
theorem He (h:F (a9 (j < i))):eg .Gt (.ac i) (.ac j) hp F:=h
theorem CC (h:F (a9 (j≤i))):eg .GtE (.ac i) (.ac j) hp F:=h
theorem oZ (h:F (i==j)):eg .Eq (.ac i) (.ac j) hp F:=h
end
local macro_rules | `(tactic| o_norm) => do
  let l := ("f6 dX bT j7 A7 yl A6 jl oE mX List.getElem?_cons_zero List.getElem?_cons_succ Option.join_some List.set_cons_zero List.set_cons_succ aqF aqL aqM aqI aqJ aqK aqG aqH aqN aqO aqP aqQ aqR aqS aqT aqU j6 Nat.zero_add Nat.reduceAdd".splitOn " ").toArray.map fun s => Lean.mkIdent s.toName
  `(tactic| dsimp only [$[$l:ident],*])
local macro_rules | `(tactic| o_args) => `(tactic| (refine a6 rfl ?_; o_norm))
section
variable {K:a0}
theorem ajK (h:K (.ac ((hE i 3584).fdiv 512)) hp):bx (l+1) 4 [.ac i] hp K X:=
 cZ rfl (full:=[.ac i]) rfl (loc:=[B (.ac i)]) rfl fun call R aM hc r y=>ak (by decide) (r (cm rfl h))
theorem WY (hk:kB k)(h:K (.ac (jE (hE i (qE 3584)) (k *512))) hp):bx (l+1) 5 [.ac i,.ac k] hp K X:=
 cZ rfl (full:=[.ac i,.ac k]) rfl (loc:=[B (.ac i),B (.ac k)]) rfl fun call R aM hc r y=>ak ⟨by decide,by decide,hk⟩ (r (cm rfl h))
theorem WZ (h:K (.be (a9 (16777216≤i))) hp):bx (l+1) 6 [.ac i] hp K X:=
 cZ rfl (full:=[.ac i]) rfl (loc:=[B (.ac i)]) rfl fun call R aM hc r y=>r (cm rfl h)
theorem ajL (h:K (.aW [.ac (hE (i.fdiv 65536) 255),.ac (hE (i.fdiv 256) 255),.ac (hE i 255)]) hp):bx (l+1) 7 [.ac i] hp K X:=
 cZ rfl (full:=[.ac i]) rfl (loc:=[B (.ac i)]) rfl fun call R aM hc r y=>ak (by decide) (ak (by decide) (ak (ai rfl) (r (cm rfl h))))
theorem ajM (b0:kB a)(ay:kB b)(h:K (.ac (16777216+jE (jE (a *65536) (b *256)) c)) hp):bx (l+1) 8 [.ac a,.ac b,.ac c] hp K X:=
 cZ rfl (full:=[.ac a,.ac b,.ac c]) rfl (loc:=[B (.ac a),B (.ac b),B (.ac c)]) rfl fun call R aM hc r y=>ak ⟨by decide,by decide,b0⟩ (ak ⟨by decide,by decide,ay⟩ (r (cm rfl h)))
noncomputable def W0 (i:aq):D:=bD (a9 (48≤i)&&a9 (i≤57)) (.ac (i - 48)) (bD (a9 (65≤i)&&a9 (i≤70)) (.ac (i - 55)) (bD (a9 (97≤i)&&a9 (i≤102)) (.ac (i - 87)) .aK))
theorem ajN (h:K (W0 i) hp):bx (l+1) 2 [.ac i] hp K X:=
 cZ rfl (full:=[.ac i]) rfl (loc:=[B (.ac i)]) rfl fun call R aM hc r y=>by
  o_args
  refine wz (fun a=>r (cm rfl (qe a h))) fun a=>?_
  have h:=n2 a h
  o_args
  refine wz (fun a=>r (cm rfl (qe a h))) fun a=>?_
  have h:=n2 a h
  o_args
  exact wz (fun a=>r (cm rfl (qe a h))) fun a=>r (cm rfl (n2 a h))
noncomputable def wB:J am→aq→D
 | [],n=>.ac n
 |c::r,n=>bD (a9 (48≤(c.toNat:aq))&&a9 ((c.toNat:aq)≤57)) (wB r (10 *n+c.toNat - 48)) .aK
theorem numGo_c {c:am}{r:J am}{n:aq}:wB (c::r) n=bD (a9 (48≤(c.toNat:aq))&&a9 ((c.toNat:aq)≤57)) (wB r (10 *n+c.toNat - 48)) .aK:=rfl
noncomputable def mA (b:J am):D:=bD ((b.length:aq)==0) .aK (wB b 0)
theorem W1 {n c:aq}(h0:0≤n)(h:(n+1) *10 ^ (k+1)≤10 ^ 18)(a:(a9 (48≤c)&&a9 (c≤57))=af):0≤10 *n+c - 48∧(10 *n+c - 48+1) *10 ^ k≤10 ^ 18:=by
 have a:=ct.mp a
 have a1:=dg a.1
 have a2:=dg a.2
 refine⟨Int.sub_nonneg_of_le (qt a1 (Int.le_add_of_nonneg_left (P5 (by decide) h0))),qt (Int.mul_le_mul_of_nonneg_right (b:=10 *(n+1)) (by refine Y (Int.mul_add ..) (Y (Int.add_sub_assoc ..) (Y (Int.add_assoc ..) ?_));exact Int.add_le_add_left (PZ (Int.sub_le_sub_right a2 48) 1) _) (Int.pow_nonneg (by decide))) (qt (DS ?_) h)⟩
 rw[Int.pow_succ,z9 10,Int.mul_assoc,z9 10]
theorem W2 (h0:0≤n)(h:(n+1) *10 ^ k≤10 ^ 18):kB n:=by
 have z:=qt (Int.mul_le_mul_of_nonneg_left (show(1:aq)≤10 ^ k by exact_mod_cast Nat.one_le_pow k 10 (by decide)) (P4 h0 (by decide))) h
 exact h7.mp (DP (DS (Int.natAbs_of_nonneg h0)) (P1 (P8 n) (qt (DS (IM _).symm) (qt z (by decide)))))
theorem W3 (h:k≤18):(0+1) *10 ^ k≤(10:aq) ^ 18:=by
 refine Y (IL ..) (Y (Int.one_mul ..) ?_);exact_mod_cast Nat.pow_le_pow_right (by decide) h
noncomputable def dL (c:am):D:=.ac c.toNat
theorem ND (ay:b.length≤18)(h:K (mA b) hp):bx (l+1) 1 [.V b] hp K X:=
 cZ rfl (full:=[.V b]) rfl (loc:=[B (.V b),ab,ab]) rfl fun call R aM hc r y=>by
  o_args
  refine ak (ao ay (ai rfl)) (eW (fun a=>r (cm rfl (qe a h))) fun a=>?_)
  o_args
  o_args
  refine ak (ao ay (ai rfl)) ?_
  refine lb (σ:=aq×ax D) dL (fun s=>[B (.V b),B (.ac s.1),s.2]) (fun I=>hp) (fun r s=>(0≤s.1∧(s.1+1) *10 ^ r.length≤10 ^ 18)∧K (wB r s.1) hp) (fun s i=>?_) (fun c q s i P bI=>?_) b (0,ab) ⟨⟨by decide,W3 ay⟩,n2 a h⟩
  ·exact a6 (k:=3) rfl (r (cm rfl i.2))
  ·refine ajI (fun a=>?_) fun a=>r (cm rfl (n2 a i.2))
   exact ak ⟨jy rfl,W2 i.1.1 i.1.2⟩ (bI (_,_) ⟨W1 i.1.1 i.1.2 a,qe a i.2⟩)
end
section
variable {K:a0}
noncomputable def ro (r:ah):am:=E8 (48+r % 10)
noncomputable def uC:ah→ah→J am
 |0,_=>[]
 |k+1,r=>match r with|0=>[]|r+1=>ro (r+1)::uC k ((r+1) / 10)
noncomputable def NE (n:ah):J am:=ro n::uC 17 (n / 10)
noncomputable def hh (n:ah):J am:=(NE n).reverse
theorem W4 {r:ah}:D.ac (48+(r:aq).fmod 10)=dL (ro r):=by
 have aY:(ro r).toNat=48+r % 10:=(UInt8.toNat_ofNat' ..).trans (Jr (ts (Jm (jW r (by decide)) 48) (ai rfl)))
 show _=D.ac ((ro r).toNat:aq)
 refine Y aY (Y (PY _ (by decide)) ?_);rfl
theorem W5 {r:ah}:(r:aq).fdiv 10=((r / 10:ah):aq):=by
 rw[PX _ (by decide)];rfl
theorem CD:nK (dL c)=B c:=by
 show(if _ then _ else _)=_
 exact Y (b3 ⟨gY _,h7.mpr c.toNat_lt⟩) (Y (ol ..) (Y (Kx ..) rfl))
theorem CE (b:J am):dF nK (b.map dL)=B b:=by
 induction b with
 |nil=>rfl
 |cons c r az=>show(nK (dL c)).bind _=_;refine CD▸az▸?_;rfl
theorem ajO {k r:ah}(aL:a9 (0 < (r:aq))=af)(aY:r < 10 ^ k)(bu:acc.length+k≤18)(cu:acc++uC k r=jK):0 < k∧r / 10 < 10 ^ (k - 1)∧(acc++[ro r]).length+(k - 1)≤18∧(acc++[ro r])++uC (k - 1) (r / 10)=jK:=by
 have aL:=P2.mp (dg aL)
 cases k with
 |zero=>exact cr aY (mI.mpr aL)
 |succ k=>
  refine⟨tt k,xB (Nat.lt_of_lt_of_eq aY ((Nat.pow_succ ..).trans (Nat.mul_comm ..))),?_,?_⟩
  ·rw[cG,gd,fQ [ro r].length];exact bu
  ·induction r with
   |zero=>exact cr aL (Ao 0)
   |succ r=>exact Y (dE ..) cu
theorem ajP {k r:ah}(aL:a9 (0 < (r:aq))=ae)(cu:acc++uC k r=jK):acc=jK:=by
 have aL:=Nat.le_zero.mp (mI.mp fun q=>r2 aL (P2.mpr q))
 subst aL
 rw[show uC k 0=[] from by induction k<;>rfl,en] at cu
 exact cu
theorem NF (aA:n < 10 ^ 18)(h:K (.V (hh n)) hp):bx (l+1) 0 [.ac n] hp K X:=
 cZ rfl (full:=[.ac n]) rfl (loc:=[B (.ac n),ab,ab]) rfl fun call R aM hc r y=>by
  o_args
  refine CC (eW (fun a=>?_) fun a=>?_)
  rotate_left
  ·exact cr (gY n) (r2 a)
  o_args
  refine ak (by decide) (ak (ai rfl) ?_)
  refine Y W4 ?_
  refine a6 (k:=2) rfl ?_
  refine ak (by decide) ?_
  refine Y W5 ?_
  o_args
  refine⟨18,CB (σ:=J am×ah) (fun s=>[B (.ac n),B (.ac s.2),B (.bb hp.length)]) (fun s=>hp++[.br (s.1.map dL)]) (fun k s=>0 < k∧s.2 < 10 ^ (k - 1)∧s.1.length+(k - 1)≤18∧s.1++uC (k - 1) s.2=NE n) (fun s i=>cr i.1 (Ao 0)) (fun k s i P bI=>?_) 18 ([ro n],n / 10) ⟨ai rfl,xB aA,ai rfl,rfl⟩⟩
  o_norm
  refine He (eW (fun a=>?_) fun a=>?_)
  ·have z:=ajO a i.2.1 i.2.2.1 i.2.2.2
   o_norm
   refine cf kl (ak rfl (ak (by decide) (ak kl ?_)))
   refine zf (ao (ao (ed ..) (cH dL▸i.2.2.1)) (ai rfl)) ?_
   refine ak ⟨by decide,ai rfl⟩ ?_
   refine Y W4 (Y W5 ?_)
   have bI:=bI (s.1++[ro s.2],s.2 / 10) z
   rw[eS] at bI
   exact bI
  ·have z:=i.2.2.1
   rw[ajP a i.2.2.2] at z⊢
   o_args
   refine mz (eW (fun a=>?_) fun a=>?_)
   ·exact cr (gY n) (DT.mpr (dg a))
   refine a6 rfl ?_
   refine cf (a:=(NE n).map dL) ?_ (ak ?_ (cf (a:=hh n) ?_ (ak ?_ (r (wA cy h)))))
   ·show(((hp++_)[hp.length]?).bind ap.oB)=_
    refine Y hg ?_;rfl
   ·exact Y (cH ..) (ao (ao (ed ..) z) (ai rfl))
   ·exact cN Eh (CE _)
   ·exact ao (ao (ed ..) (xt▸z)) (ai rfl)
end
section
variable {K:a0}
theorem zj:(c1 b x y).length≤b.length:=by
 rw[c1,xv,vg]
 exact ao (xF ..) (Jq ..)
theorem uD (js:p.length≤5)(h:K (.aW (c1 p ab (B i)++[v]++c1 p (B (i+1)) ab)) hp):bx (l+1) 3 [.aW p,.ac i,v] hp K X:=
 cZ rfl (full:=[.aW p,.ac i,v]) rfl (loc:=[B (.aW p),B (.ac i),B v]) rfl fun call R aM hc r y=>by
  o_args
  have a:=fun x y=>ao (zj (b:=p) (x:=x) (y:=y)) js
  refine ak (ao js (ai rfl)) (ak (ai rfl) (ak (ao (dR (a ..) _) (ai rfl)) (ak (ao js (ai rfl)) (ak (ao (m:=6+5) (eZ ?_ (a ..)) (ai rfl)) (r (cm rfl h))))))
  exact Y cG (dR (a ..) _)
theorem ajQ (h:K (.be ae) hp):bx (l+1) 9 [.V []] hp K X:=
 cZ rfl (full:=[.V []]) rfl (loc:=[B (.V [])]) rfl fun call R aM hc r y=>ak (ai rfl) (r (cm rfl h))
theorem ajR (h:K (.be ae) hp):bx (l+1) 9 [.V [b]] hp K X:=
 cZ rfl (full:=[.V [b]]) rfl (loc:=[B (.V [b])]) rfl fun call R aM hc r y=>ak (ai rfl) (r (cm rfl h))
theorem ajS (bH:q.length≤100)(h:K (.be ((a.toNat:Int)==64)) hp):bx (l+1) 9 [.V (a::b::q)] hp K X:=
 cZ rfl (full:=[.V (a::b::q)]) rfl (loc:=[B (.V (a::b::q))]) rfl fun call R aM hc r y=>by
  o_args
  exact ak (ao (dR bH 2) (ai rfl)) (He (Y (eO (h7.mpr (Nat.succ_lt_succ (tt _))):a9 (1 < ((a::b::q).length:aq))=af) (ak ⟨by decide,ao (dR bH 2) (ai rfl)⟩ (r (cm rfl h)))))
noncomputable def mB:J (J am):=[[98,108,97,99,107],[114,101,100],[103,114,101,101,110],[121,101,108,108,111,119],[98,108,117,101],[109,97,103,101,110,116,97],[99,121,97,110],[119,104,105,116,101]]
noncomputable def ej:J (J am×aq):=[([98,114,105,103,104,116],1),([98,111,108,100],1),([100,105,109],2),([105,116,97,108,105,99,115],4),([98,108,105,110,107],8),([114,101,118,101,114,115,101],32),([104,105,100,100,101,110],64),([115,116,114,105,107,101,116,104,114,111,117,103,104],128),([111,118,101,114,108,105,110,101],256)]
noncomputable def fh:J (J am×aq):=[([117,110,100,101,114,115,99,111,114,101],1),([100,111,117,98,108,101,45,117,110,100,101,114,115,99,111,114,101],2),([99,117,114,108,121,45,117,110,100,101,114,115,99,111,114,101],3),([100,111,116,116,101,100,45,117,110,100,101,114,115,99,111,114,101],4),([100,97,115,104,101,100,45,117,110,100,101,114,115,99,111,114,101],5)]
noncomputable def gK (l:J (J am×aq)):J (bf×D):=l.map fun p=>(.V p.1,.ac p.2)
noncomputable def jA:J (J am):=[[98,111,108,100,100],[102,103,61,110,111,112,101],[99,111,108,111,117,114,50,53,54],[114,101,100,100,105,115,104],[67,32,97]]
theorem NG (h:K (.aW (mB.map .V)) hp):bx (l+1) 27 [] hp K X:=
 cZ rfl (full:=[]) rfl (loc:=[]) rfl fun call R aM hc r y=>ak (ai rfl) (r (cm rfl h))
theorem CF (h:K (.a5 (gK ej)) hp):bx (l+1) 30 [] hp K X:=
 cZ rfl (full:=[]) rfl (loc:=[]) rfl fun call R aM hc r y=>ak (ai rfl) (r (cm rfl h))
theorem zk (h:K (.a5 (gK fh)) hp):bx (l+1) 31 [] hp K X:=
 cZ rfl (full:=[]) rfl (loc:=[]) rfl fun call R aM hc r y=>ak (ai rfl) (r (cm rfl h))
theorem Hf (h:K (.aP (jA.map .V)) hp):bx (l+1) 37 [] hp K X:=
 cZ rfl (full:=[]) rfl (loc:=[]) rfl fun call R aM hc r y=>ak (ai rfl) (r (cm rfl h))
end
section
variable {K:a0}{R:a0}{call:ah→ah→J D→J ap→a0→(J ap→Prop)→Prop}
noncomputable def W6:J (J am):=[[100,101,102,97,117,108,116],[116,101,114,109,105,110,97,108]]
noncomputable def NH:J am:=[98,114,105,103,104,116]
noncomputable def hx (c:am):D:=W0 c.toNat
noncomputable def NI (n:J aq):D:=.ac (16777216+jE (jE ((16 *n.getD 0 0+n.getD 1 0) *65536) ((16 *n.getD 2 0+n.getD 3 0) *256)) (16 *n.getD 4 0+n.getD 5 0))
noncomputable def Hg (q:J am):D:=bS (dF D.eK (q.map hx)) NI .aK
noncomputable def NJ (b:J am):D:=bD ((b.length:aq)==7&&c1 b ab (B 1)==[35]) (Hg (c1 b (B 1) ab)) .aK
noncomputable def NK (d:D):aZ:=bS d.eK (fun n=>a9 (n < 256)) ae
noncomputable def qg (b w:J am):D:=bD (w.isPrefixOf b) (mA (c1 b (B w.length) ab)) .aK
noncomputable def CG (d e:D):D:=bD (NK d) d e
noncomputable def iq (b:J am):D:=bD (c7 b W6) (.ac (-1)) (bD (c7 b mB) (.ac (Hd b mB)) (bD (NH.isPrefixOf b&&c7 (c1 b (B 6) ab) mB) (.ac (8+Hd (c1 b (B 6) ab) mB))
 (CG (qg b [99,111,108,111,117,114]) (CG (qg b [99,111,108,111,114]) (NJ b)))))
inductive wC:D→Prop
 |no:wC .aK
 |ok {n:aq}(h:0≤n∧n < 16):wC (.ac n)
theorem NL (h:k≤a)(aj:b < k+16)(z:wC e):wC (bD (a9 (a≤n)&&a9 (n≤b)) (.ac (n - k)) e):=by
 induction q:(a9 (a≤n)&&a9 (n≤b))with
 |true=>
  have q:=ct.mp q
  exact .ok ⟨Int.sub_nonneg.mpr (qt h (dg q.1)),Int.sub_left_lt_of_lt_add (DP (dg q.2) aj)⟩
 |false=>exact z
theorem W7:wC (hx c):=by
 refine NL (by decide) (by decide) (NL (by decide) (by decide) (NL (by decide) (by decide) .no))
noncomputable abbrev W8 (L:J D):aZ:=L.any fun e=>a9 (dy e=B bf.aK)
inductive ajT (L:J D):Prop
 |ez (e:dF D.eK L=ab)(a:W8 L=af)
 |ok (ns:J aq)(e:L=ns.map .ac)(m:dF D.eK L=B ns)(a:W8 L=ae)(b:∀n∈ns,0≤n∧n < 16)
theorem ajU (q:J am):ajT (q.map hx):=by
 induction q with
 |nil=>exact .ok [] rfl rfl rfl (fun I=>dz)
 |cons c q az=>
  refine Y h8 ?_
  have z:wC (hx c):=W7
  revert z
  generalize hx c=d
  intro z
  induction z with
  |no=>exact .ez rfl rfl
  |@ok n h=>
   induction az with
   |ez e a=>exact .ez (show(dF D.eK (q.map hx)).map _=_ by refine Y e ?_;rfl) a
   |ok ns e m a b=>exact .ok (n::ns) (bl _ e) (show(dF D.eK (q.map hx)).map _=_ by refine Y m ?_;rfl) a (fa.mpr ⟨h,b⟩)
inductive uE:J aq→Prop
 |mk (a b c d e f:aq):uE [a,b,c,d,e,f]
theorem zl {α:Type}{P:J α→Prop}(h:∀a t,t.length=n→P (a::t))(L:J α)(e:L.length=n+1):P L:=by
 induction L with
 |nil=>exact cr e.symm (xC n)
 |cons a t=>exact h a t (qx e)
theorem ajV {α:Type}{P:J α→Prop}(h:P [])(L:J α)(e:L.length=0):P L:=P9 e▸h
theorem ajW:∀n:J aq,n.length=6→uE n:=
 zl fun a=>zl (P:=fun t=>uE (a::t)) fun b=>zl (P:=fun t=>uE (a::b::t)) fun c=>zl (P:=fun t=>uE (a::b::c::t)) fun d=>zl (P:=fun t=>uE (a::b::c::d::t)) fun e=>zl (P:=fun t=>uE (a::b::c::d::e::t)) fun f=>ajV ⟨a,b,c,d,e,f⟩
theorem ajX (q:J am):((q.map hx).all fun e=>(dy e).isSome)=af:=by
 rw[Je]
 exact gy.mpr fun c I=>by
  show(dy (hx c)).isSome=af
  have z:wC (hx c):=W7
  revert z
  generalize hx c=d
  intro z
  induction z with
  |no=>rfl
  |ok=>rfl
theorem W9 (h:0≤n)(aj:n < 18446744073709551616):kB n:=by
 induction n with
 |ofNat k=>exact h7.mp aj
 |negSucc k=>exact cr h (DT.mpr (Int.negSucc_lt_zero k))
theorem NM (h:0≤n∧n < 16):kB n:=W9 h.1 (P7 h.2 (by decide))
theorem Xa (h:0≤a∧a < 16)(aj:0≤b∧b < 16):kB (16 *a+b):=
 W9 (P4 (P5 (by decide) h.1) aj.1) (P7 (Int.add_lt_add (Int.mul_lt_mul_of_pos_left h.2 (by decide)) aj.2) (by decide))
theorem ajY {b:J am}(h:b.length=7):(c1 b (B 1) ab).length=6:=by
 rw[c1,xv,vg,h];rfl
theorem ajZ (hc:∀{aU f ds hp K X},aU≤l+1→bx aU f ds hp K X→call aU f ds hp K X)(h:R (NI ns) hp)(oQ:uE ns)(ay:∀n∈ns,0≤n∧n < 16){aQ Kc:fL}:
  dX ⟨l+1,call,b6,b5⟩ 51 [.bW 5 (.lc (.a4 ae .Add (.a4 ae .Mult (.ag (.ac 16)) (.bh (.aa 1) (.aa 0))) (.bh (.aa 1) (.a4 ae .Add (.aa 0) (.ag (.ac 1))))) [0] (.c0 (.aW [(.ag (.ac 0)),(.ag (.ac 2)),(.ag (.ac 4))])) [] [ab,B 4]),.bO (B (.bp 8 [(.bh (.aa 5) (.ag (.ac 0))),(.bh (.aa 5) (.ag (.ac 1))),(.bh (.aa 5) (.ag (.ac 2)))]))] aM [o0,h4,gw,eM,B (.aP (ns.map .ac)),cJ] hp aQ (fun d hp=>R d hp) Kc:=by
 induction oQ with|mk zm mr jM UN aqV aqW=>
 have lO:=ay _ (.tail _ (.tail _ (.head _)))
 exact ak (ai rfl) (ak (ai rfl) (ak ⟨by decide,ai rfl⟩ (ak ⟨jy rfl,NM (ay _ (.head _))⟩ (ak ⟨by decide,ai rfl⟩ (ak ⟨by decide,ai rfl⟩ (ak ⟨jy rfl,NM lO⟩ (ak ⟨by decide,ai rfl⟩ (ak ⟨by decide,ai rfl⟩ (ak ⟨jy rfl,NM (ay _ (.tail _ (.tail _ (.tail _ (.tail _ (.head _))))))⟩ (ak ⟨by decide,ai rfl⟩ (ak ⟨by decide,ai rfl⟩ (ak ⟨by decide,ai rfl⟩ (ak ⟨by decide,ai rfl⟩ (hc (a8 _) (ajM (Xa (ay _ (.head _)) (ay _ (.tail _ (.head _)))) (Xa lO (ay _ (.tail _ (.tail _ (.tail _ (.head _)))))) h)))))))))))))))
theorem aj0 (hc:∀{aU f ds hp K X},aU≤l+1→bx aU f ds hp K X→call aU f ds hp K X)(ay:b.length≤18)(h:R (NJ b) hp):S ⟨l+1,call,b6,b5⟩ aM R FE 5 55 [B (.V b),h4,gw,eM,dt,ab] hp:=by
 o_args
 have h0:((b.length:aq)==7&&c1 b ab (B 1)==[35])=ae→S ⟨l+1,call,b6,b5⟩ aM R FE 6 54 [B (.V b),h4,gw,eM,dt,ab] hp:=fun a=>a6 rfl (n2 a h)
 refine ak (ao ay (ai rfl)) (oZ (kN (fun a=>?_) fun a=>h0 (by refine a.symm▸?_;rfl)))
 refine ak (ao ay (ai rfl)) (kN (fun hA=>?_) fun hA=>h0 (by refine a▸hA▸?_;rfl))
 have wq:b.length=7:=vb.mp (c9 a)
 have h:=qe (by refine Y a (Y hA ?_);rfl) h
 refine ak (ao ay (ai rfl)) (ak (ao zj (ao ay (ai rfl))) ?_)
 refine lf (σ:=J am×ax D) dL (fun s=>s.1.map hx) (fun s=>[s.2]) (fun I=>hp) (fun r s=>s.1++r=c1 b (B 1) ab) (fun s i=>?_) (fun c q s i P bI=>?_) _ ([],ab) rfl
 ·rw[en] at i
  refine Y i ?_
  refine ak (ajX _) ?_
  induction ajU (c1 b (B 1) ab)with
  |ez e a=>
   rw[Hg,e] at h
   exact cW (bl not a) (a6 (k:=6) rfl h)
  |ok ns e m a b=>
   rw[Hg,m] at h
   rw[e] at a⊢
   exact cI (bl not a) (ajZ (aQ:=fun I I=>g4) (Kc:=fun I I=>g4) hc h (ajW ns (cN (cH (as:=ns) D.ac) (cN e (Y (cH ..) (Y (ajY wq) rfl))))) b)
 ·refine hc (a8 _) (ajN ?_)
  have bI:=bI (s.1++[c],B (dL c)) ((dE ..).trans i)
  rw[eS] at bI
  exact bI
inductive o1:D→Prop
 |no:o1 .aK
 |ok (n:aq):o1 (.ac n)
theorem aj1 (b:J am):∀n,o1 (wB b n):=by
 induction b with
 |nil=>exact .ok
 |cons c r az=>
  intro n
  rw[numGo_c]
  induction(a9 (48≤(c.toNat:aq))&&a9 ((c.toNat:aq)≤57))with
  |true=>exact az _
  |false=>exact .no
theorem CH (b:J am):o1 (mA b):=by
 rw[mA]
 induction((b.length:aq)==0)with
 |true=>exact .no
 |false=>exact aj1 b 0
theorem Xb (hc:∀{aU f ds hp K X},aU≤l+1→bx aU f ds hp K X→call aU f ds hp K X)(hw:w.length≤18)(ay:b.length≤18)(h:NK (qg b w)=af→R (qg b w) hp)(aj:∀d,NK (qg b w)=ae→P [B (.V b),h4,B (.V w),B d,ab,ab] hp):
  dX ⟨l+1,call,b6,b5⟩ 54 [.bW 3 (.a7 (.e1 (.bm (.aa 0) .se [(.aa 2)])) (.bp 1 [(.fs (.aa 0) (B (.bi ae .bJ [(.aa 2)])) ab)]) (.ag .aK)),.a7 (.cA af [(.aH .IsNot (.aa 3) (.ag .aK)),(.aH .Lt (.aa 3) (.ag (.ac 256)))]) [.bO (B (.aa 3))] []] (fun I=>bt) [B (.V b),h4,B (.V w),gw,ab,ab] hp P (fun d hp=>R d hp) P:=by
 o_norm
 refine fX (ak rfl (ak rfl (eW (fun a=>?_) fun a=>?_)))
 ·refine ak (ao hw (ai rfl)) (ak (ao ay (ai rfl)) (hc (a8 _) (ND (ao zj ay) ?_)))
  have e:qg b w=mA (c1 b (B w.length) ab):=by rw[qg,a];rfl
  have z:=CH (c1 b (B w.length) ab)
  rw[e] at h aj
  revert z h aj
  generalize mA (c1 b (B w.length) ab)=d
  intro h aj z
  induction z with
  |no=>exact ak rfl (aj _ rfl)
  |ok n=>exact ak rfl (cI rfl (kN h (aj _)))
 ·have e:qg b w=.aK:=by rw[qg,a];rfl
  exact ak rfl (aj _ (by refine Y e ?_;rfl))
theorem CI (ay:b.length≤18)(h:K (iq b) hp):bx (l+2) 28 [.V b] hp K X:=
 cZ rfl (full:=[.V b]) rfl (loc:=[B (.V b),ab,ab,ab,ab,ab]) rfl fun call R aM hc r y=>by
  refine a6 rfl ?_
  refine hc (a8 _) (NG ?_)
  o_args
  refine ak (ai rfl) (m6 W6 (eW (fun a=>r (cm rfl (qe a h))) fun a=>?_))
  have h:=n2 a h
  o_args
  refine m6 mB (eW (fun a=>?_) fun a=>?_)
  ·exact fX (ak rfl (ak rfl (WX a (ai rfl) (r (cm rfl (qe a h))))))
  have h:=n2 a h
  have fg:K (CG (qg b [99,111,108,111,117,114]) (CG (qg b [99,111,108,111,114]) (NJ b))) hp→S ⟨l+1,call,b6,b5⟩ aM R FE 4 56 [B (.V b),B (.aW (mB.map .V)),ab,ab,ab,ab] hp:=fun h=>by
   exact a6 rfl (ak (ai rfl) (ak (ai rfl) (ajH (Xb hc (ai rfl) ay (fun a=>r (cm rfl (qe a h))) fun d a=>Xb hc (ai rfl) ay (fun hA=>r (cm rfl (qe hA (n2 a h)))) fun d hA=>aj0 hc ay (r (cm rfl (n2 hA (n2 a h))))))))
  o_args
  refine fX (ak rfl (ak rfl (kN (fun a=>?_) fun a=>fg (n2 (ID.mpr (.inl a)) h))))
  refine ak (ao ay (ai rfl)) (m6 mB (kN (fun hA=>?_) fun hA=>fg (n2 (ID.mpr (.inr hA)) h)))
  exact fX (ak rfl (ak (ao ay (ai rfl)) (ak rfl (WX hA (ai rfl) (r (cm rfl (qe (ct.mpr ⟨a,hA⟩) h)))))))
end
section
variable {K:a0}
theorem CJ {n k:ah}:(n:aq).fdiv k=((n / k:ah):aq):=(PX _ (gY k)).trans (Int.natCast_ediv ..).symm
theorem zn {n k:ah}:(n:aq).fmod k=((n % k:ah):aq):=(PY _ (gY k)).trans (Int.natCast_emod ..).symm
theorem NN {n:ah}:hE (n:aq) 255=((n % 256:ah):aq):=
 (Jy (gY n) (by decide)).trans (bl IN (Nat.and_two_pow_sub_one_eq_mod n 8))
theorem aj2 (h:K (.aW [.ac (n / 65536 % 256:ah),.ac (n / 256 % 256:ah),.ac (n % 256:ah)]) hp):bx (l+1) 7 [.ac n] hp K X:=ajL (CJ.symm▸(CJ.symm▸(NN.symm▸(NN.symm▸(NN.symm▸h)))))
noncomputable def NO:J am:=[48,49,50,51,52,53,54,55,56,57,97,98,99,100,101,102]
noncomputable def hd (i:ah):am:=NO.getD i 0
theorem Xc {i:ah}(ay:b.length≤100)(hi:i < b.length)(h:K (dL (b.getD i 0)) hp):g9 hp K (.V b) (.ac i):=by
 refine ak ⟨gY i,ao ay (ai rfl)⟩ (cf (a:=b.getD i 0) ?_ h)
 refine Y (ol ..) (Y (xr ..) (Y (hQ hi) ?_));rfl
theorem NP (hp:p < 256)(h:K (dL (hd (p / 16))) bH):g9 bH K (.V NO) (.ac ((p:aq).fdiv 16)):=(show(p:aq).fdiv 16=((p / 16:ah):aq) from CJ)▸(Xc (ai rfl) (xB hp) h)
theorem NQ (h:K (dL (hd (p % 16))) bH):g9 bH K (.V NO) (.ac ((p:aq).fmod 16)):=(show(p:aq).fmod 16=((p % 16:ah):aq) from zn)▸(Xc (ai rfl) (jW p (by decide)) h)
noncomputable def m7 (i:ah):J am:=mB.getD i []
theorem Xd (hi:i < 8)(h:K (.V (m7 i)) hp):g9 hp K (.aW (mB.map .V)) (.ac i):=by
 refine ak ⟨gY i,ai rfl⟩ (cf (a:=.V (m7 i)) ?_ h)
 rw[ol,gP,m7,xr,hQ (show i < mB.length from hi)];rfl
theorem sT (h:K (.ac (i - j)) hp):pM m .Sub (.ac i) (.ac j) hp K:=h
theorem Hh:∀i,i < 8→(m7 i).length≤7:=by decide
theorem aj3 (k:ah):∀r,(uC k r).length≤k:=by
 induction k with
 |zero=>exact fun r=>ai rfl
 |succ k az=>
  intro r
  induction r with
  |zero=>exact jD _
  |succ r=>exact d8 (az _)
theorem CK:(hh n).length≤18:=by
 rw[hh,xt];exact d8 (aj3 17 _)
noncomputable def wD (n:ah):J am:=bD (a9 ((n:aq) < 8)) (m7 n) (bD (a9 ((n:aq) < 16)) (NH++m7 (n - 8)) ([99,111,108,111,117,114]++hh n))
theorem Xe {n:ah}:((n:aq)== -1)=ae:=rfl
theorem aj4 (h:K (.V [100,101,102,97,117,108,116]) hp):bx (l+2) 29 [.ac (-1)] hp K X:=
 cZ rfl (full:=[.ac (-1)]) rfl (loc:=[B (.ac (-1)),ab]) rfl fun call R aM hc r y=>r (cm rfl h)
theorem aj5 (aA:n < 256)(h:K (.V (wD n)) hp):bx (l+2) 29 [.ac n] hp K X:=
 cZ rfl (full:=[.ac n]) rfl (loc:=[B (.ac n),ab]) rfl fun call R aM hc r y=>by
  o_args
  refine cf (a:=.ac (-1)) rfl ?_
  refine oZ ?_
  refine cW Xe ?_
  o_args
  refine hc (a8 _) (WZ ?_)
  refine cW (jZ fun q=>cr (DP q (h7.mpr aA)) (by decide)) ?_
  o_args
  refine mz (eW (fun a=>?_) fun a=>?_)
  ·refine hc (a8 _) (NG (Xd (h7.mp (dg a)) (r (cm rfl ?_))))
   rw[wD,a] at h;exact h
  o_args
  rw[wD,a] at h
  refine mz (eW (fun hA=>?_) fun hA=>?_)
  ·refine hc (a8 _) (NG ?_)
   have Ff:=xq.mp (ph.mp (r2 a))
   have Xf:n - 8 < 8:=QH Ff (h7.mp (dg hA))
   refine sT ?_
   refine Y (show(n:aq) - 8=((n - 8:ah):aq) from(Int.ofNat_sub Ff).symm) ?_
   refine Xd Xf (ak (ao (eH (Hh _ Xf) 6) (ai rfl)) (r (cm rfl ?_)))
   rw[hA] at h;exact h
  ·refine hc (a8 _) (NF (l3 aA (by decide)) ?_)
   rw[hA] at h
   exact ak (ao (eH CK 6) (ai rfl)) (r (cm rfl h))
theorem aj6 (aA:16777216≤n)(h:K (.V (35::[hd (n / 65536 % 256 / 16),hd (n / 65536 % 256 % 16),hd (n / 256 % 256 / 16),hd (n / 256 % 256 % 16),hd (n % 256 / 16),hd (n % 256 % 16)])) hp):bx (l+2) 29 [.ac n] hp K X:=
 cZ rfl (full:=[.ac n]) rfl (loc:=[B (.ac n),ab]) rfl fun call R aM hc r y=>by
  o_args
  refine cf (a:=.ac (-1)) rfl ?_
  refine oZ ?_
  refine cW Xe ?_
  o_args
  refine hc (a8 _) (WZ ?_)
  refine cI (eO (xq.mpr aA)) ?_
  o_norm
  refine hc (a8 _) (aj2 ?_)
  have p2:n / 256 % 256 < 256:=jW _ (by decide)
  have kM:n % 256 < 256:=jW _ (by decide)
  exact ak (ai rfl) (ak (ai rfl) (ak (ai rfl) (ak (ai rfl) (ak (ai rfl) (ak ⟨by decide,ai rfl⟩ (NP (jW _ (by decide):n / 65536 % 256 < 256) (ak (by decide) (NQ (ak (ai rfl) (ak (ai rfl) (ak (ai rfl) (ak ⟨by decide,ai rfl⟩ (NP p2 (ak (by decide) (NQ (ak (ai rfl) (ak (ai rfl) (ak (ai rfl) (ak ⟨by decide,ai rfl⟩ (NP kM (ak (by decide) (NQ (cf (CE [_,_,_,_,_,_]) (ak (ai rfl) (ak (ai rfl) (r (cm rfl h)))))))))))))))))))))))))))
end
section
variable {K:a0}{call:ah→ah→J D→J ap→a0→(J ap→Prop)→Prop}
noncomputable def sU:J (J am):=[[102,103],[98,103],[117,115]]
noncomputable def CL:J (J am):=[[97,108,105,103,110],[102,105,108,108],[108,105,115,116],[114,97,110,103,101]]
noncomputable def sV:J (J am):=[[110,111,108,105,115,116],[110,111,114,97,110,103,101],[110,111,97,108,105,103,110],[112,117,115,104,45,100,101,102,97,117,108,116],[112,111,112,45,100,101,102,97,117,108,116],[105,103,110,111,114,101],[110,111,105,103,110,111,114,101]]
noncomputable def CM:J (J am):=[[100,101,102,97,117,108,116],[110,111,110,101],[110,111,97,116,116,114]]
theorem wE (h:o1 x)(aj:o1 y):o1 (bD b x y):=by induction b with|true=>exact h|false=>exact aj
theorem Xg (h:o1 d)(aj:o1 e):o1 (CG d e):=wE h aj
theorem Xh:o1 (iq b):=by
 refine wE (.ok _) (wE (.ok _) (wE (.ok _) (Xg (wE (CH _) .no) (Xg (wE (CH _) .no) (wE ?_ .no)))))
 rw[Hg]
 induction dF D.eK ((c1 b (B 1) ab).map hx)with
 |none=>exact .no
 |some n=>exact .ok _
noncomputable def NR (n:J am)(d:D):D:=bD d.no .aK (.aW [.V n,d])
theorem aj7 (hw:w.length≤18)(e:eA [61] w 0=B i)(aA:c7 (c1 w ab (B i)) sU=af)(h:K (NR (c1 w ab (B i)) (iq (c1 w (B (i+1)) ab))) hp):bx (l+3) 32 [.V w] hp K X:=
 cZ rfl (full:=[.V w]) rfl (loc:=[B (.V w),ab,ab,ab,ab,ab,ab,ab]) rfl fun call R aM hc r y=>by
  have CN:=ao hw (ai (b:=16777216) rfl)
  o_args
  refine fX (ak rfl (ak rfl (ak ⟨ao hw (ai rfl),ai rfl⟩ ?_)))
  rw[mW,e]
  o_args
  refine CC (cI (eO (gY i)) ?_)
  refine ak CN (ak CN (ak (ai rfl) (ak rfl ?_)))
  o_args
  refine ak (ai rfl) (m6 sU ?_)
  refine cI aA (ak rfl (hc (a8 _) (CI (ao zj hw) ?_)))
  have z:=Xh (b:=c1 w (B (i+1)) ab)
  revert z h
  generalize iq (c1 w (B (i+1)) ab)=d
  intro h z
  induction z with
  |no=>exact ak rfl (r (cm rfl h))
  |ok n=>exact ak rfl (ak (ai rfl) (r (cm rfl h)))
noncomputable def NS (w:J am):J am:=bD (([110,111]:J am).isPrefixOf w) (c1 w (B 2) ab) w
noncomputable def Hi (v:J am):aZ:=d2 (gK ej) (.V v)||d2 (gK fh) (.V v)
noncomputable def Hj (w:J am):D:=bD (Hi (NS w)||(c7 w CM||c7 w sV)) (.aW [.V w,.aK]) .aK
theorem Xi (h:R (bD (v||(c7 w CM||c7 w sV)) (.aW [.V w,.aK]) .aK) hp):S ⟨l+2,call,b6,b5⟩ aM R FF 7 53 [B (.V w),h4,gw,eM,dt,cJ,cb,B (.be v)] hp:=by
 o_args
 refine n3 (fun a=>?_) (fun a=>ak (ai rfl) (m6 CM (n3 (fun b=>?_) fun b=>?_)))
 ·have h:=a▸h;exact ak (ai rfl) h
 ·have h:=b▸(a▸h);exact ak (ai rfl) h
 ·have h:=b▸(a▸h)
  refine fX (m6 sV (n3 (fun c=>?_) fun c=>?_))
  ·have h:=c▸h;exact ak (ai rfl) h
  ·have h:=c▸h;exact h
theorem aj8 (hc:∀{aU f ds hp K X},aU≤l+2→bx aU f ds hp K X→call aU f ds hp K X)(h:R (bD (Hi v||(c7 w CM||c7 w sV)) (.aW [.V w,.aK]) .aK) hp):S ⟨l+2,call,b6,b5⟩ aM R FF 6 54 [B (.V w),h4,gw,eM,dt,cJ,B (.V v),cg] hp:=by
 o_args
 rw[Hi] at h
 refine hc (a8 _) (CF (uB rfl ?_))
 refine fu (uA (fun a=>?_) fun a=>?_)
 ·rw[a] at h⊢;exact Xi (v:=af) h
 ·rw[a] at h
  exact hc (a8 _) (zk (uB rfl (Xi h)))
theorem aj9 (hw:w.length≤40)(e:eA [61] w 0=ab)(aA:c7 w sU=ae)(h:K (Hj w) hp):bx (l+3) 32 [.V w] hp K X:=
 cZ rfl (full:=[.V w]) rfl (loc:=[B (.V w),ab,ab,ab,ab,ab,ab,ab]) rfl fun call R aM hc r y=>by
  o_args
  refine fX (ak rfl (ak rfl (ak ⟨ao hw (ai rfl),ai rfl⟩ ?_)))
  rw[mW,e]
  o_args
  refine CC (cW rfl (ak (ai rfl) (ak rfl ?_)))
  o_args
  refine ak (ai rfl) (m6 sU (cW aA ?_))
  have s4:S ⟨l+2,call,b6,b5⟩ aM R FF 4 56 [B (.V w),B (.ac (-1)),B (.V w),B .aK,ab,ab,ab,ab] hp:=by
   o_args
   refine ak rfl ?_
   o_args
   have k:=fun v h=>aj8 (l:=l) (hp:=hp) (R:=R) (aM:=aM) (call:=call) (w:=w) (v:=v) (h4:=B (.ac (-1))) (gw:=B (.V w)) (eM:=B .aK) (dt:=ab) (cJ:=ab) (cg:=ab) hc h
   rw[Hj,NS] at h
   refine fX (ak rfl (ak rfl (eW (fun a=>?_) fun a=>?_)))
   ·rw[a] at h
    exact ak (ao hw (ai (b:=16777216) rfl)) (k _ (r (cm rfl h)))
   ·rw[a] at h
    exact k _ (r (cm rfl h))
  o_args
  refine fX ?_
  refine m6 CL (kN (fun a=>?_) fun a=>?_)
  ·exact ak rfl s4
  ·exact s4
end
section
variable {K:a0}
theorem aka (o:kA (· < hp.length) q)(k:K (.aP q) hp):kh hp K (.bb hp.length) (hp++[.br q]):=.inr ⟨.aP q,hp,.jQ (a8 _) hg o,⟨rfl,fun i hi=>by refine Y (jC hi) ?_;exact .pH⟩,k⟩
theorem akb (h:kA G q)(aj:kA G r):kA G (q++r):=by
 induction q with
 |nil=>exact aj
 |cons d q az=>exact⟨h.1,az h.2⟩
noncomputable def lR (w:J am):D:=bS (eA [61] w 0) (fun i=>NR (c1 w ab (B i)) (iq (c1 w (B (i+1)) ab))) (Hj w)
def m8 (w:J am):Prop:=bS (eA [61] w 0) (fun i=>w.length≤18∧c7 (c1 w ab (B i)) sU=af) (w.length≤40∧c7 w sU=ae)
theorem akc (hw:m8 w)(h:K (lR w) hp):bx (l+3) 32 [.V w] hp K X:=by
 rw[m8] at hw
 rw[lR] at h
 induction e:eA [61] w 0 with
 |none=>rw[e] at h hw;exact aj9 hw.1 e hw.2 h
 |some i=>rw[e] at h hw;exact aj7 hw.1 e hw.2 h
inductive sW:D→Prop
 |no:sW .aK
 |ok {n:J am}{x:D}(h:o1 x):sW (.aW [.V n,x])
theorem Xj (h:sW x)(aj:sW y):sW (bD b x y):=by induction b with|true=>exact h|false=>exact aj
theorem akd:sW (lR w):=by
 rw[lR]
 induction eA [61] w 0 with
 |none=>exact Xj (.ok .no) .no
 |some i=>exact Xj .no (.ok Xh)
theorem sW.nD (h:sW d):je G d:=by
 induction h with
 |no=>trivial
 |ok h=>induction h with|no=>exact⟨cy,cy,cy⟩|ok=>exact⟨cy,cy,cy⟩
noncomputable def qh (d:D)(o:ax (J D)):ax (J D):=bD d.no ab (o.map (d::·))
noncomputable def hM:J (J am)→ax (J D)
 | []=>B []
 |w::ws=>bD (w !=[]) (qh (lR w) (hM ws)) (hM ws)
theorem partsO_c {w:J am}{ws:J (J am)}:hM (w::ws)=bD (w !=[]) (qh (lR w) (hM ws)) (hM ws):=rfl
noncomputable def fA (b:J am):J (J am):=dC 44 (b.map fun c=>if c==32 then 44 else c)
noncomputable def rp (b:J am):D:=bS (hM (fA b)) .aP .aK
theorem ake (e:d.no=ae)(h:K (bS (qh d o) (fun z=>.aP (q++z)) .aK) hp):K (bS o (fun z=>.aP ((q++[d])++z)) .aK) hp:=by
 rw[qh,e] at h
 induction o with
 |none=>exact h
 |some z=>rw[bS,dE];exact h
theorem rq (h:F (a !=b)):eg .NotEq (.V a) (.V b) hp F:=h
theorem NT (ay:b.length≤900)(hw:∀w∈fA b,w≠[]→m8 w)(h:K (rp b) hp):bx (l+4) 33 [.V b] hp K X:=
 cZ rfl (full:=[.V b]) rfl (loc:=[B (.V b),ab,ab,ab]) rfl fun call R aM hc r y=>by
  have len:(fA b).length≤901:=ao (sP _ _).1 (d8 ((cH ..).symm▸ay))
  o_args
  refine ak (ai rfl) ?_
  o_args
  refine fX (ak rfl (ak rfl (ak (ao ay (ai rfl)) ?_)))
  refine fX (ak rfl (ak rfl (ak ((cH ..).symm▸ao ay (ai rfl)) ?_)))
  refine ak ((cH ..).symm▸ao len (ai rfl)) ?_
  refine lb (σ:=J D×(ax D×ax D)) D.V (fun s=>[B (.V b),B (.bb hp.length),s.2.1,s.2.2]) (fun s=>hp++[.br s.1]) (fun r s=>(∀w∈r,w≠[]→m8 w)∧s.1.length+r.length≤901∧kA (· < hp.length) s.1∧K (bS (hM r) (fun q=>.aP (s.1++q)) .aK) hp) (fun s i=>?_) (fun w q s i P bI=>?_) (fA b) ([],ab,ab) ⟨hw,(iP _).symm▸len,cy,h⟩
  ·refine a6 rfl (r (aka i.2.2.1 ?_))
   have z:=i.2.2.2
   rw[show hM []=B [] from rfl,bS,en] at z
   exact z
  ·o_norm
   refine rq ?_
   refine eW (fun a=>?_) fun a=>?_
   ·refine hc (a8 _) (akc (i.1 w (.head _) (r3.mp a)) ?_)
    have z:=i.2.2.2
    rw[partsO_c,a,bD] at z
    have p:=akd (w:=w)
    revert p z
    generalize lR w=d
    intro z p
    induction p with
    |no=>exact ak rfl (r (wA cy z))
    |ok p=>
     refine ak rfl ?_
     refine cf kl (ak rfl (ak kl ?_))
     refine zf (ao (ao (ed ..) i.2.1) (ai rfl)) ?_
     refine bI (s.1++[_],B (.V w),_) ⟨fun v m=>i.1 v (.tail _ m),?_,akb i.2.2.1 ⟨sW.nD (.ok p),cy⟩,ake rfl z⟩
     rw[cG,gd,fQ [_].length];exact i.2.1
   ·have z:=i.2.2.2
    rw[partsO_c,a,bD] at z
    refine bI (s.1,B (.V w),s.2.2) ⟨fun v m=>i.1 v (.tail _ m),ao (eH (iQ _) _) i.2.1,i.2.2.1,z⟩
end
section
variable {K:a0}
noncomputable def eN (L:J (J am×aq))(v:J am):aq:=bS (cB (gK L) (.V v)) (fun d=>d.eK.getD 0) 0
noncomputable def fY (L:J (J am×aq))(v:J am):aZ:=d2 (gK L) (.V v)
theorem Xk (L:J (J am×aq))(h:fY L v=af):∃p∈L,cB (gK L) (.V v)=B (.ac p.2):=by
 rw[fY,d2,gK,El,qu] at h
 rw[cB,gK,I9]
 induction e:L.find? ((fun p:bf×D=>a9 (p.1=bf.V v))∘fun p=>(bf.V p.1,D.ac p.2))with
 |none=>exact cr h (by rw[Ea] at e;exact fun q=>q.elim fun p q=>e p q.1 q.2)
 |some p=>exact⟨p,tl e,rfl⟩
theorem rr (h:fY L v=af)(k:K (.ac (eN L v)) hp):g9 hp K (.a5 (gK L)) (.V v):=by
 rw[eN] at k
 refine(Xk L h).elim fun p e=>?_
 rw[e.2] at k
 exact cf e.2 k
theorem akf (h:fY L v=af)(k:(L.all fun p=>xG (p.2.natAbs+1) 18446744073709551616)=af):kB (eN L v):=by
 rw[eN]
 exact(Xk L h).elim fun p e=>Y e.2 (jy (gy.mp k p e.1))
noncomputable def lS (w:J am):aZ:=!fY ej w&&!fY fh w
noncomputable def h5 (w:J am):J am:=bD (lS w) (c1 w (B 2) ab) w
noncomputable def iF (f:aq)(w:J am):aq:=
 bD (fY fh (h5 w)) (jE (hE f (qE 3584)) (bD (lS w) 0 (eN fh (h5 w)) *512)) (bD (lS w) (hE f (qE (eN ej (h5 w)))) (jE f (eN ej (h5 w))))
theorem akg (hw:w.length≤40)(hk:fY fh (h5 w)=af∨fY ej (h5 w)=af)(h:K (.aW [.ac (iF f w),a,b,c,d]) hp):bx (l+2) 34 [.aW [.ac f,a,b,c,d],.V w] hp K X:=
 cZ rfl (full:=[.aW [.ac f,a,b,c,d],.V w]) rfl (loc:=[B (.aW [.ac f,a,b,c,d]),B (.V w),ab,ab,ab]) rfl fun call R aM hc r y=>by
  have s2:S ⟨l+1,call,b6,b5⟩ aM R Lj 2 58 [B (.aW [.ac f,a,b,c,d]),B (.V w),B (.be (lS w)),B (.V (h5 w)),ab] hp:=by
   rw[iF] at h
   o_args
   refine hc (a8 _) (zk ?_)
   refine uB rfl ?_
   refine eW (fun a=>?_) fun a=>?_
   ·refine ak ⟨by decide,ai rfl⟩ ?_
    have u:fY fh (h5 w)=af:=a
    rw[u] at h
    refine fX ?_
    refine fu (eW (fun o=>?_) fun o=>?_)
    ·rw[o] at h
     exact hc (a8 _) (WY (jy rfl) (hc (a8 _) (uD (ai rfl) (r (cm rfl h)))))
    ·rw[o] at h
     exact hc (a8 _) (zk (rr u (hc (a8 _) (WY (akf u rfl) (hc (a8 _) (uD (ai rfl) (r (cm rfl h))))))))
   ·have u:fY ej (h5 w)=af:=hk.resolve_left fun q=>xn (a.symm.trans q)
    rw[show fY fh (h5 w)=ae from a] at h
    o_args
    refine hc (a8 _) (CF (rr u ?_))
    o_args
    refine fu (eW (fun o=>?_) fun o=>?_)
    ·rw[o] at h
     exact ak ⟨by decide,ai rfl⟩ (hc (a8 _) (uD (ai rfl) (r (cm rfl h))))
    ·rw[o] at h
     exact ak ⟨by decide,ai rfl⟩ (hc (a8 _) (uD (ai rfl) (r (cm rfl h))))
  have s1:S ⟨l+1,call,b6,b5⟩ aM R Lj 1 59 [B (.aW [.ac f,a,b,c,d]),B (.V w),B (.be (lS w)),ab,ab] hp:=by
   o_args
   rw[h5] at s2
   refine fu (eW (fun a=>?_) fun a=>?_)
   ·rw[a] at s2⊢;exact ak (ao hw (ai rfl)) s2
   ·rw[a] at s2⊢;exact s2
  o_args
  rw[lS] at s1
  refine hc (a8 _) (CF ?_)
  refine NC rfl ?_
  refine fu (Hc (fun a=>?_) fun a=>?_)
  ·refine hc (a8 _) (zk ?_)
   refine NC rfl ?_
   rw[show(!fY ej w)=af from a] at s1
   exact s1
  ·rw[show(!fY ej w)=ae from a] at s1
   exact Y a s1
end
section
variable {K:a0}{call:ah→ah→J D→J ap→a0→(J ap→Prop)→Prop}
structure f8 where
 f:aq
 a:D
 b:D
 c:D
 z:D
noncomputable def f8.d (p:f8):D:=.aW [.ac p.f,p.a,p.b,p.c,p.z]
noncomputable def sX:J (J am×aq):=[([102,103],1),([98,103],2),([117,115],3)]
noncomputable def uF:J am:=[100,101,102,97,117,108,116]
noncomputable def CO:J (J am):=[[110,111,110,101],[110,111,97,116,116,114]]
noncomputable def f8.gv (p:f8)(w:J am)(v:D):f8:=bD (w==[102,103]) ⟨p.f,v,p.b,p.c,p.z⟩ (bD (w==[98,103]) ⟨p.f,p.a,v,p.c,p.z⟩ ⟨p.f,p.a,p.b,v,p.z⟩)
noncomputable def uG (base p:f8)(q:J am×D):f8:=
 bD (fY sX q.1) (p.gv q.1 q.2) (bD (q.1==uF) base (bD (c7 q.1 CO) ⟨0,p.a,p.b,p.c,p.z⟩ (bD (!c7 q.1 CL&&!c7 q.1 sV) ⟨iF p.f q.1,p.a,p.b,p.c,p.z⟩ p)))
noncomputable def kO (base:f8)(r:J (J am×D))(p:f8):f8:=r.foldl (uG base) p
noncomputable def kP (w:J am):aZ:=fY sX w||(w==uF||(c7 w CO|| !(!c7 w CL&&!c7 w sV)))
def Hk (w:J am):Prop:=w.length≤40∧(kP w=ae→fY fh (h5 w)=af∨fY ej (h5 w)=af)
noncomputable def sY (q:J am×D):D:=.aW [.V q.1,q.2]
theorem uH (h:F (a==b)):eg .Eq (.V a) (.V b) hp F:=h
theorem NU (L:J (J am))(h:F (!c7 b L)):eg .NotIn (.V b) (.aW (L.map .V)) hp F:=ak zh h
theorem NV {α:Type}{P:α→Prop}{a b c:α}(aY:P a)(bu:P b)(cu:P c):∀x∈[a,b,c],P x:=fa.mpr ⟨aY,fa.mpr ⟨bu,fa.mpr ⟨cu,fun I h=>cr h mF⟩⟩⟩
theorem akh {C:J am→Prop}(h:fY sX w=af)(aY:C [102,103])(bu:C [98,103])(cu:C [117,115]):C w:=
 (qu.mp h).elim fun x z=>NV (P:=fun x:bf×D=>tS x.1=B w→C w) (a:=(.V [102,103],.ac 1)) (b:=(.V [98,103],.ac 2)) (c:=(.V [117,115],.ac 3)) (fun e=>bo (show B [102,103]=B w from e)▸aY) (fun e=>bo (show B [98,103]=B w from e)▸bu) (fun e=>bo (show B [117,115]=B w from e)▸cu) x z.1 (bl tS (dg z.2))
theorem aki {p:f8}(hc:∀{aU f ds hp K X},aU≤l+2→bx aU f ds hp K X→call aU f ds hp K X)(hw:fY sX w=af)(h:K (p.gv w v).d hp):g9 hp (fun d hp=>call (l+2) 3 [p.d,d,v] hp K X) (.a5 (gK sX)) (.V w):=by
 revert h
 refine akh (C:=fun w=>K (p.gv w v).d hp→g9 hp (fun d hp=>call (l+2) 3 [p.d,d,v] hp K X) (.a5 (gK sX)) (.V w)) hw (fun h=>?_) (fun h=>?_) fun h=>?_
 ·exact hc (a8 _) (uD (ai rfl) h)
 ·exact hc (a8 _) (uD (ai rfl) h)
 ·exact hc (a8 _) (uD (ai rfl) h)
theorem NW (hf:m5 3 [.aW [.ac 0,.ac (-1),.ac (-1),.ac (-1),.ac 0]] ds=B [p.d,.aP (q₀.map sY),base.d])(bH:q₀.length≤1000)(ok:∀x∈q₀,Hk x.1)(h:K (kO base q₀ p).d hp):bx (l+3) 35 ds hp K X:=
 cZ rfl (full:=[p.d,.aP (q₀.map sY),base.d]) hf (loc:=[B p.d,B (.aP (q₀.map sY)),B base.d,ab,ab,ab]) rfl fun call R aM hc r y=>by
  o_args
  refine ak (ai rfl) ?_
  o_args
  refine ak ((cH ..).symm▸ao bH (ai rfl)) ?_
  refine lb (σ:=f8×(ax D×ax D)) sY (fun s=>[B s.1.d,B (.aP (q₀.map sY)),B base.d,B (.a5 (gK sX)),s.2.1,s.2.2]) (fun I=>hp) (fun r s=>(∀x∈r,Hk x.1)∧K (kO base r s.1).d hp) (fun s i=>?_) (fun w q s i P bI=>?_) q₀ (p,ab,ab) ⟨ok,h⟩
  ·exact a6 (k:=2) rfl (r (cm rfl i.2))
  have cv:∀{d5},uG base s.1 w=d5→P [B d5.d,B (.aP (q₀.map sY)),B base.d,B (.a5 (gK sX)),B (.V w.1),B w.2] hp:=fun {d5} e=>bI (d5,_,_) ⟨fun x m=>i.1 x (.tail _ m),e▸i.2⟩
  have ok:=i.1 w (.head _)
  have ik:=ok.2
  rw[kP] at ik
  rw[uG] at cv
  refine ak rfl ?_
  o_norm
  refine uB rfl (eW (fun a=>?_) fun a=>?_)
  ·exact aki hc a (cv (bl (fun b=>bD b _ _) a))
  rw[show fY sX w.1=ae from a] at cv ik
  refine uH (eW (fun a=>?_) fun a=>?_)
  ·rw[show(w.1==uF)=af from a] at cv;exact cv rfl
  rw[show(w.1==uF)=ae from a] at cv ik
  refine ak (ai rfl) (m6 CO (eW (fun a=>?_) fun a=>?_))
  ·rw[a] at cv;exact hc (a8 _) (uD (ai rfl) (cv rfl))
  rw[a] at cv ik
  refine fX (NU CL (kN (fun a=>?_) fun a=>?_))
  ·refine fX (NU sV (kN (fun b=>?_) fun b=>?_))
   ·rw[a,b] at cv ik
    exact hc (a8 _) (akg ok.1 (ik rfl) (cv rfl))
   ·rw[a,b] at cv;exact cv rfl
  ·rw[a] at cv;exact cv rfl
end
section
variable {K:a0}{R:a0}{call:ah→ah→J D→J ap→a0→(J ap→Prop)→Prop}
inductive o2:aq→J am→Prop
 |no:o2 (-1) [100,101,102,97,117,108,116]
 |jy {n:ah}(h:n < 256):o2 n (wD n)
 |CP {n:ah}(h:16777216≤n):o2 n (35::[hd (n / 65536 % 256 / 16),hd (n / 65536 % 256 % 16),hd (n / 256 % 256 / 16),hd (n / 256 % 256 % 16),hd (n % 256 / 16),hd (n % 256 % 16)])
theorem NX (v:o2 c b)(h:K (.V b) hp):bx (l+2) 29 [.ac c] hp K X:=by
 induction v with
 |no=>exact aj4 h
 |jy q=>exact aj5 q h
 |CP q=>exact aj6 q h
theorem o2.bJ (v:o2 c b):b.length≤24:=by
 induction v with
 |no=>exact ai rfl
 |@jy n q=>
  rw[wD]
  induction a:a9 ((n:aq) < 8)with
  |true=>exact ao (Hh n (h7.mp (dg a))) (ai rfl)
  |false=>
   induction hA:a9 ((n:aq) < 16)with
   |true=>
    show(NH++m7 (n - 8)).length≤24
    exact Y cG (ao (eH (Hh _ (QH (xq.mp (ph.mp (r2 a))) (h7.mp (dg hA)))) 6) (ai rfl))
   |false=>
    show(_++hh n).length≤24
    exact Y cG (eH CK 6)
 |CP q=>exact ai rfl
noncomputable def lh (n:J am)(c:aq)(b:J am):J (J am):=bD (c != -1) [n++[61]++b] []
theorem wF (h:F (i !=j)):eg .NotEq (.ac i) (.ac j) hp F:=h
theorem NY (hc:∀{aU f ds hp K X},aU≤l+2→bx aU f ds hp K X→call aU f ds hp K X)(v:o2 c b)(hi:0≤i)(NZ:L.length≤5)(aA:n.length=2)(e:L[i.toNat]?=B (.ac c))(hw:ws.length≤1000)(h:P [B (.aW L),B (.bb hp.length),B (.ac i),B (.V n),dt,cJ,cb,cg] (hp++[.br ((ws++lh n c b).map .V)])):
  dX ⟨l+2,call,b6,b5⟩ 57 [.a7 (.aH .NotEq (.bh (.aa 0) (.aa 2)) (.fl 10)) [.eU (.bm (.aa 1) .eP [(.a4 ae .Add (.a4 ae .Add (.aa 3) (.ag (.V [61]))) (.bp 29 [(.bh (.aa 0) (.aa 2))]))])] []] (fun I=>bt) [B (.aW L),B (.bb hp.length),B (.ac i),B (.V n),dt,cJ,cb,cg] (hp++[.br (ws.map .V)]) P (fun d hp=>R d hp) P:=by
 have sub:∀{hp} {K:a0},K (.ac c) hp→g9 hp K (.aW L) (.ac i):=fun k=>ak ⟨hi,ao NZ (ai rfl)⟩ (cf e k)
 o_norm
 refine sub (cf (a:=.ac (-1)) rfl ?_)
 rw[lh] at h
 refine wF (eW (fun a=>?_) fun a=>?_)
 ·rw[a,bD,eS] at h
  refine cf kl (ak rfl ?_)
  refine ak (ao (eT (bl (·+1) aA)) (ai rfl)) (sub (hc (a8 _) (NX v ?_)))
  refine ak ?_ (ak kl ?_)
  ·exact Y cG (Y aA (ao (eH v.bJ 3) (ai rfl)))
  ·exact zf ((cH ..).symm▸ao hw (ai rfl)) h
 ·rw[a,bD,en] at h
  exact h
theorem zo:(lh n c b).length≤1:=by
 rw[lh]
 induction c != -1 with
 |true=>exact ai rfl
 |false=>exact ai rfl
theorem Hl {α:Type}{x y:J α}(h:x.length≤m)(aj:y.length≤n):(x++y).length≤m+n:=by rw[cG];exact eZ h aj
theorem N0 {aQ:fL}(h:dX c n b (fun I=>bt) ((loc.set i (B u)).set j (B v)) hp (fun loc hp=>gk (fun d loc hp aQ=>hI [i,j] d loc fun loc=>dX c n b (fun I=>bt) loc hp aQ Kr aQ) ds loc hp aQ) Kr (fun loc hp=>gk (fun d loc hp aQ=>hI [i,j] d loc fun loc=>dX c n b (fun I=>bt) loc hp aQ Kr aQ) ds loc hp aQ)):
  gk (fun d loc hp aQ=>hI [i,j] d loc fun loc=>dX c n b (fun I=>bt) loc hp aQ Kr aQ) (.aW [u,v]::ds) loc hp aQ:=⟨rfl,h⟩
noncomputable def kQ:J (J am):=eV (ej.map (·.1))
noncomputable def iG:J (J am):=eV (fh.map (·.1))
noncomputable def lT (f:aq):J (J am)→aq→J (J am)
 | [],_=>[]
 |w::ws,k=>bD (hE f (eN ej w) !=0&& !(hE k (eN ej w) !=0)) (w::lT f ws (jE k (eN ej w))) (lT f ws k)
theorem bitW_c {f k:aq}{w:J am}{ws:J (J am)}:lT f (w::ws) k=bD (hE f (eN ej w) !=0&& !(hE k (eN ej w) !=0)) (w::lT f ws (jE k (eN ej w))) (lT f ws k):=rfl
noncomputable def wG (f:aq)(ws:J (J am)):J (J am):=ws.filter fun w=>eN fh w==(hE f 3584).fdiv 512
noncomputable def zp (ws:J (J am)):J am:=bD (!ws.isEmpty) (kZ [44] ws) [100,101,102,97,117,108,116]
noncomputable def zq (f a b c:aq)(ba eQ bc:J am):J (J am):=lh [102,103] a ba++lh [98,103] b eQ++lh [117,115] c bc++lT f kQ 0++wG f iG
theorem Xl (h:K (.aP (kQ.map .V)) hp):j5 ae .fS [.a5 (gK ej)] hp K:=ak (ai rfl) h
theorem N1 (h:K (.aP (iG.map .V)) hp):j5 ae .fS [.a5 (gK fh)] hp K:=ak (ai rfl) h
theorem Xm (h:F (i !=0)):si (.ac i) F:=h
theorem N2 (h:K (.ac (hE i j)) hp):pM ae .BitAnd (.ac i) (.ac j) hp K:=h
theorem akj (h:K (.ac (jE i j)) hp):pM ae .BitOr (.ac i) (.ac j) hp K:=h
theorem akk (hc:∀{aU f ds hp K X},aU≤l+2→bx aU f ds hp K X→call aU f ds hp K X)(bH:q.length≤4)(wv:ws.length≤3)(h:∀dt cJ cb us,us.length≤12→us=ws++lT f kQ 0→S ⟨l+2,call,b6,b5⟩ aM R yq 4 56 [B (.aW (.ac f::q)),B (.bb hp.length),gw,eM,dt,cJ,cb,ab] (hp++[.br (us.map .V)])):
  S ⟨l+2,call,b6,b5⟩ aM R yq 2 58 [B (.aW (.ac f::q)),B (.bb hp.length),gw,eM,ab,ab,ab,ab] (hp++[.br (ws.map .V)]):=by
 refine a6 (k:=2) rfl ?_
 o_norm
 refine hc (a8 _) (CF (ak (ai rfl) (ak rfl ?_)))
 o_args
 refine Xl (ak (ai rfl) ?_)
 refine lb (σ:=J (J am)×aq×ax D) D.V (fun s=>[B (.aW (.ac f::q)),B (.bb hp.length),gw,eM,B (.ac s.2.1),B (.a5 (gK ej)),s.2.2,ab]) (fun s=>hp++[.br (s.1.map .V)]) (fun r s=>(∀w∈r,fY ej w=af)∧s.1.length+r.length≤12∧s.1++lT f r s.2.1=ws++lT f kQ 0) (fun s i=>?_) (fun w r s i P bI=>?_) kQ (ws,0,ab) ⟨by decide,dR wv 9,rfl⟩
 ·exact h _ _ _ _ i.2.1 ((en _).symm.trans i.2.2)
 ·have hw:=i.1 w (.head _)
  have sO:=i.2.2
  rw[bitW_c] at sO
  have skip:s.1++lT f r s.2.1=ws++lT f kQ 0→P [B (.aW (.ac f::q)),B (.bb hp.length),gw,eM,B (.ac s.2.1),B (.a5 (gK ej)),B (.V w),ab] (hp++[.br (s.1.map .V)]):=fun e=>bI (s.1,s.2.1,B (.V w)) ⟨fun v m=>i.1 v (.tail _ m),Jo i.2.1,e⟩
  o_norm
  refine ak ⟨by decide,ao (d8 bH) (ai rfl)⟩ (fX (rr hw (N2 (Xm (kN (fun a=>?_) fun a=>?_)))))
  ·refine rr hw (N2 (Xm (kN (fun hA=>?_) fun hA=>?_)))
   ·rw[a,hA] at sO
    refine cf kl (ak rfl (ak kl (zf ((cH ..).symm▸ao (ao (ed ..) i.2.1) (ai rfl)) (rr hw (akj ?_)))))
    have bI:=bI (s.1++[w],jE s.2.1 (eN ej w),B (.V w)) ⟨fun v m=>i.1 v (.tail _ m),?_,(dE ..).trans sO⟩
    ·rw[eS] at bI;exact bI
    ·rw[cG,gd,fQ [w].length];exact i.2.1
   ·rw[a,hA] at sO
    exact skip sO
  ·rw[a] at sO
   exact skip sO
theorem Xn (aw:q.length+m.length≤1000000)(h:K .aK (hp++[.br (q++m)])):mg .mc (.bb hp.length) [.aP m] (hp++[.br q]) K:=cf (a:=ap.br q) hg (ak aw (Y sS h))
theorem Hm:gB (hp++[.br q]) (.bb hp.length)=B q:=by show((hp++[ap.br q])[hp.length]?).bind ap.oB=_;refine hg▸?_;rfl
theorem akl (h:F (!q.isEmpty)):eg .NotEq (.bb hp.length) (.aP []) (hp++[.br q]) F:=cf Hm h
theorem Xo (ws:J (J am)):dF D.f5 (ws.map .V)=B ws:=by
 induction ws with
 |nil=>rfl
 |cons w ws az=>show(dF D.f5 (ws.map .V)).map _=_;refine az▸?_;rfl
theorem n5 (h:F (i==j)):eg .Eq (.ac i) (.ac j) hp F:=h
theorem akm (hc:∀{aU f ds hp K X},aU≤l+2→bx aU f ds hp K X→call aU f ds hp K X)(bH:q.length≤4)(L:us.length≤12)(h:∀cg,S ⟨l+2,call,b6,b5⟩ aM R yq 6 54 [B (.aW (.ac f::q)),B (.bb hp.length),gw,eM,dt,cJ,cb,cg] (hp++[.br ((us++wG f iG).map .V)])):
  S ⟨l+2,call,b6,b5⟩ aM R yq 4 56 [B (.aW (.ac f::q)),B (.bb hp.length),gw,eM,dt,cJ,cb,ab] (hp++[.br (us.map .V)]):=by
 o_args
 refine hc (a8 _) (zk ?_)
 o_args
 refine cf kl (ak rfl (N1 (ak (ai rfl) ?_)))
 refine lf (σ:=J (J am)×ax D) D.V (fun s=>s.1.map D.V) (fun s=>[s.2,B (.aW (.ac f::q)),B (.a5 (gK fh))]) (fun I=>hp++[.br (us.map .V)]) (fun r s=>(∀w∈r,fY fh w=af)∧s.1++wG f r=wG f iG) (fun s i=>?_) (fun w r s i P bI=>?_) iG ([],ab) ⟨by decide,rfl⟩
 ·have e:=(en _).symm.trans i.2
  refine ak kl (Xn ?_ ?_)
  ·exact Y (cH ..) (Y (cH ..) (Y e (ao (eZ L (pk ..)) (ai rfl))))
  ·exact e▸eS▸(h _)
 ·have jx:=i.2
  rw[wG,om] at jx
  o_norm
  refine rr (i.1 w (.head _)) (ak ⟨by decide,ao (d8 bH) (ai rfl)⟩ (fX (hc (a8 _) (ajK (n5 ?_)))))
  refine kN (fun a=>?_) fun a=>?_
  ·rw[a,b3 rfl] at jx
   have bI:=bI (s.1++[w],B (.V w)) ⟨fun v m=>i.1 v (.tail _ m),(dE ..).trans jx⟩
   rw[eS] at bI;exact bI
  ·rw[a,bL dO] at jx
   exact bI (s.1,B (.V w)) ⟨fun v m=>i.1 v (.tail _ m),jx⟩
theorem akn {ws:J (J am)}(h:∀w∈ws,w.length≤m):(ws.map tr).sum≤ws.length *m:=by
 induction ws with
 |nil=>exact jD _
 |cons w ws az=>
  exact Y (h8 ..) (Y (QB ..) (Y (iO ..) (Y (Nat.succ_mul ..) (Y (fQ ..) (eZ (az fun v q=>h v (.tail _ q)) (h w (.head _)))))))
theorem ako (h:∀w∈ws,w.length≤27)(L:ws.length≤17):(kZ [44] ws).length≤1000:=Y (Nh ..) (ao (eZ (hR 1 (ao (xF ..) L)) (ao (akn h) (Jl 27 L))) (ai rfl))
theorem akp (aw:∀w∈us,w.length≤27)(L:us.length≤17)(h:R (.V (zp us)) (hp++[.br (us.map .V)])):S ⟨l+2,call,b6,b5⟩ aM R yq 6 54 [o0,B (.bb hp.length),gw,eM,dt,cJ,cb,cg] (hp++[.br (us.map .V)]):=by
 o_args
 rw[zp] at h
 refine ak (ai rfl) (akl ?_)
 refine Y List.isEmpty_map ?_
 refine eW (fun a=>?_) fun a=>?_
 ·rw[a] at h
  refine fX (ak rfl (ak rfl (cf Hm (cf (Xo us) (ak ⟨ao (ako aw L) (ai rfl),ao L (ai rfl)⟩ h)))))
 ·rw[a] at h;exact h
theorem Hn {x y:J (J am)}(h:∀w∈x,w.length≤m)(aj:∀w∈y,w.length≤m)(w:J am)(q:w∈x++y):w.length≤m:=(fE.mp q).elim (h w) (aj w)
theorem N3 (v:o2 c b)(aA:n.length=2)(w:J am)(q:w∈lh n c b):w.length≤27:=by
 rw[lh] at q
 induction a:c != -1 with
 |true=>
  rw[a] at q
  exact Y (df.mp q) (Y cG (Y cG (Y aA (eH v.bJ 3))))
 |false=>rw[a] at q;exact cr q mF
theorem akq (r:J (J am)):∀k,∀w∈lT f r k,w∈r:=by
 induction r with
 |nil=>exact fun k w m=>m
 |cons v r az=>
  intro k w m
  rw[bitW_c] at m
  induction a:(hE f (eN ej v) !=0&& !(hE k (eN ej v) !=0))with
  |true=>
   rw[a] at m
   exact(cV.mp m).elim (fun e=>e▸.head _) fun m=>.tail _ (az _ w m)
  |false=>rw[a] at m;exact .tail _ (az _ w m)
theorem akr:∀w∈kQ,w.length≤27:=by decide
theorem aks:∀w∈iG,w.length≤27:=by decide
theorem Xp (fB:o2 a ba)(gL:o2 b eQ)(gM:o2 c bc)(h:K (.V (zp (zq f a b c ba eQ bc))) hp):bx (l+3) 36 [.aW [.ac f,.ac a,.ac b,.ac c,z]] hp K X:=
 cZ rfl (full:=[.aW [.ac f,.ac a,.ac b,.ac c,z]]) rfl (loc:=[B (.aW [.ac f,.ac a,.ac b,.ac c,z]),ab,ab,ab,ab,ab,ab,ab]) rfl fun call R aM hc r y=>by
  refine a6 rfl ?_
  refine ak (ai rfl) ?_
  refine a6 (k:=1) rfl ?_
  refine ak (ai rfl) (ak (ai rfl) (ak (ai rfl) (ak (ai rfl) (ak (ai rfl) ?_))))
  refine N0 ?_
  refine NY hc fB (by decide) (ai rfl) rfl rfl (ws:=[]) (ai rfl) ?_
  refine N0 ?_
  refine NY hc gL (by decide) (ai rfl) rfl rfl (ao zo (ai rfl)) ?_
  refine N0 ?_
  refine NY hc gM (by decide) (ai rfl) rfl rfl (ao (Hl zo zo) (ai rfl)) ?_
  have wv:=Hl (Hl (zo (n:=[102,103]) (c:=a) (b:=ba)) (zo (n:=[98,103]) (c:=b) (b:=eQ))) (zo (n:=[117,115]) (c:=c) (b:=bc))
  have N4:=Hn (Hn (N3 (n:=[102,103]) fB rfl) (N3 (n:=[98,103]) gL rfl)) (N3 (n:=[117,115]) gM rfl)
  rw[zq] at h
  revert wv h N4
  show _→_→_→gk _ [] _ (hp++[.br ((lh [102,103] a ba++lh [98,103] b eQ++lh [117,115] c bc).map .V)]) _
  generalize lh [102,103] a ba++lh [98,103] b eQ++lh [117,115] c bc=ws
  intro h wv N4
  refine akk hc (ai rfl) wv fun dt cJ cb us L e=>akm hc (ai rfl) L fun cg=>?_
  rw[←e] at h
  refine akp (Hn (e▸Hn N4 fun w m=>akr w (akq _ _ w m)) fun w m=>aks w (tq.mp m).1) (Hl L (pk ..)) (r (wA cy h))
end
theorem Ho:cB eB (.V b)=(eL b).map d4.d:=by
 rw[cB,eB,I9,Et,eL,Et];rfl
theorem i4:d2 l k=(cB l k).isSome:=by
 rw[cB,vk]
 induction l with
 |nil=>rfl
 |cons a l az=>
  rw[d2,Aj,xw]
  induction a9 (a.1=k)with
  |true=>rfl
  |false=>exact az
theorem Hp:d2 eB (.V b)=(eL b).isSome:=i4.symm▸Ho.symm▸vk.symm▸rfl
section
variable {K:a0}
theorem Xq (h:K (bG b).d hp):bx (l+1) 12 [.a5 eB,.V b] hp K X:=
 cZ rfl (full:=[.a5 eB,.V b]) rfl (loc:=[B (.a5 eB),B (.V b)]) rfl fun call R aM hc r y=>by
  rw[bG] at h
  o_args
  refine uB rfl ?_
  refine Y Hp ?_
  have e:=Ho (b:=b)
  induction q:eL b with
  |none=>rw[q] at h;exact r (cm rfl h)
  |some k=>rw[q] at h e;exact cf e (r (cm rfl h))
noncomputable def fZ (k:ax Sc)(s:Sc):aZ:=match k with|none=>af|some .dH=>(match s with| .dH=>af| .iD=>ae)|some .iD=>af
theorem Xr {k:d4}(h:K (.be (fZ k.e3 s)) hp):bx (l+1) 13 [k.d,.aF s.s] hp K X:=
 cZ rfl (full:=[k.d,.aF s.s]) rfl (loc:=[B k.d,B (.aF s.s)]) rfl fun call R aM hc r y=>by
  induction k with|mk kk cK nW kb=>
  induction cK with
  |none=>exact ak rfl (r (cm rfl h))
  |some q=>induction q with
   |dH=>induction s with
    |dH=>exact ak rfl (r (cm rfl h))
    |iD=>exact ak rfl (r (cm rfl h))
   |iD=>induction s with
    |dH=>exact ak rfl (r (cm rfl h))
    |iD=>exact ak rfl (r (cm rfl h))
noncomputable def N5:J am→aZ
 |a::_::_=>(a.toNat:aq)==64
 |_=>ae
theorem akt (ay:b.length≤100)(h:K (.be (N5 b)) hp):bx (l+1) 9 [.V b] hp K X:=by
 induction b with
 |nil=>exact ajQ h
 |cons a b=>induction b with
  |nil=>exact ajR h
  |cons c b=>exact ajS (ao (ed _ 2) ay) h
end
section
variable {K:a0}
noncomputable def fp (o:ax aq):D:=bS o .ac .aK
noncomputable def N6 (b:J am)(i:ah):ax (J am×ax aq):=bD (c1 b (B (-1)) ab !=[93]) ab ((mA (c1 b (B ((i:aq)+1)) (B ((b.length:aq) - 1)))).eK.map fun k=>(c1 b ab (B i),B k))
noncomputable def wH (b:J am):ax (J am×ax aq):=bS (eA [91] b 0) (N6 b) (B (b,ab))
theorem aku (ay:b.length≤18)(h:iE (wH b) (fun p=>.aW [.V p.1,fp p.2]) K X hp):bx (l+2) 10 [.V b] hp K X:=
 cZ rfl (full:=[.V b]) rfl (loc:=[B (.V b),ab,ab]) rfl fun call R aM hc r y=>by
  have Hq:=ao ay (ai (b:=16777216) rfl)
  rw[wH] at h
  o_args
  refine fX (ak rfl (ak rfl (ak ⟨ao ay (ai rfl),ai rfl⟩ ?_)))
  rw[mW]
  induction e:eA [91] b 0 with
  |none=>
   have h:=e▸h
   exact a6 (k:=1) rfl (ak (ai rfl) (r (cm rfl h)))
  |some i=>
   rw[e,bS,N6] at h
   o_args
   refine mz (cW (jZ (ph.mpr (gY i))) ?_)
   o_args
   refine ak Hq (ak Hq (hc (a8 _) (ND (ao zj ay) ?_)))
   have z:=CH (c1 b (B ((i:aq)+1)) (B ((b.length:aq) - 1)))
   revert z h
   generalize mA (c1 b (B ((i:aq)+1)) (B ((b.length:aq) - 1)))=d
   intro h z
   o_args
   refine ak Hq (rq ?_)
   induction z with
   |no=>
    have h:X hp:=by revert h;induction(c1 b (B (-1)) ab !=[93])with|true=>exact id|false=>exact id
    refine n3 (fun a=>y (jz rfl h)) fun a=>ak rfl (y (jz rfl h))
   |ok n=>
    refine n3 (fun a=>?_) fun a=>ak rfl ?_
    ·rw[a] at h;exact y (jz rfl h)
    ·rw[a] at h
     exact a6 (k:=4) rfl (ak Hq (ak (ai rfl) (r (cm rfl h))))
noncomputable def Hr:J (J am):=eV (my.map (·.1))
noncomputable def qi (b:J am):J (J am):=Hr.filter fun n=>b.isPrefixOf n
theorem akv (h:K (.aP (Hr.map .V)) hp):j5 ae .fS [.a5 eB] hp K:=ak (ai rfl) h
theorem akw {n:ah}:((n:aq) !=1)=(n !=1):=by
 induction h:n !=1 with
 |true=>exact r3.mpr fun q=>r3.mp h (vb.mp q)
 |false=>exact qG.mpr (bl IN (qG.mp h))
noncomputable def lU (b:J am):ax (J am):=bD ((eL b).isSome||N5 b) (B b) (bD (b==[]||(qi b).length !=1) ab (B ((qi b).headD [])))
theorem Xs (ay:b.length≤100)(h:iE (lU b) .V K X hp):bx (l+2) 11 [.a5 eB,.V b] hp K X:=
 cZ rfl (full:=[.a5 eB,.V b]) rfl (loc:=[B (.a5 eB),B (.V b),ab]) rfl fun call R aM hc r y=>by
  rw[lU] at h
  have s1:iE (bD (b==[]||(qi b).length !=1) ab (B ((qi b).headD []))) .V K X hp→S ⟨l+1,call,b6,b5⟩ aM R SX 1 59 [B (.a5 eB),B (.V b),ab] hp:=fun h=>by
   o_args
   refine akv (ak (ai rfl) ?_)
   refine lf (σ:=J (J am)×ax D) D.V (fun s=>s.1.map D.V) (fun s=>[s.2,B (.V b)]) (fun I=>hp) (fun r s=>s.1++r.filter (fun n=>b.isPrefixOf n)=qi b) (fun s i=>?_) (fun w q s i P bI=>?_) Hr ([],ab) rfl
   ·refine Y ((en _).symm.trans i) ?_
    o_args
    refine uH (n3 (fun a=>?_) fun a=>?_)
    ·have h:=a▸h;exact y (jz rfl h)
    ·have h:=a▸h
     refine ak ((cH ..).symm▸ao (pk .. :(qi b).length≤9) (ai rfl)) ?_
     refine Y (cH ..) ?_
     refine wF ?_
     refine Y akw ?_
     refine n3 (fun a=>?_) fun a=>?_
     ·have h:=a▸h;exact y (jz rfl h)
     ·rw[a] at h
      revert a h
      generalize qi b=Bo
      intro h a
      refine(IT.mp (qG.mp a)).elim fun n e=>?_
      rw[e] at h⊢
      exact a6 (k:=3) rfl (ak ⟨by decide,ai rfl⟩ (r (cm rfl h)))
   ·rw[om] at i
    o_norm
    refine fX (ak rfl (ak rfl (kN (fun a=>?_) fun a=>?_)))
    ·rw[a,b3 rfl] at i
     have bI:=bI (s.1++[w],B (.V w)) ((dE ..).trans i)
     rw[eS] at bI;exact bI
    ·rw[a,bL dO] at i
     exact bI (s.1,B (.V w)) i
  o_args
  refine uB rfl ?_
  refine Y Hp ?_
  refine n3 (fun a=>?_) fun a=>?_
  ·have h:=a▸h;exact r (cm rfl h)
  ·have h:=a▸h
   refine hc (a8 _) (akt ay (fu (n3 (fun c=>?_) fun c=>?_)))
   ·rw[c] at h;exact r (cm rfl h)
   ·rw[c] at h;exact s1 h
noncomputable def d6 (k:aQ):aZ:=match k with| .jS=>af|_=>ae
noncomputable def N7 (s:Sc)(w:J am×ax aq)(n:J am):ax (J am×ax aq×d4):=
 bD (!fZ (bG n).e3 s) ab (bD w.2.isSome (bD (d6 (bG n).bk) (B (n,w.2,bG n)) ab) (B (n,w.2,bG n)))
noncomputable def eX (s:Sc)(b:J am):ax (J am×ax aq×d4):=(wH b).bind fun w=>(lU w.1).bind fun n=>N7 s w n
theorem uI (h:F (a !=b)):eg .NotEq (.aF a) (.aF b) hp F:=h
theorem zr {k:aQ}:(k.s !="array")=!d6 k:=by induction k<;>decide
theorem Xt (h:wH b=B w):w.1.length≤b.length:=by
 rw[wH] at h
 induction e:eA [91] b 0 with
 |none=>rw[e] at h;exact cN (bo h) (a8 _)
 |some i=>
  rw[e,bS,N6] at h
  induction a:c1 b (B (-1)) ab !=[93] with
  |true=>rw[a] at h;exact nn h
  |false=>
   rw[a] at h
   exact(iu.mp h).elim fun k z=>cN z.2 zj
theorem zs (ay:b.length≤18)(h:iE (eX s b) (fun t=>.aW [.V t.1,fp t.2.1,t.2.2.d]) K X hp):bx (l+3) 17 [cx s p i,.V b] hp K X:=
 cZ rfl (full:=[cx s p i,.V b]) rfl (loc:=[B (cx s p i),B (.V b),ab,ab,ab,ab]) rfl fun call R aM hc r y=>by
  rw[eX] at h
  o_args
  refine hc (a8 _) (aku ay ?_)
  induction e:wH b with
  |none=>have h:=e▸h;exact y (jz rfl h)
  |some w=>
   have h:=e▸h
   refine ak rfl ?_
   o_args
   refine hc (a8 _) (Xs (ao (ao (Xt e) ay) (ai rfl)) ?_)
   induction aN:lU w.1 with
   |none=>rw[rT,aN] at h;exact y (jz rfl h)
   |some n=>
    rw[rT,aN,rT,N7] at h
    o_norm
    o_args
    refine hc (a8 _) (Xq ?_)
    revert h
    generalize bG n=k
    intro h
    o_args
    refine hc (a8 _) (Xr ?_)
    have s4:K (.aW [.V n,fp w.2,k.d]) hp→S ⟨l+2,call,b6,b5⟩ aM R S1 4 56 [B (cx s p i),B (.V b),B (.V w.1),B (fp w.2),B (.V n),B k.d] hp:=fun h=>a6 rfl (ak (ai rfl) (r (cm rfl h)))
    revert s4 h
    induction fZ k.e3 s with
    |false=>exact fun h I=>y (jz rfl h)
    |true=>
     induction w.2 with
     |none=>exact fun h s4=>ak rfl (s4 h)
     |some j=>
      intro h s4
      refine ak rfl ?_
      refine cI (b:=af) rfl ?_
      refine uI ?_
      refine Y zr ?_
      revert h
      induction d6 k.bk with
      |false=>exact fun h=>y (jz rfl h)
      |true=>exact fun h=>s4 h
end
section
variable {hp bq:J ap}{K:a0}
noncomputable abbrev cn:=J (bf×D)
inductive hj (hp:J ap):D→J cn→Prop
 |fj:hj hp .aK []
 |dN {s:Sc}{p:D}{i:ah}{v:cn}{vs:J cn}{d:D}(gI:d=cx s p i)(e:hp[i]?=B (.bv v))(t:hj hp p vs):hj hp d (v::vs)
noncomputable def m9 (k:bf):J cn→ax D
 | []=>ab
 |v::vs=>bS (cB v k) B (m9 k vs)
theorem firstO_c {k:bf}{v:cn}{vs:J cn}:m9 k (v::vs)=bS (cB v k) B (m9 k vs):=rfl
def uJ (K:a0)(X:J ap→Prop)(hp:J ap)(vs:J cn)(n:J am):Prop:=bS (m9 (.V n) vs) (fun d=>K d hp) (iE (eL n) (fun k=>k.km) K X hp)
theorem o3 (e:hp[i]?=B (.bv v))(gH:dy x=B k)(h:F (d2 v k)):eg .In x (.bb i) hp F:=by
 have q:fK hp (.bb i)=B v:=by show hp[i]?.bind ap.mf=_;refine Y e ?_;rfl
 exact cf gH (Y q h)
theorem wI (e:hp[i]?=B (.bv v))(gH:dy x=B k)(gI:cB v k=B d)(h:K d hp):g9 hp K (.bb i) x:=by
 have q:fK hp (.bb i)=B v:=by show hp[i]?.bind ap.mf=_;refine Y e ?_;rfl
 show bS (fK hp (.bb i)) _ _
 exact Y q (cf gH (cf gI h))
theorem N8 (L:hj hp (cx s p i) vs)(av:vs.length≤2)(ay:b.length≤100)(h:bS (lU b) (uJ K X hp vs) (X hp)):bx (l+3) 14 [cx s p i,.V b] hp K X:=
 cZ rfl (full:=[cx s p i,.V b]) rfl (loc:=[B (cx s p i),B (.V b),ab,ab]) rfl fun call R aM hc r y=>by
  o_args
  refine hc (a8 _) (Xs ay ?_)
  induction e:lU b with
  |none=>have h:=e▸h;exact y (jz rfl h)
  |some n=>
   rw[e,bS] at h
   o_norm
   o_args
   o_args
   have fin:∀{o},iE (eL n) (fun k=>k.km) K X hp→S ⟨l+2,call,b6,b5⟩ aM R SY 3 57 [B (cx s p i),B (.V b),B (.V n),o] hp:=fun h=>by
    o_args
    refine NC rfl ?_
    refine Y Hp ?_
    have e:=Ho (b:=n)
    induction q:eL n with
    |none=>have h:=q▸h;exact y (jz rfl h)
    |some k=>
     rw[q] at h e
     exact cW rfl (a6 rfl (cf e (r (cm rfl h))))
   refine⟨3,?_⟩
   refine CB (σ:=D×J cn) (fun ar=>[B (cx s p i),B (.V b),B (.V n),B ar.1]) (fun I=>hp) (fun k ar=>hj hp ar.1 ar.2∧ar.2.length < k∧uJ K X hp ar.2 n) (fun ar i=>cr i.2.1 (Er _)) (fun k ar i P bI=>?_) 3 (cx s p i,vs) ⟨L,Jp av,h⟩
   induction ar with|mk here GI=>
   cases i.1 with
   |fj=>exact ak rfl (fin i.2.2)
   |@dN s2 p2 j v GJ d gI e t=>
    subst gI
    refine ak rfl ?_
    refine cI rfl ?_
    o_norm
    refine o3 (x:=.V n) e rfl ?_
    have g:=i.2.2
    rw[uJ,firstO_c] at g
    refine i4▸?_
    induction q:cB v (.V n)with
    |none=>rw[q] at g;exact bI (p2,GJ) ⟨t,Ak i.2.1,g⟩
    |some d=>rw[q] at g;exact wI e rfl q (r (cm rfl g))
end
section
variable {K:a0}
theorem N9 (L:hj hp (cx s p i) vs)(av:vs.length≤2)(h:K (.be (m9 (.V b) vs).isSome) hp):bx (l+1) 21 [cx s p i,.V b] hp K X:=
 cZ rfl (full:=[cx s p i,.V b]) rfl (loc:=[B (cx s p i),B (.V b),ab]) rfl fun call R aM hc r y=>by
  o_args
  refine a6 rfl ⟨3,?_⟩
  refine CB (σ:=D×J cn) (fun ar=>[B (cx s p i),B (.V b),B ar.1]) (fun I=>hp) (fun k ar=>hj hp ar.1 ar.2∧ar.2.length < k∧K (.be (m9 (.V b) ar.2).isSome) hp) (fun ar i=>cr i.2.1 (Er _)) (fun k ar i P bI=>?_) 3 (cx s p i,vs) ⟨L,Jp av,h⟩
  induction ar with|mk here GI=>
  cases i.1 with
  |fj=>exact ak rfl (a6 (k:=2) rfl (r (cm rfl i.2.2)))
  |@dN s2 p2 j v GJ d gI e t=>
   subst gI
   refine ak rfl ?_
   refine cI rfl ?_
   o_norm
   refine o3 (x:=.V b) e rfl ?_
   have g:=i.2.2
   rw[firstO_c] at g
   refine i4▸?_
   induction q:cB v (.V b)with
   |none=>have g:=q▸g;exact bI (p2,GJ) ⟨t,Ak i.2.1,g⟩
   |some d=>rw[q] at g;exact r (cm rfl g)
end
theorem zt:cB (a::l) k=if a.1=k then B a.2 else cB l k:=by
 rw[cB,xw]
 by_cases e:a.1=k
 ·refine Y (eO e) (Y (b3 e) ?_);rfl
 ·refine Y (jZ e) (Y (bL e) ?_);rfl
theorem akx:d2 (a::l) k=(a9 (a.1=k)||d2 l k):=rfl
theorem aky (l:cn):∀c2,cB (l.map fun p=>if p.1=k then(p.1,v)else p) c2=if c2=k∧d2 l k=af then B v else cB l c2:=by
 induction l with
 |nil=>exact fun c2=>(bL fun q=>dO q.2).symm
 |cons a l az=>
  intro c2
  refine Y h8 (Y zt (Y zt (Y (az c2) (Y akx ?_))))
  by_cases e:a.1=k
  ·refine Y (b3 e) (Y (eO e) (Y (PW ..) ?_))
   by_cases cR:a.1=c2
   ·exact Y (b3 cR) (Y (b3 ⟨cR▸e,rfl⟩) rfl)
   ·exact Y (bL cR) (Y (bL fun q=>cR (e.trans q.1.symm)) (Y (bL fun q=>cR (e.trans q.1.symm)) (Y (bL cR) rfl)))
  ·refine Y (bL e) (Y (jZ e) (Y (DN ..) ?_))
   by_cases cR:a.1=c2
   ·exact Y (b3 cR) (Y (bL fun q=>e (cR.trans q.1)) (Y (b3 cR) rfl))
   ·exact Y (bL cR) (Y (bL cR) rfl)
theorem akz (l:cn):cB (l++[p]) c2=bS (cB l c2) B (if p.1=c2 then B p.2 else ab):=by
 induction l with
 |nil=>refine Y (Ah ..) (Y (zt ..) ?_);rfl
 |cons a l az=>
  refine Y Ej (Y zt (Y zt (Y az ?_)))
  by_cases e:a.1=c2
  ·refine Y (b3 e) (Y (b3 e) ?_);rfl
  ·exact Y (bL e) (Y (bL e) rfl)
theorem sZ:cB (cC m k v) c2=if c2=k then B v else cB m c2:=by
 rw[cC]
 by_cases a:(m.any fun p=>a9 (p.1=k))=af
 ·refine Y (b3 a) (Y (aky ..) ?_)
  by_cases e:c2=k
  ·exact Y (b3 e) (Y (b3 ⟨e,a⟩) rfl)
  ·exact Y (bL e) (Y (bL fun q=>e q.1) rfl)
 ·refine Y (bL a) (Y (akz ..) ?_)
  by_cases e:c2=k
  ·subst e
   exact Y (b3 rfl) (Y (Ju.mp (i4.symm.trans (DL.mpr a):(cB m c2).isSome=ae) |> l4.mp) ((b3 rfl).symm))
  ·refine Y (bL e) (Y (bL fun q=>e q.symm) ?_)
   induction cB m c2 with
   |none=>rfl
   |some d=>rfl
theorem nc:(cC m k v).length≤m.length+1:=by
 rw[cC]
 by_cases a:(m.any fun p=>a9 (p.1=k))=af
 ·exact Y (b3 a) (Y (cH ..) (iQ _))
 ·exact Y (bL a) (Y cG (a8 _))
abbrev iH (m:cn):Prop:=j1 (fun I=>bt) m
theorem wJ:j1 G m↔∀p∈m,je G p.2:=by
 induction m with
 |nil=>exact⟨fun I=>(fun I=>dz),fun I=>cy⟩
 |cons a m az=>exact⟨fun h p q=>(cV.mp q).elim (fun e=>e▸h.1) (az.mp h.2 p),fun h=>⟨h a (.head _),az.mpr fun p q=>h p (.tail _ q)⟩⟩
theorem je.pJ (k:∀n,G n→H n):(∀d,je G d→je H d)∧(∀l,kA G l→kA H l)∧∀l,j1 G l→j1 H l:=
 D.hT (fun I=>cy) (fun I I=>cy) (fun I I=>cy) (fun I I=>cy) (fun I I=>cy) (fun I q=>q) (fun I q=>q) (fun I q=>q) (fun I I q=>q) (fun i h=>k i h) (fun I=>cy) (fun I I p q h=>⟨p h.1,q h.2⟩) (fun I=>cy) fun I I p q h=>⟨p h.1,q h.2⟩
theorem iH.up (h:iH m):j1 G m:=(je.pJ fun I=>qr).2.2 m h
theorem CQ (h:j1 G m)(av:je G v):j1 G (cC m k v):=by
 refine wJ.mpr fun p q=>?_
 rw[cC] at q
 by_cases a:(m.any fun p=>a9 (p.1=k))=af
 ·rw[b3 a] at q
  refine(h9.mp q).elim fun x z=>?_
  by_cases e:x.1=k
  ·rw[b3 e] at z;exact cN z.2 av
  ·rw[bL e] at z;exact cN z.2 (wJ.mp h x z.1)
 ·rw[bL a] at q
  exact(fE.mp q).elim (wJ.mp h p) fun q=>df.mp q▸av
noncomputable def hB (m:cn):ah:=((g0 (m.length+1)).find? fun k:ah=>!d2 m (.ac k)).getD 0
theorem Oa (h:d2 m k=af):k∈m.map (·.1):=(qu.mp h).elim fun p q=>dg q.2▸xs q.1
theorem Ob (m:cn):∃i,((g0 (m.length+1)).find? fun k:ah=>!d2 m (.ac k))=B i:=by
 induction e:(g0 (m.length+1)).find? fun k:ah=>!d2 m (.ac k)with
 |some i=>exact⟨i,rfl⟩
 |none=>
  rw[List.find?_range_eq_none] at e
  have bY:((g0 (m.length+1)).map fun k:ah=>bf.ac k).Nodup:=Eg.mpr (List.nodup_range.imp fun h q=>h (vb.mp (bf.ac.inj q)))
  have z:=bY.length_le_of_subset (l₂:=m.map (·.1)) fun k q=>by
   refine(h9.mp q).elim fun i z=>?_
   have:=e i (xy.mp z.1)
   rw[z7] at this
   exact cN z.2 (Oa this)
  rw[cH,cH,rN] at z
  exact cr z (QK _)
theorem Hs (m:cn):d2 m (.ac (hB m))=ae∧∀j,j < hB m→d2 m (.ac j)=af:=by
 refine(Ob m).elim fun i e=>?_
 have z:=Qb.mp e
 rw[hB,e]
 exact⟨(l2.mp z.1:_=!af),fun j h=>(z7 _).symm.trans (z.2.2 j h)⟩
noncomputable def o4 (m:cn)(p:J am):cn:=cC m (.ac (hB m)) (.V p)
noncomputable def lV (aI:J (J am))(m:cn):cn:=(aI.filter fun p=>p !=[]).foldl o4 m
theorem akA:lV (p::aI) m=bD (p !=[]) (lV aI (o4 m p)) (lV aI m):=by
 rw[lV,om]
 induction p !=[] with
 |true=>rfl
 |false=>rfl
section
variable {K:a0}
theorem CR (o:iH m)(k:K (.a5 m) hp):kh hp K (.bb hp.length) (hp++[.bv m]):=.inr ⟨.a5 m,hp,.kg (a8 _) hg o.up,⟨rfl,fun i hi=>by refine Y (jC hi) ?_;exact .pH⟩,k⟩
theorem akB (gH:dy x=B k)(h:F (d2 m k)):eg .In x (.bb hp.length) (hp++[ap.bv m]) F:=o3 hg gH h
theorem uK (e:hp[i]?=B (.bv m))(gH:dy kd=B k)(aw:m.length≤1000)(h:P (hp.set i (.bv (cC m k x)))):tT (.bb i) kd x hp P:=cf (a:=ap.bv m) e (cf gH (ak aw h))
theorem nd (gH:dy kd=B k)(aw:m.length≤1000)(h:P (hp++[.bv (cC m k x)])):tT (.bb hp.length) kd x (hp++[ap.bv m]) P:=uK hg gH aw (sS.symm▸h)
theorem Xu (av:v.length≤500)(bZ:m.length≤400)(io:iH m)(h:K (.a5 (lV (dC 44 v) m)) hp):bx (l+1) 20 [.V v,.a5 m] hp K X:=
 cZ rfl (full:=[.V v,.a5 m]) rfl (loc:=[B (.V v),B (.a5 m),ab,ab,ab]) rfl fun call R aM hc r y=>by
  have len:(dC 44 v).length≤501:=ao (sP _ _).1 (d8 av)
  o_args
  refine ak (ao bZ (ai rfl)) (ak (ai rfl) (ak rfl ?_))
  o_args
  refine fX (ak rfl (ak rfl (ak (ao av (ai rfl)) (ak ((cH ..).symm▸ao len (ai rfl)) ?_))))
  refine lb (σ:=cn×ah×ax D) D.V (fun s=>[B (.V v),B (.a5 m),B (.bb hp.length),B (.ac s.2.1),s.2.2]) (fun s=>hp++[.bv s.1])
   (fun r s=>(s.1.length+r.length≤901∧s.2.1≤hB s.1)∧iH s.1∧K (.a5 (lV r s.1)) hp) (fun s i=>?_) (fun p q s i P bI=>?_) (dC 44 v) (m,0,ab) ⟨⟨eZ bZ len,jD _⟩,io,h⟩
  ·exact a6 (k:=2) rfl (r (CR i.2.1 i.2.2))
  ·have jx:=i.2.2
   rw[akA] at jx
   refine⟨hB s.1+2,?_⟩
   refine CB (σ:=ah) (fun f=>[B (.V v),B (.a5 m),B (.bb hp.length),B (.ac f),B (.V p)]) (fun I=>hp++[.bv s.1]) (fun k f=>hB s.1+1 < k+f∧f≤hB s.1) (fun f i=>cr (ts i.1 ((iP f).symm▸i.2)) (mI.mpr (iQ _))) (fun k f j Q dJ=>?_) (hB s.1+2) s.2.1 ⟨Nat.lt_add_right _ (rP _),i.1.2⟩
   o_norm
   refine akB (x:=.ac f) rfl (eW (fun a=>?_) fun a=>?_)
   ·exact dJ (f+1) ⟨by have:=j.1;lia,(Jn j.2 fun q=>dO ((Hs s.1).1.symm.trans (q▸a)):f < hB s.1)⟩
   ·have e:f=hB s.1:=(Nat.lt_or_eq_of_le j.2).resolve_left fun q=>dO (a.symm.trans ((Hs s.1).2 f q))
    subst e
    o_norm
    refine rq (eW (fun a=>?_) fun a=>?_)
    ·rw[a] at jx
     refine nd (kd:=.ac _) rfl (ao (ao (ed ..) i.1.1) (ai rfl)) ?_
     refine bI (o4 s.1 p,hB s.1,_) ⟨⟨ao (dR nc _) (ao (eT (QI ..)) i.1.1),?_⟩,CQ i.2.1 cy,jx⟩
     refine Am fun q=>dO ((Hs (o4 s.1 p)).1.symm.trans ?_)
     rw[i4,o4,sZ]
     by_cases e:(bf.ac (hB (cC s.1 (.ac (hB s.1)) (.V p)):ah))=.ac (hB s.1)
     ·refine Y (b3 e) ?_;rfl
     ·exact Y (bL e) (cN i4 ((Hs s.1).2 _ q))
    ·rw[a] at jx
     exact bI (s.1,hB s.1,_) ⟨⟨Jo i.1.1,a8 _⟩,i.2.1,jx⟩
end
section
variable {K:a0}{call:ah→ah→J D→J ap→a0→(J ap→Prop)→Prop}
noncomputable def Xv (m:cn)(p:ax aq)(v:J am):cn:=bS p (fun k=>cC m (.ac k) (.V v)) (lV (dC 44 v) [])
theorem akC (av:v.length≤500)(bZ:m.length≤400)(io:iH m)(h:K (.a5 (Xv m p v)) hp):bx (l+2) 19 [.a5 m,fp p,.V v] hp K X:=
 cZ rfl (full:=[.a5 m,fp p,.V v]) rfl (loc:=[B (.a5 m),B (fp p),B (.V v),ab]) rfl fun call R aM hc r y=>by
  induction p with
  |none=>
   exact a6 rfl (ak rfl (cW rfl (Hb (a6 (k:=1) rfl (ak (ai rfl) (hc (a8 _) (Xu av (ai rfl) cy (r (cm rfl h)))))))))
  |some k=>
   refine a6 rfl (ak rfl (cI rfl (ak (ao bZ (ai rfl)) ?_)))
   o_norm
   exact nd (kd:=fp (B k)) (k:=.ac k) rfl (ao bZ (ai rfl)) (r (CR (CQ io cy) h))
theorem ek {k:aQ}(e:(k.s==s)=b)(h:F b):eg .Eq (.aF k.s) (.aF s) hp F:=by show F _;exact e▸h
variable {k:d4}
noncomputable abbrev Ht (n:J am)(k:d4)(v:J am)(on dt:ax D)(z:aZ):cD:=[B (.V n),B k.d,B (.V v),on,dt,B (.be z)]
theorem Oc (h:R (.V v) hp):S ⟨l,call,b6,b5⟩ aM R oI 7 53 (Ht n k v on dt z) hp:=a6 rfl h
theorem Od (aG:(k.bk.s=="style")=ae)(h:bD z (aM hp) (R (.V v) hp)):S ⟨l,call,b6,b5⟩ aM R oI 6 54 (Ht n k v on dt z) hp:=by
 o_args
 refine fu (n3 (fun a=>?_) fun a=>?_)
 ·rw[a] at h;exact h
 ·rw[a] at h
  exact ek aG (cW rfl (cI rfl (Oc h)))
theorem Hu (aG:(k.bk.s=="style")=ae)(hc:(k.bk.s=="colour")=ae)(h:bD z (aM hp) (R (.V v) hp)):S ⟨l,call,b6,b5⟩ aM R oI 5 55 (Ht n k v on dt z) hp:=by
 o_args
 refine fu (uA (fun a=>?_) fun a=>?_)
 ·exact Od aG h
 ·refine ek hc ?_
  rw[a] at h
  exact Od (n:=n) (on:=on) (dt:=dt) (z:=ae) (l:=l) (call:=call) aG h
theorem Xw (aG:(k.bk.s=="style")=ae)(hc:(k.bk.s=="colour")=ae)(hk:(k.bk.s=="key")=ae)(h:bD z (aM hp) (R (.V v) hp)):S ⟨l,call,b6,b5⟩ aM R oI 4 56 (Ht n k v on dt z) hp:=by
 o_args
 refine fu (uA (fun a=>?_) fun a=>?_)
 ·exact Hu aG hc h
 ·refine ek hk ?_
  rw[a] at h
  exact Hu (n:=n) (on:=on) (dt:=dt) (z:=ae) (l:=l) (call:=call) aG hc h
end
inductive n6:d4→Prop
 |fo (s:ax Sc)(f b:D):n6 ⟨.fo,s,f,b⟩
 |iC (s:ax Sc)(f:D)(lo hi:aq):n6 ⟨.iC,s,f,.aW [.ac lo,.ac hi]⟩
 |qf (s:ax Sc)(f:D)(ij:J (J am)):n6 ⟨.qf,s,f,.aW (ij.map .V)⟩
 |oY (s:ax Sc)(f b:D):n6 ⟨.oY,s,f,b⟩
 |n4 (s:ax Sc)(f b:D):n6 ⟨.n4,s,f,b⟩
 |ip (s:ax Sc)(f b:D):n6 ⟨.ip,s,f,b⟩
 |lg (s:ax Sc)(f b:D):n6 ⟨.lg,s,f,b⟩
noncomputable def uL:J (J am):=[[111,110],[121,101,115],[49]]
noncomputable def CS:J (J am):=[[111,110],[121,101,115],[49],[111,102,102],[110,111],[48]]
noncomputable def uM (b:D)(i:ah):aq:=((b.me.bind fun q=>q[i]?).bind D.eK).getD 0
noncomputable def akD (b:D)(v:J am):aZ:=bS b.me (fun q=>q.any fun e=>a9 (dy e=B (bf.V v))) ae
noncomputable def lj (k:aQ)(b:D)(v:J am):ax D:=match k with
 | .fo=>bD (c7 v CS) (B (.be (c7 v uL))) ab
 | .iC=>(mA v).eK.bind fun n=>bD (a9 (uM b 0≤n)&&a9 (n≤uM b 1)) (B (.ac n)) ab
 | .qf=>bD (akD b v) (B (.V v)) ab
 | .oY=>bD (v==[]||(eA [32] v 0).isSome) ab (B (.V v))
 | .n4=>bD (iq v).no ab (B (.V v))
 | .ip=>bD ((rp v).no&& !(eA [35,123] v 0).isSome) ab (B (.V v))
 |_=>B (.V v)
noncomputable def lW (k:aQ):aZ:=match k with| .fo=>af|_=>ae
noncomputable def s5 (k:d4)(on:aZ)(v:ax (J am)):ax D:=bS v (lj k.bk k.hz) (bD (lW k.bk) (B (.be !on)) ab)
noncomputable def o5 (v:ax (J am)):D:=bS v .V .aK
def rt (k:aQ)(v:J am):Prop:=v.length≤900∧match k with
 | .iC=>v.length≤18
 | .n4=>v.length≤18
 | .ip=>∀w∈fA v,w≠[]→m8 w
 |_=>g4
theorem akE:a9 (0≤mW v s)=(eA s v 0).isSome:=by
 rw[mW]
 induction eA s v 0 with
 |none=>rfl
 |some i=>exact eO (gY i)
theorem akF:a9 (mW v s < 0)= !(eA s v 0).isSome:=by
 rw[mW]
 induction eA s v 0 with
 |none=>rfl
 |some i=>exact jZ (ph.mpr (gY i))
section
variable {K:a0}{R:a0}{aM:lE}{call:ah→ah→J D→J ap→a0→(J ap→Prop)→Prop}{k:d4}
theorem Oe (h:iE (bD c ab (B d)) id K X hp):bD c (X hp) (K d hp):=by induction c with|true=>exact h|false=>exact h
theorem akG (h:iE (bD c (B d) ab) id K X hp):bD (!c) (X hp) (K d hp):=by induction c with|true=>exact h|false=>exact h
abbrev wK (call:ah→ah→J D→J ap→a0→(J ap→Prop)→Prop)(aM:lE)(R:a0)(l i:ah)(n:J am)(k:d4)(v:J am)(on:aZ)(hp:J ap)(cJ:ax D):Prop:=S ⟨l+4,call,b6,b5⟩ aM R oI i (60 - i) [B (.V n),B k.d,B (.V v),B (.be on),ab,cJ] hp
theorem Hv (e:(k.bk.s=="choice")=ae)(h:wK call aM R l 4 n k v on hp (B (.be ae))):wK call aM R l 3 n k v on hp ab:=by
 refine a6 rfl ?_
 o_norm
 exact ek e h
theorem Xx (e:(k.bk.s=="key")=ae)(h:wK call aM R l 5 n k v on hp (B (.be ae))):wK call aM R l 4 n k v on hp (B (.be ae)):=by
 refine a6 rfl ?_
 o_norm
 exact fu (cI rfl (ek e h))
theorem akH (e:(k.bk.s=="colour")=ae)(h:wK call aM R l 6 n k v on hp (B (.be ae))):wK call aM R l 5 n k v on hp (B (.be ae)):=by
 refine a6 rfl ?_
 o_norm
 exact fu (cI rfl (ek e h))
theorem akI (av:rt k.bk v)(hk:n6 k)(hS:lW k.bk=ae)(nn:(k.bk.s=="number")=ae)(hc:∀{aU f ds hp K X},aU≤l+4→bx aU f ds hp K X→call aU f ds hp K X)(h:iE (lj k.bk k.hz v) id R aM hp):wK call aM R l 3 n k v on hp ab:=by
 induction hk with
 |fo=>exact cr hS (fun q=>dO q.symm)
 |iC=>exact cr nn (show ¬ (aQ.iC.s=="number")=ae by decide)
 |lg s f b=>exact Hv rfl (Xw rfl rfl rfl h)
 |qf s f ij=>
  have h:=akG h
  refine a6 rfl ?_
  o_norm
  exact ek (b:=af) rfl (fu (cI rfl (NU ij (Xw rfl rfl rfl h))))
 |oY s f b=>
  have h:=Oe h
  refine Hv rfl (a6 rfl ?_)
  o_norm
  refine fu (cI rfl (ek (b:=af) rfl ?_))
  refine fu (cI rfl (uH (fu ?_)))
  refine uA (fun a=>?_) fun a=>?_
  ·rw[a] at h;exact Hu rfl rfl (Y a h)
  ·rw[a] at h
   exact fX (ak rfl (ak rfl (ak ⟨ao av.1 (ai rfl),ai rfl⟩ (CC (Y akE (Hu rfl rfl h))))))
 |n4 s f b=>
  have h:=Oe h
  refine Hv rfl (Xx rfl (a6 rfl ?_))
  o_norm
  exact fu (cI rfl (ek (b:=af) rfl (fu (cI rfl (hc (a8 _) (CI av.2 (ak rfl (Od rfl h))))))))
 |ip s f b=>
  have h:=Oe h
  refine Hv rfl (Xx rfl (akH rfl (a6 rfl ?_)))
  o_norm
  refine fu (cI rfl (ek (b:=af) rfl ?_))
  refine cI rfl ?_
  refine hc (a8 _) (NT av.1 av.2 (ak rfl ?_))
  revert h
  generalize(rp v).no=z
  intro h
  refine Hc (fun a=>?_) fun a=>?_
  ·rw[a] at h
   refine fX (ak rfl (ak rfl (ak ⟨ao av.1 (ai rfl),ai rfl⟩ (mz ?_))))
   refine Y akF ?_
   revert h
   induction(eA [35,123] v 0).isSome with
   |true=>
    intro h
    exact cW rfl (cI rfl (Oc (k:=⟨.ip,s,f,b⟩) (on:=B (.be on)) (n:=n) (dt:=ab) (z:=ae) h))
   |false=>exact fun h=>h
  ·rw[a] at h⊢
   exact cI rfl (Oc (k:=⟨.ip,s,f,b⟩) (on:=B (.be on)) (n:=n) (dt:=ab) (z:=ae) h)
end
section
variable {K:a0}{call:ah→ah→J D→J ap→a0→(J ap→Prop)→Prop}{k:d4}
theorem akJ (r:∀{d bq},kh hp K d bq→R d bq)(y:∀{bq},uv hp X bq→aM bq)(h:iE o id K X hp):iE o id R aM hp:=by induction o with|none=>exact y (jz rfl h)|some d=>exact r (cm rfl h)
theorem CT {k:aQ}:(k.s=="flag")=lW k:=by induction k<;>decide
theorem akK (h:iE (s5 k on ab) id R aM hp):S ⟨l,call,b6,b5⟩ aM R oI 0 60 [B (.V n),B k.d,B .aK,B (.be on),ab,ab] hp:=by
 refine a6 rfl ?_
 o_norm
 refine ek CT ?_
 rw[s5,bS] at h
 revert h
 induction lW k.bk with
 |true=>exact fun h=>ak rfl h
 |false=>exact fun h=>a6 (k:=1) rfl (ak rfl h)
theorem akL {hk:(k.bk.s=="flag")=af}(h:iE (lj .fo k.hz v) id R aM hp):S ⟨l,call,b6,b5⟩ aM R oI 0 60 [B (.V n),B k.d,B (.V v),B (.be on),ab,ab] hp:=by
 refine a6 rfl ?_
 o_norm
 refine ek hk ?_
 have h:iE (bD (c7 v CS) (B (.be (c7 v uL))) ab) id R aM hp:=h
 refine cI rfl (ak rfl (cW rfl ?_))
 refine ak (ai rfl) (m6 CS (eW (fun a=>?_) fun a=>?_))
 ·have h:=a▸h
  exact ak (ai rfl) (m6 uL h)
 ·have h:=a▸h;exact h
theorem Xy (h0:(k.bk.s=="flag")=ae)(h:S ⟨l,call,b6,b5⟩ aM R oI 2 58 [B (.V n),B k.d,B (.V v),B (.be on),ab,ab] hp):S ⟨l,call,b6,b5⟩ aM R oI 0 60 [B (.V n),B k.d,B (.V v),B (.be on),ab,ab] hp:=by
 refine a6 rfl ?_
 o_norm
 exact ek h0 (a6 (k:=1) rfl (ak rfl h))
theorem bn {A bQ T:Prop}(h:c=af→A)(aj:c=ae→bQ):ei ((!c)==ae) A (ei (!c) bQ T):=by induction c with|true=>exact h rfl|false=>exact aj rfl
theorem akM {lo hi:aq}(hc:∀{aU f ds hp K X},aU≤l+4→bx aU f ds hp K X→call aU f ds hp K X)(av:v.length≤18)(h:iE (lj .iC (.aW [.ac lo,.ac hi]) v) id R aM hp):S ⟨l+4,call,b6,b5⟩ aM R oI 2 58 [B (.V n),B (d4.d ⟨.iC,s,f,.aW [.ac lo,.ac hi]⟩),B (.V v),B (.be on),ab,ab] hp:=by
 refine a6 rfl ?_
 o_norm
 refine ek (b:=af) rfl (cI rfl ?_)
 refine hc (a8 _) (ND av ?_)
 have z:=CH v
 have h:iE ((mA v).eK.bind fun n=>bD (a9 (lo≤n)&&a9 (n≤hi)) (B (.ac n)) ab) id R aM hp:=h
 revert z h
 generalize mA v=d
 intro z h
 induction z with
 |no=>exact ak rfl h
 |ok m=>
  refine ak rfl (cI rfl ?_)
  have h:iE (bD (a9 (lo≤m)&&a9 (m≤hi)) (B (.ac m)) ab) id R aM hp:=h
  refine ak ⟨by decide,ai rfl⟩ (eW (fun a=>?_) fun a=>?_)
  ·have h:=a▸h
   refine ak ⟨by decide,ai rfl⟩ (bn (fun a=>?_) fun a=>?_)
   ·have h:=a▸h;exact h
   ·have h:=a▸h;exact h
  ·have h:=a▸h;exact h
theorem akN {v:ax (J am)}(hk:n6 k)(av:∀b,v=B b→rt k.bk b)(h:iE (s5 k on v) id K X hp):bx (l+5) 18 [.V n,k.d,o5 v,.be on] hp K X:=
 cZ rfl (full:=[.V n,k.d,o5 v,.be on]) rfl (loc:=[B (.V n),B k.d,B (o5 v),B (.be on),ab,ab]) rfl fun call R aM hc r y=>by
  have h:=akJ r y h
  induction v with
  |none=>exact akK h
  |some v=>
   have fP:lW k.bk=ae→(k.bk.s=="number")=ae→S ⟨l+4,call,b6,b5⟩ aM R oI 0 60 [B (.V n),B k.d,B (.V v),B (.be on),ab,ab] hp:=fun e cR=>by
    refine Xy (CT.trans e) (a6 rfl ?_)
    o_norm
    exact ek cR (akI (av v rfl) hk e cR hc h)
   induction hk with
   |fo=>exact akL (hk:=rfl) h
   |iC s f lo hi=>exact Xy rfl (akM hc (av v rfl).2 h)
   |qf=>exact fP rfl rfl
   |oY=>exact fP rfl rfl
   |n4=>exact fP rfl rfl
   |ip=>exact fP rfl rfl
   |lg=>exact fP rfl rfl
end
theorem akO:∀n∈Hr,(eL n).isSome=af∧n.length≤18:=by decide
theorem CU (ay:b.length≤18)(h:lU b=B n):lU n=B n∧n.length≤18:=by
 have h0:=h
 rw[lU] at h
 induction a:(eL b).isSome||N5 b with
 |true=>rw[a] at h;exact cN (bo h) (⟨bo h▸h0,ay⟩)
 |false=>
  rw[a] at h
  have h:bD (b==[]||(qi b).length !=1) ab (B ((qi b).headD []))=B n:=h
  induction c:b==[]||(qi b).length !=1 with
  |true=>have h:=c▸h;exact nn h
  |false=>
   have h:=c▸h
   refine(IT.mp (qG.mp (lq.mp c).2)).elim fun x e=>?_
   have m:x∈qi b:=e▸.head _
   have h:=e▸h
   have h:x=n:=bo h
   have z:=akO x (tq.mp m).1
   rw[←h,lU,z.1]
   exact⟨rfl,z.2⟩
theorem Hw (ay:b.length≤18)(h:eX s b=B (n,q,k)):lU n=B n∧n.length≤18∧k=bG n:=by
 rw[eX] at h
 induction e:wH b with
 |none=>have h:=e▸h;exact nn h
 |some w=>
  rw[e,rT] at h
  induction aN:lU w.1 with
  |none=>have h:=aN▸h;exact nn h
  |some m=>
   rw[aN,rT,N7] at h
   have z:=CU (ao (Xt e) ay) aN
   revert h
   induction fZ (bG m).e3 s with
   |false=>exact nn
   |true=>
    induction w.2.isSome with
    |false=>exact fun h=>have e:=bo h;have gu:m=n:=bl (·.1) e;⟨gu▸z.1,gu▸z.2,gu▸(bl (·.2.2) e).symm⟩
    |true=>induction d6 (bG m).bk with
     |true=>exact fun h=>have e:=bo h;have gu:m=n:=bl (·.1) e;⟨gu▸z.1,gu▸z.2,gu▸(bl (·.2.2) e).symm⟩
     |false=>exact nn
noncomputable def d7 (vs:J cn)(n:J am):ax D:=bS (m9 (.V n) vs) B ((eL n).map d4.km)
section
variable {K:a0}{n:J am}{vs:J cn}{b:J am}{q:ax aq}{k:d4}{v:ax (J am)}
theorem zu (L:hj hp (cx s p i) vs)(av:vs.length≤2)(aA:lU n=B n∧n.length≤18)(e:d7 vs n=B d)(h:K d hp):bx (l+3) 14 [cx s p i,.V n] hp K X:=by
 refine N8 L av (ao aA.2 (ai rfl)) ?_
 refine Y aA.1 ?_
 show uJ K X hp vs n
 rw[d7] at e
 rw[uJ]
 induction f:m9 (.V n) vs with
 |some d=>rw[f] at e;exact Y (bo e) h
 |none=>
  rw[f] at e
  induction g:eL n with
  |some k=>
   rw[g] at e
   have e:k.km=d:=bo e
   subst e;exact h
  |none=>rw[g] at e;exact nn e
theorem hj.at (L:hj hp (cx s p i) (v0::vs)):hp[i]?=B (.bv v0):=by
 generalize e:cx s p i=d at L
 generalize aN:v0::vs=us at L
 induction L with
 |fj=>exact vD aN
 |@dN s2 p2 j _ _ _ gI dK t=>
  have h2:=xA aN;have Of:=h2.1;have wq:=h2.2;subst Of;subst wq
  have z:oC (cx s p i) "values" [] fun x I=>x.yj=B i:=rfl
  have z:=(e.trans gI)▸z
  exact bo (show B j=B i from z)▸dK
theorem CV {k:aQ}:(k.s=="array")=d6 k:=by induction k<;>decide
inductive ru (vs:J cn)(n:J am):ax aq→d4→ax (J am)→ax D→Prop
 |Xz {q:ax aq}{k:d4}(e:d6 k.bk=af):ru vs n q k ab ab
 |eC {q:ax aq}{k:d4}{m:cn}{x:J am}(e:d6 k.bk=af)(gu:d7 vs n=B (.a5 m))(io:iH m)(bZ:m.length≤400)(hx:x.length≤500):ru vs n q k (B x) (B (.a5 (Xv m q x)))
 |Hx {j:aq}{k:d4}{v:ax (J am)}(e:d6 k.bk=ae):ru vs n (B j) k v ab
 |kg {k:d4}{v:ax (J am)}{on:aZ}(e:d6 k.bk=ae)(hk:n6 k)(CW:bD (lW k.bk) (d7 vs n=B (.be on)) (on=ae))(av:∀b,v=B b→rt k.bk b):ru vs n ab k v (s5 k on v)
theorem XA (ay:b.length≤18)(e:eX s b=ab)(h:X hp):bx (l+6) 15 [cx s p i,.V b,o5 v] hp K X:=
 cZ rfl (full:=[cx s p i,.V b,o5 v]) rfl (loc:=[B (cx s p i),B (.V b),B (o5 v),ab,ab,ab,ab]) rfl fun call R aM hc r y=>by
  o_args
  exact hc (a8 _) (zs ay (e▸(y (jz rfl h))))
theorem Hy (L:hj hp (cx s p i) (v0::vs))(av:vs.length≤1)(aw:v0.length≤900)(ay:b.length≤18)(e:eX s b=B (n,q,k))(z:ru (v0::vs) n q k v o)(h:iE o id (fun d I=>K .aK (hp.set i (.bv (cC v0 (.V n) d)))) X hp):
  bx (l+6) 15 [cx s p i,.V b,o5 v] hp K X:=
 cZ rfl (full:=[cx s p i,.V b,o5 v]) rfl (loc:=[B (cx s p i),B (.V b),B (o5 v),ab,ab,ab,ab]) rfl fun call R aM hc r y=>by
  have c5:=Hw ay e
  have now:∀{d} {K:a0} {X:J ap→Prop},d7 (v0::vs) n=B d→K d hp→call (l+5) 14 [cx s p i,.V n] hp K X:=fun e h=>hc (a8 _) (zu (l:=l+2) L (d8 av) ⟨c5.1,c5.2.1⟩ e h)
  have fin:∀{d},K .aK (hp.set i (.bv (cC v0 (.V n) d)))→R .aK (hp.set i (.bv (cC v0 (.V n) d))):=fun h=>r (cm (pl ..) h)
  o_args
  refine hc (a8 _) (zs ay ?_)
  refine Y e ?_
  refine ak rfl ?_
  refine a6 rfl ?_
  o_norm
  refine ek CV ?_
  induction z with
  |@Xz q k a=>exact Y a (ak rfl (y (jz rfl h)))
  |@eC q k m x a gu io bZ hx=>
   exact Y a (ak rfl (cW rfl (ak rfl (now gu (hc (a8 _) (akC (l:=l+3) hx bZ io (uK (kd:=.V n) L.at rfl (ao aw (ai rfl)) (fin h))))))))
  |@Hx j k v a=>exact Y a (ak rfl (y (jz rfl h)))
  |@kg k v on a hk CW av=>
   refine Y a ?_
   refine ak rfl (cW rfl ?_)
   have tail:∀{Q:a0},(∀d,K .aK (hp.set i (.bv (cC v0 (.V n) d)))→Q d hp)→call (l+5) 18 [.V n,k.d,o5 v,.be on] hp Q aM:=fun {Q} g=>hc (a8 _) (akN hk av (by
    cases f:s5 k on v with
    |none=>have h:=f▸h;exact y (jz rfl h)
    |some d=>rw[f] at h;exact g d h))
   have st:=fun d (h:K .aK (hp.set i (.bv (cC v0 (.V n) d))))=>uK (x:=d) (kd:=.V n) (P:=fun hp=>S ⟨l+5,call,b6,b5⟩ aM R S0 2 58 [B (cx s p i),B (.V b),B (o5 v),B (.V n),B (fp ab),B k.d,B d] hp) L.at rfl (ao aw (ai rfl)) (fin h)
   refine ek CT (fu ?_)
   cases f:lW k.bk with
   |true=>
    rw[f] at CW
    exact cI rfl (ak rfl (now CW (tail st)))
   |false=>
    rw[f] at CW
    subst(CW:on=ae)
    exact cW rfl (tail st)
end
section
variable {hp bq:J ap}{K:a0}{n:J am}{v0:cn}
theorem akP (f:wg de hp d k3):∀{m:cn},j1 (· < de) m→uu de hp (cC m k d) (cC m k k3):=by
 have mp:∀m:cn,j1 (· < de) m→uu de hp (m.map fun p=>if p.1=k then(p.1,d)else p) (m.map fun p=>if p.1=k then(p.1,k3)else p):=fun m=>by
  induction m with
  |nil=>exact fun I=>.fj
  |cons a m az=>
   intro o
   refine Y h8 (Y h8 ?_)
   by_cases e:a.1=k
   ·exact Y (b3 e) (Y (b3 e) (.dN f (az o.2)))
   ·exact Y (bL e) (Y (bL e) (.dN (.nD o.1) (az o.2)))
 have CX:∀m:cn,j1 (· < de) m→uu de hp (m++[(k,d)]) (m++[(k,k3)]):=fun m=>by
  induction m with
  |nil=>exact fun I=>.dN f .fj
  |cons a m az=>exact fun o=>.dN (.nD o.1) (az o.2)
 intro m o
 rw[cC,cC]
 by_cases a:(m.any fun p=>a9 (p.1=k))=af
 ·exact Y (b3 a) (Y (b3 a) (mp m o))
 ·exact Y (bL a) (Y (bL a) (CX m o))
theorem XB (hi:i < hp.length)(hd:je (· < hp.length) d)(o:iH w)(o':iH m)(k:K d (hp.set i (.bv (cC w ky (.a5 m))))):kh hp K d (hp.set i (.bv (cC w ky (.bb hp.length)))++[.bv m]):=by
 refine .inr ⟨d,_,.nD hd,⟨pl ..,fun j da=>?_⟩,k⟩
 refine Y (jC (by refine Y pl ?_;exact da)) ?_
 by_cases e:i=j
 ·subst e
  refine Y (DU hi) (Y (DU hi) ?_)
  refine .bv (akP (.kg (a8 _) ?_ o'.up) o.up)
  exact(bl (fun n=>(hp.set i (.bv (cC w ky (.bb hp.length)))++[ap.bv m])[n]?) (pl ..).symm).trans hg
 ·refine Y (DY e) (Y (DY e) ?_);exact .pH
theorem XC (e:hp[i]?=B o):hp.set i o=hp:=by
 refine(gc.mp e).elim fun h e=>?_;exact e▸(Qf h)
theorem Og (e:hp[i]?=B (.bv m))(gH:dy x=B ky)(aw:m.length≤1000)(h:K ((cB m ky).getD .aK) (hp.set i (.bv (kX m ky)))):mg .sd (.bb i) [x,.aK] hp K:=cf (a:=ap.bv m) e (ak rfl (cf (a:=m) rfl (cf gH (ak aw h))))
theorem zv (e:hp[i]?=B (.bv m)):k0 hp (.bb i)=B .bv:=by show hp[i]?.map ap.ty=_;refine e▸?_;rfl
theorem akQ (h:j1 G m):j1 G (kX m ky):=wJ.mpr fun p q=>wJ.mp h p (tq.mp q).1
inductive wL (v0:cn)(n:J am):ax aq→cn→Prop
 |hT:wL v0 n ab (kX v0 (.V n))
 |no {j:aq}(e:cB v0 (.V n)=ab):wL v0 n (B j) v0
 |it {j:aq}{m:cn}(e:cB v0 (.V n)=B (.a5 m))(io:iH m)(bZ:m.length≤400):wL v0 n (B j) (cC v0 (.V n) (.a5 (kX m (.ac j))))
theorem akR (ay:b.length≤18)(e:eX s b=ab)(h:X hp):bx (l+4) 16 [cx s p i,.V b] hp K X:=
 cZ rfl (full:=[cx s p i,.V b]) rfl (loc:=[B (cx s p i),B (.V b),ab,ab,ab,ab]) rfl fun call R aM hc r y=>by
  o_args
  exact hc (a8 _) (zs ay (Y e (y (jz rfl h))))
theorem XD (L:hp[i]?=B (.bv v0))(aw:v0.length≤900)(Hz:iH v0)(ay:b.length≤18)(e:eX s b=B (n,q,k))(z:wL v0 n q w)(h:K .aK (hp.set i (.bv w))):bx (l+4) 16 [cx s p i,.V b] hp K X:=
 cZ rfl (full:=[cx s p i,.V b]) rfl (loc:=[B (cx s p i),B (.V b),ab,ab,ab,ab]) rfl fun call R aM hc r y=>by
  o_args
  refine hc (a8 _) (zs ay ?_)
  refine Y e ?_
  refine ak rfl ?_
  refine a6 rfl ?_
  induction z with
  |hT=>
   exact ak rfl (cI rfl (cf (zv L) (ak rfl (ak (zv L) (Og L rfl (ao aw (ai rfl)) (r (cm (pl ..) h)))))))
  |no a=>
   refine ak rfl (cW rfl ?_)
   o_norm
   exact o3 (x:=.V n) L rfl (Y i4 (Y a (r (cm rfl (XC L▸h)))))
  |@it j m a io bZ=>
   refine ak rfl (cW rfl ?_)
   o_norm
   refine o3 (x:=.V n) L rfl ?_
   refine Y i4 (Y a ?_)
   refine cI rfl (wI L rfl a (ak (ao bZ (ai rfl)) ?_))
   o_norm
   have hi:=(gc.mp L).1
   refine cf (zv hg) (ak rfl (ak (zv hg) (Og (x:=.ac j) hg rfl (ao bZ (ai rfl)) ?_)))
   refine Y sS ?_
   refine uK (kd:=.V n) ((jC hi).trans L) rfl (ao aw (ai rfl)) ?_
   exact Y (IW _ _ hi) (r (XB hi cy Hz (akQ io) h))
end
section
variable {K:a0}
noncomputable def wM (k:aQ):aZ:=match k with| .lg=>af| .ip=>af| .jS=>af|_=>ae
noncomputable def rv (k:aQ):aZ:=match k with| .ip=>af|_=>ae
theorem akS {k:aQ}:(k.s=="style")=rv k:=by induction k<;>decide
theorem XE {k:aQ}:([D.aF "octets",.aF "style",.aF "array"].any fun e=>a9 (dy e=B (bf.aF k.s)))=wM k:=by induction k<;>decide
theorem Oh:(fp q).no=!q.isSome:=by induction q with|none=>rfl|some j=>rfl
noncomputable def wN (k:aQ)(kb v:J am):J am:=bD (rv k) (bD (kb !=[]) (kb++[44]++v) v) (kb++v)
theorem Oi (ay:b.length≤18)(e:∀n q k,eX s b=B (n,q,k)→q.isSome=af∨wM k.bk=ae)(h:X hp):bx (l+7) 22 [cx s p i,.V b,.V v] hp K X:=
 cZ rfl (full:=[cx s p i,.V b,.V v]) rfl (loc:=[B (cx s p i),B (.V b),B (.V v),ab,ab,ab,ab]) rfl fun call R aM hc r y=>by
  o_args
  refine hc (a8 _) (zs (l:=l+3) ay ?_)
  induction z:eX s b with
  |none=>exact y (jz rfl h)
  |some t=>
   have e:=e _ _ _ z
   refine ak rfl ?_
   refine a6 rfl ?_
   o_norm
   exact ak rfl (Y Oh (Y (z7 ..) (n3 (fun a=>y (jz rfl h)) fun a=>ak (ai rfl) (ak rfl (Y XE (Y (e.resolve_left fun q=>dO (a.symm.trans q)) (y (jz rfl h))))))))
def s6 (vs:J cn)(n:J am)(s7:D):Prop:=bD ((eL n).isSome||(m9 (.V n) vs).isSome) (d7 vs n=B s7) (s7=.V [])
theorem XF (L:hj hp (cx s p i) (v0::vs))(av:vs.length≤1)(ay:b.length≤18)(e:eX s b=B (n,ab,k))(j4:wM k.bk=af)(z:s6 (v0::vs) n s7)(h:∀{call R aM},(∀{aU f ds hp K X},aU≤l+6→bx aU f ds hp K X→call aU f ds hp K X)→(∀{d bq},kh hp K d bq→R d bq)→(∀{bq},uv hp X bq→aM bq)→S ⟨l+6,call,b6,b5⟩ aM R S2 3 57 [B (cx s p i),B (.V b),B (.V v),B (.V n),B .aK,B k.d,B s7] hp):
  bx (l+7) 22 [cx s p i,.V b,.V v] hp K X:=
 cZ rfl (full:=[cx s p i,.V b,.V v]) rfl (loc:=[B (cx s p i),B (.V b),B (.V v),ab,ab,ab,ab]) rfl fun call R aM hc r y=>by
  have c5:=Hw ay e
  have h:=h hc r y
  o_args
  refine hc (a8 _) (zs (l:=l+3) ay ?_)
  refine Y e ?_
  refine ak rfl ?_
  refine a6 rfl ?_
  o_norm
  refine ak rfl (ak (ai rfl) (ak rfl ?_))
  refine Y XE (Y j4 ?_)
  refine a6 (k:=2) rfl ?_
  o_norm
  have now:∀{K:a0} {X:J ap→Prop},d7 (v0::vs) n=B s7→K s7 hp→call (l+6) 14 [cx s p i,.V n] hp K X:=fun e h=>hc (a8 _) (zu (l:=l+3) L (d8 av) ⟨c5.1,c5.2.1⟩ e h)
  rw[s6] at z
  refine uB rfl ?_
  refine Y Hp ?_
  refine n3 (fun a=>?_) fun a=>?_
  ·have z:=a▸z;exact ak rfl (now z h)
  ·refine hc (a8 _) (N9 (l:=l+5) L (d8 av) (fu (n3 (fun c=>?_) fun c=>?_)))
   ·rw[a,c] at z;exact ak rfl (now z h)
   ·rw[a,c] at z
    subst(z:s7=.V []);exact h
theorem akT (L:hj hp (cx s p i) (v0::vs))(av:vs.length≤1)(aw:v0.length≤900)(ay:b.length≤18)(e:eX s b=B (n,ab,k))(j4:d6 k.bk=af)(z:s6 (v0::vs) n (.a5 m))(io:iH m)(bZ:m.length≤400)(hx:v.length≤500)(h:K .aK (hp.set i (.bv (cC v0 (.V n) (.a5 (lV (dC 44 v) m)))))):bx (l+7) 22 [cx s p i,.V b,.V v] hp K X:=by
 refine XF L av ay e (by revert j4;induction k.bk<;>decide) z fun {call R aM} hc r y=>?_
 refine a6 rfl ?_
 o_norm
 exact ek (CV.trans j4) (cI rfl (hc (a8 _) (Xu (l:=l+5) hx bZ io (uK (kd:=.V n) L.at rfl (ao aw (ai rfl)) (r (cm (pl ..) h))))))
theorem XG (L:hj hp (cx s p i) (v0::vs))(av:vs.length≤1)(aw:v0.length≤900)(ay:b.length≤18)(e:eX s b=B (n,ab,k))(cR:eX s n=B (n,ab,k))(j4:d6 k.bk=ae)(FQ:wM k.bk=af)(z:s6 (v0::vs) n (.V kb))(hx:v.length≤500)(hk:kb.length≤500)(w:ru (v0::vs) n ab k (B (wN k.bk kb v)) o)(h:iE o id (fun d I=>K .aK (hp.set i (.bv (cC v0 (.V n) d)))) X hp):bx (l+7) 22 [cx s p i,.V b,.V v] hp K X:=by
 refine XF L av ay e FQ z fun {call R aM} hc r y=>?_
 have set:∀{Ct Q},wN k.bk kb v=Ct→(∀{bq},R .aK bq→Q D.aK bq)→call (l+6) 15 [cx s p i,.V n,.V Ct] hp Q aM:=fun {Ct Q} q g=>by
  subst q
  refine hc (a8 _) (Hy (v:=B _) L av aw (Hw ay e).2.1 cR w ?_)
  induction o with
  |none=>exact y (jz rfl h)
  |some d=>exact g (r (cm (pl ..) h))
 refine a6 rfl ?_
 o_norm
 refine ek (CV.trans j4) (cW rfl (ek akS ?_))
 rw[wN] at set
 induction f:rv k.bk with
 |true=>
  rw[f] at set
  refine cI rfl (ak rfl (rq (eW (fun a=>?_) fun a=>?_)))
  ·rw[a] at set
   refine ak (ao (dR hk 1) (ai rfl)) (ak ?_ (set rfl id))
   exact Y cG (ao (eZ (dR hk 1) hx) (ai rfl))
  ·rw[a] at set;exact set rfl id
 |false=>
  rw[f] at set
  exact cW rfl (ak rfl (ak (ao (eZ hk hx) (ai rfl)) (set rfl id)))
end
noncomputable def wO (q:J am)(c:am):aZ:=q.any fun x=>(x.toNat:aq)==(c.toNat:aq)
noncomputable def s8 (c:am):aZ:=(a9 ((32:aq) < c.toNat)&&a9 ((c.toNat:aq) < 127))&&!wO [34,39,35,36,37,59,126,92,123,125] c
noncomputable def uN (b:J am):aZ:=b !=[]&&b.all s8
noncomputable def Oj (c:am):J am:=[48+c / 64,48+c / 8 % 8,48+c % 8]
noncomputable def eR (c:am):J am:=bD (wO [92,34,36] c) [92,c] (bD (a9 ((32:aq)≤c.toNat)&&a9 ((c.toNat:aq) < 127)) [c] (92::Oj c))
noncomputable def hN (b:J am):J am:=bD (uN b) b ([34]++b.flatMap eR++[34])
theorem akU (c:am):(eR c).length≤4:=by
 rw[eR]
 induction wO [92,34,36] c with
 |true=>exact ai rfl
 |false=>induction(a9 ((32:aq)≤c.toNat)&&a9 ((c.toNat:aq) < 127))with
  |true=>exact ai rfl
  |false=>exact ai rfl
theorem HA (b:J am):(b.flatMap eR).length≤4 *b.length:=by
 induction b with
 |nil=>exact a8 _
 |cons c r az=>exact Y (rO ..) (Y (cG ..) (Y (iO ..) (Y (tu ..) (Y (fQ ..) (eZ az (akU c))))))
theorem akV (b:J am):(hN b).length≤4 *b.length+2:=by
 rw[hN]
 induction uN b with
 |true=>exact ao (Nat.le_mul_of_pos_left _ (by decide)) (ed _ 2)
 |false=>show([34]++b.flatMap eR++[34]).length≤_;exact Y cG (dR (d8 (HA b)) 1)
theorem XH (c:am):(0:aq)≤c.toNat∧(c.toNat:aq) < 256:=⟨gY _,h7.mpr c.toNat_lt⟩
theorem wP (e:f a=B b)(h:dF f r=B q):dF f (a::r)=B (b::q):=by show(f a).bind _=_;rw[e,rT,h];rfl
noncomputable abbrev XI (i:aq):J D:=[.ac (48+i.fdiv 64),.ac (48+(i.fdiv 8).fmod 8),.ac (48+i.fmod 8)]
theorem akW:∀n,n < 256→dF nK (XI (n:ah))=B (Oj (E8 n)):=by decide+kernel
theorem XJ (c:am):dF nK (XI c.toNat)=B (Oj c):=(akW c.toNat c.toNat_lt).trans (Kx.symm▸rfl)
section
variable {K:a0}{R:a0}{call:ah→ah→J D→J ap→a0→(J ap→Prop)→Prop}
theorem Ok (h:F (wO q c)):eg .In (dL c) (.V q) hp F:=ak (XH c) h
theorem akX (h:F (!wO q c)):eg .NotIn (dL c) (.V q) hp F:=ak (XH c) h
theorem akY {bQ:aZ→Prop}(h:(x&&y)=af→A)(aj:(x&&y)=ae→bQ ae):ei x (ei (y==af) A (bQ y)) (ei (ae==af) A (bQ ae)):=by
 induction x with
 |true=>induction y with
  |true=>exact h rfl
  |false=>exact aj rfl
 |false=>exact aj rfl
theorem uO (e:dF nK q=B w)(hw:w.length≤100)(h:K (.V w) hp):j5 ae .V [.aP q] hp K:=show K9 hp K (.aP q) from cf (a:=q) rfl (cf e (ak (ao hw (ai rfl)) h))
theorem XK (aw:u.length+w.length≤1000000)(h:K .aK (hp++[.er (u++w)])):mg .mc (.bb hp.length) [.V w] (hp++[.er u]) K:=cf (a:=ap.er u) hg (ak aw (Y sS h))
theorem akZ (aw:u.length≤1000000)(h:K .aK (hp++[.er (u++[c])])):mg .eP (.bb hp.length) [dL c] (hp++[.er u]) K:=cf (a:=ap.er u) hg (cf CD (ak aw (Y sS h)))
theorem ak0 (aw:u.length≤1000000)(h:K (.V u) (hp++[.er u])):j5 ae .V [.bb hp.length] (hp++[.er u]) K:=by
 show yk _ _ _
 have e:(((D.bb hp.length).yj.bind fun i=>(hp++[ap.er u])[i]?).bind ap.f5)=B u:=by show((hp++[ap.er u])[hp.length]?).bind ap.f5=_;refine Y hg ?_;rfl
 rw[yk,e];exact ak aw h
theorem ak1 (bP:u.length≤9000)(h:P [o0,h4,B (dL c),B (.bb hp.length)] (hp++[.er (u++eR c)])):
  dX ⟨l,call,b6,b5⟩ 55 [.a7 (.aH .In (.aa 2) (.ag (.V [92,34,36]))) [.eU (.bm (.aa 3) .mc [(.bi ae .V [(.aP ae [(.ag (.ac 92)),(.aa 2)])])])] [.a7 (.jJ .LtE .Lt (.ag (.ac 32)) (.aa 2) (.ag (.ac 127))) [.eU (.bm (.aa 3) .eP [(.aa 2)])] [.eU (.bm (.aa 3) .mc [(.bi ae .V [(.aP ae [(.ag (.ac 92)),(.a4 ae .Add (.ag (.ac 48)) (.a4 ae .FloorDiv (.aa 2) (.ag (.ac 64)))),(.a4 ae .Add (.ag (.ac 48)) (.a4 ae .Mod (.a4 ae .FloorDiv (.aa 2) (.ag (.ac 8))) (.ag (.ac 8)))),(.a4 ae .Add (.ag (.ac 48)) (.a4 ae .Mod (.aa 2) (.ag (.ac 8))))])])])]]]
   (fun I=>bt) [o0,h4,B (dL c),B (.bb hp.length)] (hp++[.er u]) P (fun d hp=>R d hp) P:=by
 have ty:k0 (hp++[ap.er u]) (.bb hp.length)=B .pK:=kl
 o_norm
 rw[eR] at h
 refine Ok (eW (fun a=>?_) fun a=>?_)
 ·rw[a] at h
  refine cf ty (ak rfl (ak (ai rfl) (uO (wP (b:=92) rfl (wP CD rfl)) (ai rfl) (ak ty (XK (ao (dR bP 2) (ai rfl)) h)))))
 ·have h:=a▸h
  refine wz (fun a=>?_) fun a=>?_
  ·rw[a] at h
   exact cf ty (ak rfl (ak ty (akZ (ao bP (ai rfl)) h)))
  ·rw[a] at h
   exact cf ty (ak rfl (ak ⟨by decide,ai rfl⟩ (ak ⟨by decide,ai rfl⟩ (ak (by decide) (ak (by decide) (ak (ai rfl) (uO (wP (b:=92) rfl (XJ c)) (ai rfl) (ak ty (XK (ao (dR bP 4) (ai rfl)) h)))))))))
theorem ak2 {p:aZ}{c:am}{o0 gw eM:ax D}{P:fL}(h:P [o0,B (.be (p&&s8 c)),B (dL c),eM] hp):
  dX ⟨l,call,b6,b5⟩ 58 [.bW 1 (.cA af [(.aa 1),(.jJ .Lt .Lt (.ag (.ac 32)) (.aa 2) (.ag (.ac 127))),(.aH .NotIn (.aa 2) (.ag (.V [34,39,35,36,37,59,126,92,123,125])))])]
   (fun I=>bt) [o0,B (.be p),B (dL c),eM] hp P (fun d hp=>R d hp) P:=by
 o_norm
 rw[s8] at h
 refine fu (Hc (fun a=>?_) fun a=>?_)
 ·have h:=a▸h
  refine akY (bQ:=fun v=>P [o0,B (.be v),B (dL c),eM] hp) (fun a=>?_) fun a=>?_
  ·rw[a] at h;exact akX h
  ·rw[a] at h;exact h
 ·rw[a] at h⊢;exact h
end
section
variable {K:a0}{call:ah→ah→J D→J ap→a0→(J ap→Prop)→Prop}{b:J am}
theorem Ol {α:Type}{u w t:J α}(e:u++w=t):u.length≤t.length:=e▸(cG ..).symm▸ed _ _
theorem Om (ay:b.length≤2000):(34::b.flatMap eR).length≤8001:=d8 (ao (HA b) (hR 4 ay))
theorem XM (ay:b.length≤2000)(h:K (.V (hN b)) hp):bx (l+1) 23 [.V b] hp K X:=
 cZ rfl (full:=[.V b]) rfl (loc:=[B (.V b),ab,ab,ab]) rfl fun call R aM hc r y=>by
  have XN:=ao ay (ai (b:=1000000) rfl)
  o_args
  refine rq ?_
  refine a6 (k:=1) rfl ?_
  refine ak XN ?_
  refine lb (σ:=aZ×ax D) dL (fun s=>[B (.V b),B (.be s.1),s.2,ab]) (fun I=>hp) (fun r s=>(s.1&&r.all s8)=uN b) (fun s i=>?_) (fun c q s i P bI=>?_) b (b !=[],ab) rfl
  ·have i:=(IH s.1).symm.trans i
   refine Y i ?_
   rw[hN] at h
   refine a6 (k:=2) rfl ?_
   o_norm
   refine fu (eW (fun a=>?_) fun a=>?_)
   ·have h:=a▸h;exact r (cm rfl h)
   ·have h:=a▸h
    refine a6 (k:=3) rfl ?_
    refine ak (ai rfl) ?_
    refine a6 (k:=4) rfl ?_
    refine ak XN ?_
    refine lb (σ:=J am×ax D) dL (fun t=>[B (.V b),B (.be (uN b)),t.2,B (.bb hp.length)]) (fun t=>hp++[.er t.1]) (fun r t=>t.1++r.flatMap eR=34::b.flatMap eR) (fun t j=>?_) (fun c q t j P bI=>?_) b ([34],s.2) rfl
    ·have j:=(en _).symm.trans j
     refine a6 (k:=5) rfl ?_
     o_norm
     refine ak0 ?_ ?_
     ·exact Y j (ao (Om ay) (ai rfl))
     refine ak ?_ ?_
     ·exact Y j (ao (d8 (Om ay)) (ai rfl))
     ·exact Y j (r (wA cy h))
    ·exact ak1 (l:=l) (call:=call) (R:=R) (ao (Ol j) (ao (Om ay) (ai rfl))) (bI (_,_) (Y (dE ..) (cN (rO ..) j)))
  ·exact ak2 (l:=l) (call:=call) (R:=R) (gw:=s.2) (bI (_,_) ((Bool.and_assoc ..).trans i))
theorem XO {a:aq}:a9 (a < 127)=a9 (a≤126):=x8.mpr (Int.lt_add_one_iff (b:=126))
theorem ak3 {a:aq}:a9 (33≤a)=a9 (32 < a):=x8.mpr (Int.lt_iff_add_one_le (a:=32)).symm
theorem ak4:(!(a9 ((33:aq)≤c.toNat)&&a9 ((c.toNat:Int)≤126))||wO [34,39,35,36,37,59,126,92,123,125] c)=!s8 c:=by
 rw[s8,XO,ak3]
 induction(a9 ((32:aq) < c.toNat)&&a9 ((c.toNat:aq)≤126))with
 |true=>exact(z7 _).symm
 |false=>rfl
theorem ak5 (h:F q.isEmpty):eg .Eq (.aP q) (.aP []) hp F:=cf (a:=q) (o:=gB hp (.aP q)) (F:=fun l=>F l.isEmpty) rfl h
theorem XQ {q:J am}:((q.filter fun c=>!p c).map dL).isEmpty=q.all p:=by
 induction q with
 |nil=>rfl
 |cons c q az=>
  refine Y om (Y xz ?_)
  induction p c with
  |true=>exact az
  |false=>rfl
theorem ak6 {F:aZ→Prop}(h:F v):ei (v==af) (F af) (F v):=by induction v with|true=>exact h|false=>exact h
theorem ak7 (ay:b.length≤2000)(h:F (uN b) hp):jl ⟨l,call,b6,b5⟩ 58 (.cA af [(.aH .NotEq (.aa 0) (.ag (.V []))),(.aH .Eq (.lc (.aa 0) [0] (.c0 (.aa 0)) [(.cA ae [(.jI (.jJ .LtE .LtE (.ag (.ac 33)) (.aa 0) (.ag (.ac 126)))),(.aH .In (.aa 0) (.ag (.V [34,39,35,36,37,59,126,92,123,125])))])] [ab]) (.aP ae []))]) aM [B (.V b),h4,gw] hp F:=by
 o_norm
 refine rq ?_
 rw[uN] at h
 refine Hc (fun a=>?_) fun a=>?_
 ·rw[a] at h
  refine ak (ao ay (ai (b:=1000000) rfl)) ?_
  refine lf (σ:=J am×ax D) dL (fun s=>s.1.map dL) (fun s=>[s.2]) (fun I=>hp) (fun r s=>s.1++r.filter (fun c=>!s8 c)=b.filter fun c=>!s8 c) (fun s i=>?_) (fun c q s i P bI=>?_) b ([],ab) rfl
  ·have i:=(en _).symm.trans i
   exact ak (ai rfl) (ak5 (Y i (Y XQ (ak6 (F:=fun v=>F v hp) h))))
  ·rw[om] at i
   have cv:∀z,(!s8 c)=z→ei z (P (s.1.map dL++[dL c]) [B (dL c)] hp) (P (s.1.map dL) [B (dL c)] hp):=fun z e=>by
    rw[e] at i
    induction z with
    |true=>
     have bI:=bI (s.1++[c],B (dL c)) ((dE ..).trans i)
     rw[eS] at bI;exact bI
    |false=>exact bI (s.1,B (dL c)) i
   o_norm
   rw[←ak4] at cv
   refine zi ?_
   revert cv
   induction a9 ((33:aq)≤c.toNat)with
   |false=>exact fun cv=>cv af rfl
   |true=>
    intro cv
    refine cI rfl (zi ?_)
    revert cv
    induction a9 ((c.toNat:aq)≤126)with
    |false=>exact fun cv=>cv af rfl
    |true=>
     intro cv
     refine cI rfl (Ok ?_)
     revert cv
     induction wO [34,39,35,36,37,59,126,92,123,125] c with
     |true=>exact fun cv=>cv af rfl
     |false=>exact fun cv=>cv ae rfl
 ·rw[a] at h⊢;exact h
end
section
variable {K:a0}{R:a0}{call:ah→ah→J D→J ap→a0→(J ap→Prop)→Prop}
theorem ak8 (bP:u.length≤9000)(h:P [o0,B (dL c),B (.V (u++eR c))] hp):
  dX ⟨l,call,b6,b5⟩ 57 [.a7 (.aH .In (.aa 1) (.ag (.V [92,34,36]))) [.bW 2 (.a4 ae .Add (.a4 ae .Add (.aa 2) (.ag (.V [92]))) (.bi ae .V [(.aP ae [(.aa 1)])]))] [.a7 (.jJ .LtE .LtE (.ag (.ac 32)) (.aa 1) (.ag (.ac 126))) [.bW 2 (.a4 ae .Add (.aa 2) (.bi ae .V [(.aP ae [(.aa 1)])]))] [.bW 2 (.a4 ae .Add (.a4 ae .Add (.aa 2) (.ag (.V [92]))) (.bi ae .V [(.aP ae [(.a4 ae .Add (.ag (.ac 48)) (.a4 ae .FloorDiv (.aa 1) (.ag (.ac 64)))),(.a4 ae .Add (.ag (.ac 48)) (.a4 ae .Mod (.a4 ae .FloorDiv (.aa 1) (.ag (.ac 8))) (.ag (.ac 8)))),(.a4 ae .Add (.ag (.ac 48)) (.a4 ae .Mod (.aa 1) (.ag (.ac 8))))])]))]]]
   (fun I=>bt) [o0,B (dL c),B (.V u)] hp P (fun d hp=>R d hp) P:=by
 have aY:u.length+1≤16777216:=ao (dR bP 1) (ai rfl)
 have bu:∀w:J am,w.length≤4→(u++[92]).length+w.length≤16777216:=fun w hw=>Y cG (ao (eZ (dR bP 1) hw) (ai rfl))
 o_norm
 rw[eR,XO] at h
 refine Ok (eW (fun a=>?_) fun a=>?_)
 ·have h:=a▸h
  exact ak aY (ak (ai rfl) (uO (wP CD rfl) (ai rfl) (ak (bu _ (ai rfl)) (Y (dE ..) h))))
 ·have h:=a▸h
  refine wz (fun a=>?_) fun a=>?_
  ·rw[a] at h
   exact ak (ai rfl) (uO (wP CD rfl) (ai rfl) (ak aY h))
  ·rw[a] at h
   exact ak aY (ak ⟨by decide,ai rfl⟩ (ak ⟨by decide,ai rfl⟩ (ak (by decide) (ak (by decide) (ak (ai rfl) (uO (XJ c) (ai rfl) (ak (bu _ (ai rfl)) (Y (dE ..) h))))))))
theorem XR (ay:b.length≤2000)(h:K (.V (hN b)) hp):bx (l+1) 49 [.V b] hp K X:=
 cZ rfl (full:=[.V b]) rfl (loc:=[B (.V b),ab,ab]) rfl fun call R aM hc r y=>by
  have On:=ao (HA b) (hR 4 ay)
  rw[hN] at h
  refine a6 rfl (ak7 ay ?_)
  refine eW (fun a=>?_) fun a=>?_
  ·have h:=a▸h;exact r (cm rfl h)
  ·have h:=a▸h
   refine Hb (a6 (k:=1) rfl ?_)
   o_norm
   refine a6 (k:=2) rfl ?_
   refine ak (ao ay (ai rfl)) ?_
   refine lb (σ:=J am×ax D) dL (fun t=>[B (.V b),t.2,B (.V t.1)]) (fun t=>hp) (fun r t=>t.1++r.flatMap eR=b.flatMap eR) (fun t j=>?_) (fun c q t j P bI=>?_) b ([],ab) rfl
   ·have j:=(en _).symm.trans j
    refine a6 (k:=3) rfl ?_
    refine ak ?_ (ak ?_ ?_)
    ·exact Y j (ao (eH On 1) (ai rfl))
    ·exact Y j (Y cG (ao (d8 (eH On 1)) (ai rfl)))
    ·exact Y j (r (cm rfl h))
   ·exact ak8 (l:=l) (call:=call) (R:=R) (ao (Ol j) (ao On (ai rfl))) (bI (_,_) (Y (dE ..) (cN (rO ..) j)))
theorem ak9:∀n,n < 256→dF nK ((ly (AO ((n:ah):aq))).cps.toList.map fun c=>D.ac (c:ah))=B (hh n)∧(ly (AO ((n:ah):aq))).cps.size≤100∧(hh n).length≤100:=by decide+kernel
theorem HB (aA:n < 256)(h:K (.V (hh n)) hp):bx (l+1) 47 [.ac n] hp K X:=
 cZ rfl (full:=[.ac n]) rfl (loc:=[B (.ac n)]) rfl fun call R aM hc r y=>by
  have z:=ak9 n aA
  refine a6 rfl ?_
  refine ak (l3 aA (ai rfl)) (ak (ao z.2.1 (ai rfl)) ?_)
  revert z
  generalize(ly (AO (n:aq))).cps=x
  intro z
  refine lf (σ:=J ah×ax D) (fun c=>.aF ⟨#[c]⟩) (fun s=>s.1.map fun c=>D.ac (c:ah)) (fun s=>[s.2]) (fun I=>hp) (fun r s=>s.1++r=x.toList) (fun s i=>?_) (fun c q s i P bI=>?_) x.toList ([],ab) rfl
  ·have i:=(en _).symm.trans i
   o_norm
   rw[i]
   exact uO z.1 z.2.2 (r (cm rfl h))
  ·have bI:=bI (s.1++[c],B (.aF ⟨#[c]⟩)) ((dE ..).trans i)
   rw[eS] at bI;exact bI
end
inductive nf:bf×D→Prop
 |mk {k:ah}{b:J am}(hk:k < 256)(ay:b.length≤100):nf (.ac k,.V b)
structure uP (m:cn):Prop where
 ju:∀p∈m,nf p
 bJ:m.length < 60
noncomputable def uQ (k:aQ):aZ:=match k with| .fo=>ae| .iC=>ae| .jS=>ae|_=>af
inductive jT:aQ→D→Prop
 |fo (b:aZ):jT .fo (.be b)
 |iI {n:ah}(h:n < 256):jT .iC (.ac n)
 |eC {m:cn}(h:uP m):jT .jS (.a5 m)
 |fP {k:aQ}{b:J am}(e:uQ k=af)(h:b.length≤400):jT k (.V b)
noncomputable def gN (m:cn):J aq:=m.filterMap fun p=>Fp p.1
noncomputable def qj (m:cn)(i:aq):J am:=((cB m (.ac i)).bind D.f5).getD []
noncomputable def uR (d:D):J am:=match d with| .be b=>bD b [111,110] [111,102,102]| .ac n=>hh n.toNat| .V b=>b|_=>[]
noncomputable def lk (n:J am)(m:cn)(i:aq):J am:=n++[91]++hh i.toNat++[93,32]++hN (qj m i)
noncomputable def CY (n:J am)(d:D):J am:=n++[32]++hN (uR d)
noncomputable def iJ (n:J am)(d:D):J (J am):=bS d.mf (fun m=>bD m.isEmpty [n] ((ha (gN m)).map (lk n m))) [CY n d]
theorem XS (h:∀p∈m,nf p):dF (fun p:bf×D=>Fp p.1) m=B (gN m):=by
 induction m with
 |nil=>rfl
 |cons a m az=>
  induction(h a (.head _))with
  |mk hk ay=>
   show Ap _ (dF _ m)=_
   refine Y (az fun p q=>h p (.tail _ q)) ?_;rfl
theorem zw:(ha (gN m)).length≤m.length:=ao (eT (jw _).length_eq) (pj ..)
theorem zx (h:∀p∈m,nf p)(hi:i∈ha (gN m)):∃k:ah,i=k∧k < 256∧cB m (.ac i)=B (.V (qj m i))∧(qj m i).length≤100:=by
 refine(rM.mp ((jw _).mem_iff.mp hi)).elim fun p z=>?_
 have e:=h p z.1
 induction e with
 |@mk k b hk ay=>
  have e:(k:aq)=i:=bo z.2
  have s:(cB m (.ac i)).isSome=af:=i4.symm.trans (qu.mpr ⟨_,z.1,eO (bl bf.ac e)⟩)
  induction f:m.find? fun p=>a9 (p.1=bf.ac i)with
  |none=>rw[cB,f] at s;exact cr s dO
  |some q=>
   rw[qj,cB,f]
   induction(h q (tl f))with|mk _ Mw=>exact⟨k,e.symm,hk,rfl,Mw⟩
theorem Oo (l:J (J am)):kA G (l.map D.V):=by induction l with|nil=>trivial|cons b l az=>exact⟨cy,az⟩
theorem CZ (h:jT k d):(uR d).length≤400:=by
 induction h with
 |fo b=>induction b<;>exact ai rfl
 |iI h=>exact ao CK (ai rfl)
 |eC h=>exact ai rfl
 |fP e h=>exact h
section
variable {K:a0}{k:d4}
theorem XT (h:uP m)(z:K (.aP ((ha (gN m)).map .ac)) hp):j5 ae .fS [.a5 m] hp K:=by
 show bS (dF (fun p:bf×D=>tS p.1) m) _ _
 induction m with
 |nil=>exact ak (ai rfl) z
 |cons a m=>
  induction(h.ju a (.head _))with
  |mk _ _=>exact cf (XS h.ju) (ak (e6 (pj ..) (l3 h.bJ (ai rfl))) z)
theorem zy {k:aQ}(e:uQ k=af):(k.s=="flag")=ae∧(k.s=="number")=ae∧d6 k=ae:=by revert e;induction k<;>decide
theorem ala (av:jT k.bk d)(b0:d6 k.bk=ae)(h:K (.V (uR d)) hp):bx (l+2) 24 [k.d,d] hp K X:=
 cZ rfl (full:=[k.d,d]) rfl (loc:=[B k.d,B d]) rfl fun call R aM hc r y=>by
  induction k with|mk kk s f b=>
  have av:jT kk d:=av
  refine a6 rfl ?_
  o_norm
  induction av with
  |fo b=>exact ek (b:=af) rfl (by induction b<;>exact r (cm rfl h))
  |iI aA=>
   refine ek (b:=ae) rfl (a6 (k:=1) rfl ?_)
   o_norm
   exact ek (b:=af) rfl (hc (a8 _) (NF (l3 aA (ai rfl)) (r (cm rfl h))))
  |eC=>exact cr b0 (fun q=>dO q.symm)
  |fP e ay=>
   refine ek (zy e).1 (a6 (k:=1) rfl ?_)
   o_norm
   exact ek (zy e).2.1 (r (cm rfl h))
theorem qk (gH:dy x=B ky)(e:cB m ky=B d)(h:K d hp):g9 hp K (.a5 m) x:=show bF (dy x) fun k=>bF (cB m k) fun d=>K d hp from cf gH (cf e h)
theorem jT.zz {k:aQ}(h:jT k d)(a:d6 k=ae):d.mf=ab:=by
 induction h with
 |eC=>exact cr a (fun q=>dO q.symm)
 |fo=>rfl
 |iI=>rfl
 |fP=>rfl
theorem jT.jS {k:aQ}(h:jT k d)(a:d6 k=af):∃m,d=.a5 m∧uP m:=by
 induction h with
 |eC h=>exact⟨_,rfl,h⟩
 |fo=>exact nb a
 |iI=>exact nb a
 |fP e=>exact cr a fun q=>dO ((zy e).2.2.symm.trans q)
theorem zA (h:b.length≤de):(hN b).length≤4 *de+2:=ao (akV _) (dR (hR 4 h) 2)
theorem XU (aA:n.length≤18)(ay:(qj m i).length≤100):(n++[91]++hh i.toNat++[93,32]).length≤100:=Y cG (Y cG (Y cG (ao (dR (eZ (dR aA 1) CK) 2) (ai (a:=18+1+18+2) rfl))))
theorem alb (aA:n.length≤18)(av:jT (bG n).bk d)(h:K (.aP ((iJ n d).map .V)) hp):bx (l+3) 25 [.a5 eB,.V n,d] hp K X:=
 cZ rfl (full:=[.a5 eB,.V n,d]) rfl (loc:=[B (.a5 eB),B (.V n),B d,ab]) rfl fun call R aM hc r y=>by
  refine a6 rfl (hc (a8 _) (Xq (l:=l+1) ?_))
  revert av
  generalize bG n=k
  intro av
  refine a6 rfl ?_
  o_norm
  refine uI ?_
  refine Y zr ?_
  induction a:d6 k.bk with
  |false=>
   rw[iJ,av.zz a] at h
   refine cI rfl (ak (ao (dR aA 1) (ai (b:=16777216) rfl)) (hc (a8 _) (ala av a ?_)))
   refine hc (a8 _) (XM (l:=l+1) (ao (CZ av) (ai rfl)) ?_)
   refine ak ?_ (ak (ai rfl) (r (cm rfl h)))
   exact Y cG (ao (eZ (dR aA 1) (zA (CZ av))) (ai rfl))
  |true=>
   refine(av.jS a).elim fun m z=>?_
   have e:=z.1
   subst e
   have A:=z.2
   refine cW rfl (a6 (k:=2) rfl ?_)
   have h:K (.aP ((bD m.isEmpty [n] ((ha (gN m)).map (lk n m))).map .V)) hp:=h
   refine ak (ai rfl) (cf (a:=m) (o:=fK hp (.a5 m)) (F:=fun l=>ei l.isEmpty _ _) rfl (eW (fun c=>?_) fun c=>?_))
   ·rw[c] at h;exact ak (ai rfl) (r (cm rfl h))
   ·rw[c] at h
    refine Hb (a6 (k:=3) rfl ?_)
    o_norm
    refine XT A ?_
    refine ak ((cH ..).symm▸ao zw (ao (ir A.bJ) (ai rfl))) ?_
    refine lf (σ:=J aq×ax D) D.ac (fun s=>s.1.map fun i=>D.V (lk n m i)) (fun s=>[s.2,B (.V n),B (.a5 m)]) (fun I=>hp) (fun r s=>(∀i∈r,i∈ha (gN m))∧s.1++r=ha (gN m)) (fun s i=>?_) (fun c q s i P bI=>?_) (ha (gN m)) ([],ab) ⟨fun I=>id,rfl⟩
    ·have i:=(en _).symm.trans i.2
     refine Y i ?_
     rw[bD,vh] at h
     exact r (cm rfl h)
    ·induction zx A.ju (i.1 c (.head _))with|intro k g=>
     have bI:=bI (s.1++[c],B (.ac c)) ⟨fun j q=>i.1 j (.tail _ q),(dE ..).trans i.2⟩
     rw[eS] at bI
     have e:=g.1
     subst e
     o_norm
     refine ak (ao (dR aA 1) (ai (b:=16777216) rfl)) (hc (a8 _) (NF (l:=l+1) (l3 g.2.1 (ai rfl)) ?_))
     have jQ:=XU (m:=m) (i:=k) aA g.2.2.2
     refine ak ?_ (ak (ao (by rw[cG] at jQ;exact jQ) (ai (a:=100) rfl)) (qk rfl g.2.2.1 (hc (a8 _) (XM (l:=l+1) (ao g.2.2.2 (ai rfl)) ?_))))
     ·rw[cG,cG] at jQ;exact ao (ao (ed _ _) jQ) (ai (a:=100) rfl)
     ·refine ak ?_ bI
      exact ao (eZ jQ (zA g.2.2.2)) (ai (a:=100+(4 *100+2)) rfl)
end
noncomputable def e4 (m:cn):J (J am):=m.filterMap fun p=>tS p.1
abbrev HC (m:cn):Prop:=dF (fun p:bf×D=>tS p.1) m=B (e4 m)
inductive rx (vs:J cn)(n:J am):Prop
 |mk {d:D}(aA:lU n=B n∧n.length≤18)(e:d7 vs n=B d)(h:jT (bG n).bk d):rx vs n
noncomputable def ng (vs:J cn)(n:J am):J (J am):=iJ n ((d7 vs n).getD .aK)
theorem HD (h:jT k d):(iJ n d).length≤60:=by
 induction h with
 |fo=>exact ai rfl
 |iI=>exact ai rfl
 |fP=>exact ai rfl
 |@eC m h=>
  show(bD m.isEmpty [n] ((ha (gN m)).map (lk n m))).length≤60
  induction m.isEmpty with
  |true=>exact ai rfl
  |false=>exact Y (cH ..) (ao zw (ir h.bJ))
theorem hj.app (L:hj hp d vs):hj (hp++ex) d vs:=by
 induction L with
 |fj=>exact .fj
 |dN gI e t az=>exact .dN gI ((jC (gc.mp e).1).trans e) az
section
variable {K:a0}{call:ah→ah→J D→J ap→a0→(J ap→Prop)→Prop}{ns:J (J am)}
theorem XW (o:kA (· < hp.length) q)(k:K (.aP q) hp):kh hp K (.bb (hp++ex).length) (hp++ex++[.br q]):=.inr ⟨.aP q,hp,.jQ ((cG ..).symm▸ed ..) hg o,⟨rfl,fun i hi=>by refine Y (dE ..) (Y (jC hi) ?_);exact .pH⟩,k⟩
theorem wQ (e:fK hp o=B m)(b:HC m)(aw:(e4 m).length < 64)(h:K (.aP ((eV (e4 m)).map .V)) hp):j5 ae .fS [o] hp K:=by
 show Fq hp K o
 rw[Fq,e,bS,b];exact ak aw h
theorem uS (e:hp[i]?=B (.bv m)):fK hp (.bb i)=B m:=by show hp[i]?.bind ap.mf=_;refine e▸?_;rfl
theorem XX (hc:∀{aU f ds hp K X},aU≤l+3→bx aU f ds hp K X→call aU f ds hp K X)(L:hj hp (cx s p i) vs)(av:vs.length≤2)(ok:∀n∈ns,rx vs n)(aw:ns.length≤64)(r:kh hp K (.bb (hp++ex).length) (hp++ex++[.br ((ns.flatMap (ng vs)).map .V)])→R (.bb (hp++ex).length) (hp++ex++[.br ((ns.flatMap (ng vs)).map .V)]))(h:K (.aP ((ns.flatMap (ng vs)).map .V)) hp):S ⟨l+3,call,b6,b5⟩ aM R S3 2 58 [B (cx s p i),h4,B (.aP (ns.map .V)),eM,dt,ab] (hp++ex):=by
 refine a6 rfl ?_
 refine ak (ai rfl) ?_
 refine a6 (k:=3) rfl ?_
 refine ak ((cH ..).symm▸ao aw (ai rfl)) ?_
 refine lb (σ:=J (J am)×ax D) D.V (fun t=>[B (cx s p i),h4,B (.aP (ns.map .V)),t.2,dt,B (.bb (hp++ex).length)]) (fun t=>hp++ex++[.br (t.1.map .V)]) (fun q t=>(∀n∈q,n∈ns)∧t.1.length+60 *q.length≤60 *64∧t.1++q.flatMap (ng vs)=ns.flatMap (ng vs)) (fun t j=>?_) (fun n q t j P bI=>?_) ns ([],eM) ⟨fun I=>id,(iP _).symm▸hR 60 aw,rfl⟩
 ·have j:=(en _).symm.trans j.2.2
  exact a6 (k:=4) rfl (Y j (r (XW (Oo _) h)))
 ·induction ok n (j.1 n (.head _))with|@mk d aA e tW=>
  o_norm
  refine cf kl (ak rfl (ak rfl (hc (a8 _) (zu L.app.app av aA e (hc (a8 _) (alb aA.2 tW ?_))))))
  refine ak kl (Xn ?_ ?_)
  ·exact Y (cH ..) (Y (cH ..) (ao (eZ (ao (ed ..) j.2.1) (HD tW)) (ai rfl)))
  ·have bI:=bI (t.1++iJ n d,B (.V n)) ⟨fun x q=>j.1 x (.tail _ q),?_,?_⟩
   ·rw[eS] at bI;exact bI
   ·have z:=j.2.1
    rw[iO,tu] at z
    exact Y (cG ..) (Y (gd ..) (ao (eH (fQ _ _▸eH (HD tW) _) _) z))
   ·have z:=j.2.2
    rw[rO,←dE,ng,e] at z;exact z
theorem XY (L:hj hp (cx s p i) (v0::vs))(av:vs.length≤1)(gO:HC v0)(aw:v0.length < 60)(ok:∀n∈eV (e4 v0),rx (v0::vs) n)(h:K (.aP (((eV (e4 v0)).flatMap (ng (v0::vs))).map .V)) hp):bx (l+4) 26 [cx s p i] hp K X:=
 cZ rfl (full:=[cx s p i,.be ae]) rfl (loc:=[B (cx s p i),B (.be ae),ab,ab,ab,ab]) rfl fun call R aM hc r y=>by
  have o6:(e4 v0).length≤60:=ao (pj ..) (ir aw)
  o_args
  refine wQ (uS L.at) gO (e6 o6 (ai rfl)) ?_
  refine a6 rfl ?_
  have z:=XX (ex:=[]) (h4:=B (.be ae)) (eM:=ab) (dt:=ab) (aM:=aM) hc L (d8 av) ok (ao (eT (jw _).length_eq) (ao o6 (ai rfl))) r h
  rw[en] at z
  exact z
end
noncomputable def n7 (m:cn)(n:J am):cn:=cC m (.V n) (.be af)
noncomputable def kn:J (J am):=my.map (·.1)
noncomputable def nh (v0:cn):cn:=kn.foldl n7 ((eV (e4 v0)).foldl n7 [])
def n8 (m:cn):Prop:=∀p∈m,∃b,p.1=.V b
theorem n8.oy (h:n8 m):HC m:=by
 induction m with
 |nil=>rfl
 |cons a m az=>
  refine(h a (.head _)).elim fun b e=>?_
  show(tS a.1).bind (fun b=>(dF _ m).map (b::·))=_
  rw[e,az fun p q=>h p (.tail _ q),e4,e4,vd,e];rfl
theorem n8.gv (h:n8 m):n8 (cC m (.V n) v):=fun p q=>by
 rw[cC] at q
 by_cases a:(m.any fun p=>a9 (p.1=bf.V n))=af
 ·rw[b3 a] at q
  refine(h9.mp q).elim fun x z=>?_
  by_cases e:x.1=.V n
  ·rw[b3 e] at z;exact z.2▸⟨n,e⟩
  ·rw[bL e] at z;exact z.2▸h x z.1
 ·rw[bL a] at q
  exact(fE.mp q).elim (h p) fun q=>df.mp q▸⟨n,rfl⟩
theorem HE (ns:J (J am)):∀m,n8 m→n8 (ns.foldl n7 m)∧(ns.foldl n7 m).length≤m.length+ns.length:=by
 induction ns with
 |nil=>exact fun m h=>⟨h,a8 _⟩
 |cons n ns az=>exact fun m h=>⟨(az _ h.gv).1,ao (az _ h.gv).2 (ao (dR nc _) (eT (by rw[iO,gd,fQ 1])))⟩
section
variable {K:a0}
theorem alc:∀n∈kn,(eL n).isSome=af:=by decide
theorem Op:fZ o .dH=af:=by
 induction o with
 |none=>rfl
 |some s=>induction s<;>rfl
theorem ald (L:hj hp (cx .dH p i) (v0::vs))(av:vs.length≤1)(gO:n8 v0)(aw:v0.length≤20)(ok:∀n∈eV (e4 (nh v0)),rx (v0::vs) n)(h:K (.aP (((eV (e4 (nh v0))).flatMap (ng (v0::vs))).map .V)) hp):bx (l+4) 26 [cx .dH p i,.be af] hp K X:=
 cZ rfl (full:=[cx .dH p i,.be af]) rfl (loc:=[B (cx .dH p i),B (.be af),ab,ab,ab,ab]) rfl fun call R aM hc r y=>by
  have o6:(eV (e4 v0)).length≤20:=ao (eT (jw _).length_eq) (ao (pj ..) aw)
  have t1:=HE (eV (e4 v0)) [] (fun I=>dz)
  have nZ:=ao t1.2 (ao (eT (iP _)) o6)
  have sb:=HE kn _ t1.1
  have oW:(nh v0).length≤29:=ao sb.2 (dR nZ 9)
  o_args
  refine wQ (uS L.at) gO.oy (e6 (ao (pj ..) aw) (ai rfl)) ?_
  o_args
  refine fu (cI rfl ?_)
  refine ak ((cH ..).symm▸ao o6 (ai rfl)) ?_
  refine lf (σ:=cn×ax D) D.V (fun s=>s.1) (fun s=>[s.2]) (fun I=>hp) (fun r s=>s.1.length+r.length≤20∧r.foldl n7 s.1=(eV (e4 v0)).foldl n7 []) (fun s j=>?_) (fun n q s j P bI=>?_) (eV (e4 v0)) ([],ab) ⟨(iP _).symm▸o6,rfl⟩
  ·have e:s.1=(eV (e4 v0)).foldl n7 []:=j.2
   refine Y e ?_
   o_norm
   refine ak (ai rfl) ?_
   refine lb (σ:=cn×ax D) D.V (fun s=>[B (cx .dH p i),B (.be af),B (.aP ((eV (e4 v0)).map .V)),s.2,B (.bb hp.length),ab]) (fun s=>hp++[.bv s.1]) (fun r s=>(∀n∈r,n∈kn)∧s.1.length+r.length≤29∧r.foldl n7 s.1=nh v0) (fun s j=>?_) (fun n q s j P bI=>?_) kn (_,ab) ⟨fun I=>id,dR nZ 9,rfl⟩
   ·have e:s.1=nh v0:=j.2.2
    refine Y e ?_
    o_norm
    exact wQ (uS hg) sb.1.oy (e6 (ao (pj ..) oW) (ai rfl)) (XX (ex:=[.bv (nh v0)]) hc L (d8 av) ok (ao (eT (jw _).length_eq) (ao (ao (pj ..) oW) (ai rfl))) r h)
   ·have z:=alc n (j.1 n (.head _))
    induction f:eL n with
    |none=>have z:=f▸z;exact nb z
    |some k=>
     o_norm
     refine qk rfl (f▸(Ho (b:=n))) (hc (a8 _) (Xr (l:=l+2) ?_))
     refine Y Op ?_
     refine fu (cI rfl ?_)
     refine nd (kd:=.V n) rfl (ao (ao (ed ..) j.2.1) (ai (b:=1000) rfl)) (bI (n7 s.1 n,B (.V n)) ⟨fun x q=>j.1 x (.tail _ q),?_,j.2.2⟩)
     exact ao (dR nc _) (ao (eT (by rw[iO,gd,fQ 1])) j.2.1)
  ·refine ak (ao (ao (ed ..) j.1) (ai rfl)) (bI (n7 s.1 n,B (.V n)) ⟨?_,j.2⟩)
   exact ao (dR nc _) (ao (eT (by rw[iO,gd,fQ 1])) j.1)
end
section
variable {K:a0}{R:a0}{cells:J aq}{n:ah}
theorem ale {i:aq}(aA:0 < n):∃r:ah,i.fmod n=r∧r < n:=by
 have a:=Int.fmod_nonneg_of_pos i (h7.mpr aA)
 exact⟨(i.fmod n).toNat,(Int.toNat_of_nonneg a).symm,(P6 a).mpr (Int.fmod_lt_of_pos i (h7.mpr aA))⟩
theorem XZ {i:aq}{c gw:ax D}(aA:0 < n)(k:∀r:ah,r < n→R (.ac r) hp):R (.ac (i.fmod n)) hp:=(ale (i:=i) aA).elim fun r z=>z.1▸(k r z.2)
theorem f9 {i:ah}(e:q[i]?=B a)(bH:q.length≤1000000)(h:K a hp):g9 hp K (.aP q) (.ac i):=show bF (nJ hp (.aP q)) fun l=>bF (D.ac i).eK fun i=>(0≤i∧l.length≤1000000)∧bF l[i.toNat]? fun d=>K d hp from ak ⟨gY i,bH⟩ (cf e h)
theorem jU (bU:h≤900)(aA:xG 1 n=af)(X0:cells.length≤100)(k:∀r:ah,r < n→K (.ac r) (.br [.ac (h+1:ah)]::t)):bx (l+1) 38 [.aP (cells.map .ac),.bb 0,.ac n] (.br [.ac h]::t) K X:=
 cZ rfl (full:=[.aP (cells.map .ac),.bb 0,.ac n]) rfl (loc:=[B (.aP (cells.map .ac)),B (.bb 0),B (.ac n)]) rfl fun call R aM hc r y=>by
  have aA:=Ep aA
  have k:∀r:ah,r < n→R (.ac r) (.br [.ac (h+1:ah)]::t):=fun q e=>r (cm rfl (k q e))
  have zm:(n:aq)≠0:=fun q=>xE aA (vb.mp q)
  refine a6 rfl ?_
  refine ak ⟨Aa 0,ai rfl⟩ (ak ⟨Aa 0,ai rfl,ai rfl⟩ ?_)
  refine a6 (k:=1) rfl ?_
  refine ak ⟨Aa 0,ai rfl⟩ (ak ((cH ..).symm▸ao X0 (ai rfl)) (He (eW (fun a=>?_) fun a=>?_)))
  ·exact ak ⟨Aa 0,ai rfl⟩ (ak ⟨e6 (d8 bU) (ai rfl),jy rfl⟩ (ak ⟨by decide,ai rfl⟩ (ak zm (XZ (c:=ab) (gw:=ab) aA k))))
  ·refine Hb (a6 (k:=2) rfl ?_)
   refine ak ⟨Aa 0,ai rfl⟩ ?_
   have a:=ph.mp (r2 a)
   rw[cH] at a
   have lt:h < cells.length:=h7.mp (P1 (P8 h) a)
   refine cf (a:=.ac (h+1:ah)) rfl ?_
   o_norm
   refine sT ?_
   refine Y (Int.add_sub_cancel (h:aq) 1:((h+1:ah):aq) - 1=(h:ah)) ?_
   refine f9 (a:=.ac (cells[h])) (gP .. |>.trans (by refine(hQ lt)▸?_;rfl)) ((cH ..).symm▸ao X0 (ai rfl)) (ak zm ?_)
   exact XZ (c:=ab) (gw:=ab) aA k
end
noncomputable def C0 (k:d4):D:=.aW [.aF k.bk.s,zg k.e3,k.km,k.hz]
noncomputable def ll:cn:=my.map fun p=>(.V p.1,C0 p.2)
noncomputable def bs (l:J (J am)):D:=.aP (l.map .V)
noncomputable def X1:J (aQ×J (J am)):=[(.fo,[[111,110],[111,102,102],[121,101,115],[110,111],[49],[48],[109,97,121,98,101],[]]),(.oY,[[70,49],[77,45,120],[67,32,97]]),(.iC,[[48],[51,48],[55],[51,49],[45,49],[120],[49,48,48],[]]),(.qf,[[118,105],[101,109,97,99,115],[110,111,110,101],[101,109]]),
 (.lg,[[],[120,32,121],[112,108,97,105,110],[35,91,97,93,123,98,125],[34,113,34,32,92,32,36,49],[7,255,126],[37,59,39]]),(.ip,[[102,103,61,114,101,100],[98,111,108,100],[98,103,61,99,111,108,111,117,114,50,48,48,44,102,103,61,100,101,102,97,117,108,116],[110,111,110,101,32,98,111,108,100],[117,115,61,35,48,48,102,102,55,102],[98,111,108,100,100],[102,103,61,110,111,112,101]]),
 (.n4,[[114,101,100],[99,111,108,111,117,114,49,50],[35,48,97,48,98,48,99],[100,101,102,97,117,108,116],[99,111,108,111,117,114,50,53,54],[114,101,100,100,105,115,104]]),(.jS,[[97,44,98],[44,120,44,44,121,32,122],[],[111,110,101]])]
noncomputable def alf:cn:=X1.map fun p=>(.aF p.1.s,bs p.2)
noncomputable def hl (k:aQ):J (J am):=((X1.find? fun p=>p.1.s==k.s).map (·.2)).getD []
theorem alg (k:aQ):cB alf (.aF k.s)=B (bs (hl k)):=by induction k<;>rfl
noncomputable def ni (b:J am):J (J am):=(dC 44 b).filter fun w=>w !=[]
section
variable {K:a0}
theorem X2 (aw:m.length+w.length≤1000)(h:K .aK (hp++[.bv (jk m w)])):mg .tQ (.bb hp.length) [.a5 w] (hp++[.bv m]) K:=cf (a:=ap.bv m) hg (cf (a:=w) rfl (cf (a:=m) rfl (ak aw (Y sS h))))
theorem X3 (h:K (.a5 ll) hp):bx (l+1) 39 [] hp K X:=
 cZ rfl (full:=[]) rfl (loc:=[ab]) rfl fun call R aM hc r y=>by
  have gV:iH ll:=by repeat' (first|exact cy|refine ak ?_ ?_)
  have ty:∀{m:cn},k0 (hp++[.bv m]) (.bb hp.length)=B .bv:=kl
  have fin:∀{m:cn},m=ll→R (.bb hp.length) (hp++[.bv m]):=fun e=>e▸r (CR gV h)
  o_args
  repeat' (refine ak (ai rfl) ?_)
  o_args
  refine cf ty (ak rfl ?_)
  repeat' (refine ak (ai rfl) ?_)
  refine ak ty (X2 (ai rfl) ?_)
  o_args
  repeat' (refine ak (ai rfl) ?_)
  refine nd rfl (ai rfl) ?_
  o_args
  repeat' (refine ak (ai rfl) ?_)
  refine nd rfl (ai rfl) ?_
  o_args
  refine cf ty (ak rfl ?_)
  repeat' (refine ak (ai rfl) ?_)
  refine ak ty (X2 (ai rfl) ?_)
  o_args
  repeat' (refine ak (ai rfl) ?_)
  exact nd rfl (ai rfl) (r (CR (m:=ll) gV h))
theorem alh (h:K (bs (hl k)) hp):bx (l+1) 40 [.aF k.s] hp K X:=
 cZ rfl (full:=[.aF k.s]) rfl (loc:=[B (.aF k.s),ab]) rfl fun call R aM hc r y=>by
  o_args
  refine ak (ai rfl) (ak (ai rfl) (ak (ai rfl) ?_))
  o_args
  refine ak (ai rfl) (nd rfl (ai rfl) ?_)
  o_args
  refine ak (ai rfl) (nd rfl (ai rfl) ?_)
  o_args
  refine ak (ai rfl) (nd rfl (ai rfl) ?_)
  o_args
  refine ak (ai rfl) (nd rfl (ai rfl) ?_)
  o_args
  refine ak (ai rfl) (nd rfl (ai rfl) ?_)
  o_args
  refine ak (ai rfl) (nd rfl (ai rfl) ?_)
  o_args
  refine wI hg rfl (alg k) (r (wA (Oo _) h))
theorem X4 (ay:b.length≤500)(h:K (bs (ni b)) hp):bx (l+1) 41 [.V b] hp K X:=
 cZ rfl (full:=[.V b]) rfl (loc:=[B (.V b)]) rfl fun call R aM hc r y=>by
  refine a6 rfl ?_
  refine fX (ak rfl (ak rfl (ak (ao ay (ai rfl)) (ak ((cH ..).symm▸ao (sP _ _).1 (ao (d8 ay) (ai rfl))) ?_))))
  refine lf (σ:=J (J am)×ax D) D.V (fun s=>s.1.map D.V) (fun s=>[s.2]) (fun I=>hp) (fun r s=>s.1++r.filter (fun w=>w !=[])=ni b) (fun s i=>?_) (fun c q s i P bI=>?_) (dC 44 b) ([],ab) rfl
  ·have i:=(en _).symm.trans i
   exact Y i (r (cm rfl h))
  ·rw[om] at i
   o_norm
   refine rq (kN (fun a=>?_) fun a=>?_)
   ·rw[a,b3 rfl] at i
    have bI:=bI (s.1++[c],B (.V c)) ((dE ..).trans i)
    rw[eS] at bI;exact bI
   ·rw[a,bL dO] at i
    exact bI (s.1,B (.V c)) i
end
noncomputable def n9:D:=cx .dH .aK 1
noncomputable def Oq (s:Sc):D:=cx s n9 2
noncomputable def zB (s:Sc):cn:=[(.aF "table",.a5 ll),(.aF "scope",.aF s.s),(.aF "scopes",.aP [n9,Oq s]),(.aF "books",.aP [.bb 3,.bb 4])]
noncomputable def dY (s:Sc):D:=.a5 (zB s)
noncomputable def fC (w:aZ):ah:=bD w 1 0
noncomputable def dZ (s:Sc)(w:aZ):Sc:=bD w s .dH
noncomputable def eD (s:Sc)(w:aZ):D:=bD w (Oq s) n9
noncomputable def dT (w:aZ)(L0 L1:cn):J cn:=bD w [L1,L0] [L0]
structure hm (hp:J ap)(L0 L1:cn):Prop where
 v0:hp[1]?=B (.bv L0)
 v1:hp[2]?=B (.bv L1)
 pD:hp[3]?=B (.bv L0)
 jf:hp[4]?=B (.bv L1)
noncomputable def e5:J am:=[64,120]
def gW (n:J am):Prop:=(eL n).isSome=af∨n=e5
theorem zC:cB ll (.V n)=(eL n).map C0:=by
 rw[cB,ll,I9,Et,eL,Et];rfl
section
variable {K:a0}{call:ah→ah→J D→J ap→a0→(J ap→Prop)→Prop}
theorem hm.wy (H:hm hp L0 L1):hj hp (eD s w) (dT w L0 L1):=by
 induction w with
 |false=>exact .dN rfl H.v0 .fj
 |true=>exact .dN rfl H.v1 (.dN rfl H.v0 .fj)
theorem s9 (h:K (.a5 ll) hp):g9 hp K (dY s) (.aF "table"):=qk (m:=zB s) (ky:=.aF "table") rfl rfl h
theorem X5 (h:K (.aF s.s) hp):g9 hp K (dY s) (.aF "scope"):=qk (m:=zB s) (ky:=.aF "scope") rfl rfl h
theorem X6 (h:K (.aP [n9,Oq s]) hp):g9 hp K (dY s) (.aF "scopes"):=qk (m:=zB s) (ky:=.aF "scopes") rfl rfl h
theorem zD (h:K (.aP [.bb 3,.bb 4]) hp):g9 hp K (dY s) (.aF "books"):=qk (m:=zB s) (ky:=.aF "books") rfl rfl h
theorem C1 {i:ah}(e:q[i]?=B a)(bH:q.length≤1000000)(h:K a hp):g9 hp K (.aW q) (.ac i):=show bF (nJ hp (.aW q)) fun l=>bF (D.ac i).eK fun i=>(0≤i∧l.length≤1000000)∧bF l[i.toNat]? fun d=>K d hp from ak ⟨gY i,bH⟩ (cf e h)
theorem X7 (h:F (eL n).isSome):eg .In (.V n) (.a5 ll) hp F:=uB rfl (by rw[i4,zC,vk];exact h)
theorem X8 (h:R (((eL n).map d4.km).getD .aK) hp):S ⟨l,call,b6,b5⟩ aM R S5 1 59 [B (dY s),B (.ac (fC w)),B (.V n),eM] hp:=by
 refine a6 rfl ?_
 o_norm
 refine s9 (X7 ?_)
 have e:=zC (n:=n)
 induction f:eL n with
 |none=>rw[f] at h;exact h
 |some k=>
  rw[f] at h e
  exact cI rfl (s9 (qk rfl e (C1 (i:=2) (a:=k.km) rfl (ai rfl) h)))
theorem hC (e:(a==b)=v)(h:F v):eg .Eq (.aF a) (.aF b) hp F:=by show F _;exact e▸h
theorem ali:∀p∈my,p.2.e3.isSome=af:=by decide
theorem HF (h:eL n=B k):(n,k)∈my:=by
 refine(iu.mp h).elim fun p z=>?_
 have a:=xx z.1
 exact cN (show p=(n,k) from Jw (bf.V.inj (dg a)) z.2) (tl z.1)
theorem alj (h:eL n=B k):∃c,k.e3=B c:=iR.mp (ali _ (HF h))
theorem C2 {aQ:fL}(h:b d loc hp fun loc hp=>gk b ds loc hp aQ):gk b (d::ds) loc hp aQ:=h
theorem HG (H:hm hp L0 L1)(h:K ((d7 (dT w L0 L1) n).getD .aK) hp):bx (l+1) 43 [dY s,.ac (fC w),.V n] hp K X:=
 cZ rfl (full:=[dY s,.ac (fC w),.V n]) rfl (loc:=[B (dY s),B (.ac (fC w)),B (.V n),ab]) rfl fun call R aM hc r y=>by
  have turn:∀{i v} {Q:Prop},hp[i]?=B (.bv v)→(∀d,cB v (.V n)=B d→R d hp)→(cB v (.V n)=ab→Q)→eg .In (.V n) (.bb i) hp fun v=>ei v (g9 hp (fun d hp=>R d hp) (.bb i) (.V n)) Q:=fun {i v Q} e a b=>by
   refine o3 (x:=.V n) e rfl ?_
   refine Y i4 ?_
   induction q:cB v (.V n)with
   |none=>exact b q
   |some d=>exact wI e rfl q (a d q)
  refine a6 rfl ?_
  o_norm
  induction w with
  |false=>
   refine oZ (cW rfl ?_)
   refine zD ?_
   refine f9 (i:=0) rfl (ai rfl) ?_
   refine ak (ai rfl) (ak (ai rfl) ?_)
   refine C2 ?_
   o_norm
   refine turn H.pD (fun d e=>?_) fun e=>X8 (w:=ae) ?_
   ·rw[d7,dT,bD,firstO_c,e] at h;exact r (cm rfl h)
   ·rw[d7,dT,bD,firstO_c,e] at h;exact r (cm rfl h)
  |true=>
   refine oZ (cI rfl ?_)
   refine zD ?_
   refine f9 (i:=1) rfl (ai rfl) ?_
   refine zD ?_
   refine f9 (i:=0) rfl (ai rfl) ?_
   refine ak (ai rfl) (ak (ai rfl) ?_)
   refine C2 ?_
   o_norm
   refine turn H.jf (fun d e=>?_) fun e=>?_
   ·rw[d7,dT,bD,firstO_c,e] at h;exact r (cm rfl h)
   refine C2 ?_
   o_norm
   refine turn H.pD (fun d f=>?_) fun f=>X8 (w:=af) ?_
   ·rw[d7,dT,bD,firstO_c,e,bS,firstO_c,f] at h;exact r (cm rfl h)
   ·rw[d7,dT,bD,firstO_c,e,bS,firstO_c,f] at h;exact r (cm rfl h)
theorem HH (aA:gW n)(h:K (.be (fZ (bG n).e3 (dZ s w))) hp):bx (l+1) 44 [dY s,.ac (fC w),.V n] hp K X:=
 cZ rfl (full:=[dY s,.ac (fC w),.V n]) rfl (loc:=[B (dY s),B (.ac (fC w)),B (.V n)]) rfl fun call R aM hc r y=>by
  have h:=r (cm rfl h)
  refine a6 rfl ?_
  o_norm
  refine uH (fu (uA (fun a=>?_) fun a=>?_))
  ·refine Y a ?_
   have h:=(c9 a)▸h;exact h
  ·have z:(eL n).isSome=af:=aA.resolve_right fun q=>by have a:=q▸a;exact iV a
   induction w with
   |false=>
    rw[dZ,bD,Op] at h
    exact h
   |true=>
    refine oZ (fu (cI rfl ?_))
    refine X5 ?_
    induction s with
    |dH=>
     rw[dZ,bD,Op] at h
     exact h
    |iD=>
     refine hC (v:=ae) rfl (fu (cI rfl ?_))
     have e:=zC (n:=n)
     induction f:eL n with
     |none=>rw[f] at z;exact nb z
     |some k=>
      rw[f] at e
      rw[bG,f] at h
      refine(alj f).elim fun c g=>?_
      have h:R (.be (fZ k.e3 .iD)) hp:=h
      refine s9 ?_
      refine qk rfl e ?_
      refine C1 (i:=1) (a:=zg k.e3) rfl (ai rfl) ?_
      rw[g] at h⊢
      induction c with
      |iD=>exact h
      |dH=>exact h
end
noncomputable def uT:D:=.aF "bad"
noncomputable def HI (o:ax D):D:=o.getD uT
inductive ql:aQ→D→J am→ax D→Prop
 |X9 {o:J am}:ql .lg .aK o (B (.V o))
 |uU {kb o:J am}(hk:kb.length≤900):ql .lg (.V kb) o (B (.V (kb++o)))
 |Ya {kb o:J am}(hk:kb.length≤900)(e:c7 o jA=ae):ql .ip (.V kb) o (B (.V (bD (kb==[]) o (kb++[44]++o))))
 |Yb {kb o:J am}(e:c7 o jA=af):ql .ip (.V kb) o ab
 |eC {m:cn}{o:J am}(bZ:m.length≤400)(io:iH m):ql .jS (.a5 m) o (B (.a5 (lV (dC 44 o) m)))
 |fP {k:aQ}{d:D}{o:J am}(e:wM k=ae):ql k d o ab
section
variable {K:a0}{call:ah→ah→J D→J ap→a0→(J ap→Prop)→Prop}
theorem Ot (e:wM k=ae):(k.s=="octets")=ae∧(k.s=="style")=ae∧d6 k=ae:=by revert e;induction k<;>decide
theorem alk (m:cn):(((g0 (m.length+1)).filter fun k:ah=>!d2 m (.ac k)).map fun k:ah=>D.ac k)[0]?=B (.ac (hB m)):=by
 refine(Ob m).elim fun i e=>?_
 rw[gP,←List.head?_eq_getElem?,List.head?_filter,hB,e];rfl
theorem alm {d:D}(e:hp[i]?=B (.bv m))(aw:m.length≤1000000)(h:K (.ac m.length) hp):j5 ae .bJ [.bb i] hp K:=by
 show bS (fK hp (.bb i)) _ _
 exact Y (uS e) (ak aw h)
theorem Yc (L:J (J am))(h:F (!c7 n L)):eg .NotIn (.V n) (.aP (L.map .V)) hp F:=ak zh h
theorem aln {k:bf}(e:hp[i]?=B (.bv m))(gH:dy x=B k)(h:F (!d2 m k)):eg .NotIn x (.bb i) hp F:=o3 (F:=fun v=>F (!v)) e gH h
theorem alo (hc:∀{aU f ds hp K X},aU≤l+1→bx aU f ds hp K X→call aU f ds hp K X)(aA:o.length≤100)(bZ:m.length≤400)(io:iH m)(h:∀{bq},kh hp K (.bb hp.length) bq→R (.bb hp.length) bq)(k:K (.a5 (lV (dC 44 o) m)) hp):S ⟨l+1,call,b6,b5⟩ aM R S6 3 57 [B (.aF aQ.jS.s),B (.a5 m),B (.V o),eM,dt] hp:=by
 have C3:(ni o).length≤101:=ao (pk ..) (ao (sP 44 o).1 (d8 aA))
 refine a6 rfl (ak (ao bZ (ai rfl)) ?_)
 refine a6 (k:=4) rfl (hc (a8 _) (X4 (ao aA (ai rfl)) ?_))
 refine ak ((cH ..).symm▸ao C3 (ai rfl)) ?_
 refine lb (σ:=cn×ax D) D.V (fun s=>[B (.aF aQ.jS.s),B (.a5 m),B (.V o),B (.bb hp.length),s.2]) (fun s=>hp++[.bv s.1]) (fun r s=>s.1.length+r.length≤501∧iH s.1∧r.foldl o4 s.1=lV (dC 44 o) m) (fun s j=>?_) (fun n q s j P bI=>?_) (ni o) (m,dt) ⟨eZ bZ C3,io,rfl⟩
 ·have e:s.1=lV (dC 44 o) m:=j.2.2
  have f:=j.2.1
  rw[e] at f⊢
  exact a6 (k:=5) rfl (h (CR f k))
 ·have ln:s.1.length≤501:=ao (ed ..) j.1
  o_norm
  refine alm (d:=.aK) hg (ao ln (ai rfl)) ?_
  refine ak ⟨by omega,by omega⟩ ?_
  refine lf (σ:=J ah×ax D) (fun k:ah=>D.ac k) (fun t=>t.1.map fun k:ah=>D.ac k) (fun t=>[t.2,B (.bb hp.length)]) (fun I=>hp++[.bv s.1]) (fun r t=>t.1++r.filter (fun k:ah=>!d2 s.1 (.ac k))=(g0 (s.1.length+1)).filter fun k:ah=>!d2 s.1 (.ac k)) (fun t i=>?_) (fun c r t i Q dJ=>?_) (g0 (s.1.length+1)) ([],ab) rfl
  ·have i:=(en _).symm.trans i
   refine f9 (i:=0) (a:=.ac (hB s.1)) (i▸alk s.1) ?_ ?_
   ·exact Y (cH ..) (Y i (ao (pk ..) (rN▸ao (d8 ln) (ai rfl))))
   ·refine nd (kd:=.ac _) rfl (ao ln (ai rfl)) (bI (o4 s.1 n,B (.V n)) ⟨?_,CQ j.2.1 cy,j.2.2⟩)
    exact ao (dR nc _) (ao (eT (by rw[iO,gd,fQ 1])) j.1)
  ·rw[om] at i
   o_norm
   refine aln (x:=.ac c) hg rfl (kN (fun a=>?_) fun a=>?_)
   ·rw[a,b3 rfl] at i
    have dJ:=dJ (t.1++[c],B (.ac c)) ((dE ..).trans i)
    rw[eS] at dJ;exact dJ
   ·rw[a,bL dO] at i
    exact dJ (t.1,B (.ac c)) i
theorem alp (aA:o.length≤100)(z:ql k d o r)(h:K (HI r) hp):bx (l+2) 45 [.aF k.s,d,.V o] hp K X:=
 cZ rfl (full:=[.aF k.s,d,.V o]) rfl (loc:=[B (.aF k.s),B d,B (.V o),ab,ab]) rfl fun call R aM hc r y=>by
  have h0:=h
  have h:=r (cm rfl h)
  have big:∀{kb:J am},kb.length≤900→kb.length+1≤16777216∧(kb++[44]).length+o.length≤16777216∧kb.length+o.length≤16777216:=fun {kb} hk=>by exact Y cG (⟨ao (dR hk 1) (ai rfl),ao (eZ (dR hk 1) aA) (ai rfl),ao (eZ hk aA) (ai rfl)⟩)
  refine a6 rfl ?_
  o_norm
  induction z with
  |X9=>exact ek (b:=af) rfl (ak rfl (ak (ao (eH aA 0) (ai (a:=0+100) rfl)) h))
  |uU hk=>exact ek (b:=af) rfl (ak rfl (ak (big hk).2.2 h))
  |fP e=>
   refine ek (Ot e).1 (a6 (k:=1) rfl ?_)
   o_norm
   refine ek (Ot e).2.1 ?_
   refine cW rfl (cW rfl (a6 (k:=2) rfl ?_))
   o_norm
   exact uI (Y zr (Y ((Ot e).2.2) h))
  |@Ya kb _ hk e=>
   refine ek (b:=ae) rfl (a6 (k:=1) rfl ?_)
   o_norm
   refine ek (b:=af) rfl ?_
   refine cI rfl (hc (a8 _) (Hf ?_))
   refine Yc jA ?_
   refine Y e ?_
   refine cI rfl (uH ?_)
   refine eW (fun a=>?_) fun a=>?_
   ·rw[a] at h;exact h
   ·rw[a] at h;exact ak (big hk).1 (ak (big hk).2.1 h)
  |@Yb kb _ e=>
   refine ek (b:=ae) rfl (a6 (k:=1) rfl ?_)
   o_norm
   exact ek (b:=af) rfl (cI rfl (hc (a8 _) (Hf (Yc jA (Y e (cW rfl (cW rfl (a6 (k:=2) rfl h))))))))
  |@eC m _ bZ io=>
   refine ek (b:=ae) rfl (a6 (k:=1) rfl ?_)
   o_norm
   refine ek (b:=ae) rfl ?_
   refine cW rfl (cW rfl (a6 (k:=2) rfl ?_))
   o_norm
   exact uI (alo hc aA bZ io r h0)
end
noncomputable def o7 (c:am):aZ:=a9 ((48:aq)≤c.toNat)&&a9 ((c.toNat:aq)≤57)
noncomputable def uV (o:J am)(n:aq):aq:=o.foldl (fun n c=>10 *n+c.toNat - 48) n
theorem alq (o:J am):∀n,wB o n=bD (o.all o7) (.ac (uV o n)) .aK:=by
 induction o with
 |nil=>exact fun n=>rfl
 |cons c o az=>
  intro n
  rw[numGo_c,xz,az,o7]
  induction a9 ((48:aq)≤c.toNat)&&a9 ((c.toNat:aq)≤57)with
  |true=>rfl
  |false=>rfl
noncomputable def zE (o:J am)(lo hi:aq):ax D:=bD (o !=[]&&o.all o7) (bD (a9 (lo≤uV o 0)&&a9 (uV o 0≤hi)) (B (.ac (uV o 0))) ab) ab
theorem Yd {lo hi:aq}:lj .iC (.aW [.ac lo,.ac hi]) o=zE o lo hi:=by
 show(mA o).eK.bind (fun n=>bD (a9 (lo≤n)&&a9 (n≤hi)) (B (D.ac n)) ab)=_
 rw[mA,zE]
 induction o with
 |nil=>rfl
 |cons c o=>
  refine Y (Ky fun q=>nomatch vb.mp q:(((c::o).length:aq)==0)=ae) (Y (alq ..) ?_)
  induction(c::o).all o7 with
  |true=>rfl
  |false=>rfl
inductive ry:aQ→D→J am→ax D→Prop
 |fo {b:D}{o:J am}:ry .fo b o (bD (c7 o CS) (B (.be (c7 o uL))) ab)
 |iI {lo hi:aq}{o:J am}(h:o.length≤18):ry .iC (.aW [.ac lo,.ac hi]) o (zE o lo hi)
 |Ye {ij:J (J am)}{o:J am}:ry .qf (.aW (ij.map .V)) o (bD (c7 o ij) (B (.V o)) ab)
 |eC {b:D}{o:J am}:ry .jS b o (B (.a5 (jk [] ((ni o).zipIdx.map fun p=>(.ac p.2,.V p.1)))))
 |uU {b:D}{o:J am}:ry .lg b o (B (.V o))
 |fP {k:aQ}{b:D}{o:J am}(e:uQ k=af)(h:(k.s=="choice")=ae)(aj:(k.s=="octets")=ae):ry k b o (bD (c7 o jA) ab (B (.V o)))
section
variable {K:a0}{call:ah→ah→J D→J ap→a0→(J ap→Prop)→Prop}
abbrev ta (call:ah→ah→J D→J ap→a0→(J ap→Prop)→Prop)(aM:lE)(R:a0)(l i:ah)(k:aQ)(b:D)(o:J am)(hp:J ap):Prop:=S ⟨l+1,call,b6,b5⟩ aM R S4 i (60 - i) [B (.aF k.s),B b,B (.V o),ab,ab] hp
theorem alr {lo hi:aq}(bC:o.length≤18)(h:R (HI (zE o lo hi)) hp):ta call aM R l 1 .iC (.aW [.ac lo,.ac hi]) o hp:=by
 have Yf:=ao bC (ai (b:=1000000) rfl)
 refine a6 rfl ?_
 o_norm
 refine ek (b:=af) rfl ?_
 rw[zE] at h
 refine cI rfl (uH ?_)
 refine uA (fun a=>?_) fun a=>?_
 ·rw[c9 a] at h;exact Y a h
 ·have hA:(o !=[])=af:=bl (!·) a
  rw[hA,II] at h
  refine ak Yf ?_
  refine lf (σ:=J am×ax D) dL (fun s=>s.1.map dL) (fun s=>[s.2]) (fun I=>hp) (fun r s=>s.1++r.filter (fun c=>!o7 c)=o.filter fun c=>!o7 c) (fun s i=>?_) (fun c q s i P bI=>?_) o ([],ab) rfl
  ·have i:=(en _).symm.trans i
   refine Y i ?_
   refine ak (ai rfl) (cf (a:=(o.filter fun c=>!o7 c).map dL) (o:=gB hp (.aP _)) (F:=fun l=>ei ((!l.isEmpty)==ae) _ _) rfl ?_)
   refine Y XQ ?_
   induction f:o.all o7 with
   |false=>rw[f] at h;exact h
   |true=>
    have h:=f▸h
    refine cI rfl (ak Yf ?_)
    refine lb (σ:=aq×ax D) dL (fun s=>[B (.aF aQ.iC.s),B (.aW [.ac lo,.ac hi]),B (.V o),s.2,B (.ac s.1)]) (fun I=>hp) (fun r s=>(0≤s.1∧(s.1+1) *10 ^ r.length≤10 ^ 18)∧r.all o7=af∧uV r s.1=uV o 0) (fun s i=>?_) (fun c q s i P bI=>?_) o (0,ab) ⟨⟨by decide,W3 bC⟩,f,rfl⟩
    ·have e:s.1=uV o 0:=i.2.2
     refine Y e ?_
     o_norm
     refine C1 (i:=0) (a:=.ac lo) rfl (ai rfl) (zi ?_)
     refine eW (fun a=>?_) fun a=>?_
     ·rw[a] at h
      refine C1 (i:=1) (a:=.ac hi) rfl (ai rfl) (zi ?_)
      refine eW (fun a=>?_) fun a=>?_
      ·rw[a] at h;exact h
      ·rw[a] at h;exact h
     ·have h:=a▸h;exact h
    ·have z:=ct.mp ((xz ..).symm.trans i.2.1)
     exact ak ⟨jy rfl,W2 i.1.1 i.1.2⟩ (bI (10 *s.1+c.toNat - 48,_) ⟨(W1 i.1.1 i.1.2 z.1),z.2,i.2.2⟩)
  ·rw[om] at i
   have cv:∀z,(!o7 c)=z→ei z (P (s.1.map dL++[dL c]) [B (dL c)] hp) (P (s.1.map dL) [B (dL c)] hp):=fun z e=>by
    rw[e] at i
    induction z with
    |true=>
     have bI:=bI (s.1++[c],B (dL c)) ((dE ..).trans i)
     rw[eS] at bI;exact bI
    |false=>exact bI (s.1,B (dL c)) i
   o_norm
   refine zi ?_
   rw[o7] at cv
   revert cv
   induction a9 ((48:aq)≤c.toNat)with
   |false=>exact fun cv=>cv af rfl
   |true=>
    intro cv
    refine cI rfl (zi ?_)
    revert cv
    induction a9 ((c.toNat:aq)≤57)with
    |false=>exact fun cv=>cv af rfl
    |true=>exact fun cv=>cv ae rfl
theorem als {q:J (J am)}:sl (q.map .V)=q.zipIdx.map fun p=>D.aW [.ac p.2,.V p.1]:=by
 rw[sl,List.zipIdx_map,vh];rfl
theorem alt (q:J (J am×ah)):dF vP (q.map fun p=>D.aW [.ac p.2,.V p.1])=B (q.map fun p=>(.ac p.2,.V p.1)):=by
 induction q with
 |nil=>rfl
 |cons a q az=>exact Y h8 (wP rfl az)
theorem Yg (e:dF vP q=B aI)(aw:aI.length≤1000)(h:K (.a5 (jk [] aI)) hp):j5 ae .bv [.aP q] hp K:=show bF (gB hp (.aP q)) fun l=>bF (dF vP l) fun aI=>aI.length≤1000∧hX ae (.bv (jk [] aI)) (.a5 (jk [] aI)) hp K from cf (a:=q) rfl (cf e (ak aw h))
theorem Ou (e:uQ k=af):(k.s=="flag")=ae∧(k.s=="number")=ae∧(k.s=="array")=ae:=by revert e;induction k<;>decide
theorem alu (aA:o.length≤100)(z:ry k b o r)(h:K (HI r) hp):bx (l+2) 42 [.aF k.s,b,.V o] hp K X:=
 cZ rfl (full:=[.aF k.s,b,.V o]) rfl (loc:=[B (.aF k.s),B b,B (.V o),ab,ab]) rfl fun call R aM hc r y=>by
  have h:=r (cm rfl h)
  have s0:∀{k:aQ} {b:D},(k.s=="flag")=ae→ta call aM R l 1 k b o hp→ta call aM R l 0 k b o hp:=fun {k b} e h=>by
   refine a6 rfl ?_
   o_norm
   exact ek e h
  have s1:∀{k:aQ} {b:D},(k.s=="number")=ae→ta call aM R l 2 k b o hp→ta call aM R l 1 k b o hp:=fun {k b} e h=>by
   refine a6 rfl ?_
   o_norm
   exact ek e h
  have s2:∀{k:aQ} {b:D},(k.s=="choice")=ae→ta call aM R l 3 k b o hp→ta call aM R l 2 k b o hp:=fun {k b} e h=>by
   refine a6 rfl ?_
   o_norm
   exact ek e h
  have s3:∀{k:aQ} {b:D},(k.s=="array")=ae→ta call aM R l 4 k b o hp→ta call aM R l 3 k b o hp:=fun {k b} e h=>by
   refine a6 rfl ?_
   o_norm
   exact ek e h
  cases z with
  |fo=>
   refine a6 rfl ?_
   o_norm
   refine ek (b:=af) rfl ?_
   refine ak (ai rfl) (m6 CS ?_)
   refine eW (fun a=>?_) fun a=>?_
   ·rw[a] at h;exact ak (ai rfl) (m6 uL h)
   ·rw[a] at h;exact h
  |iI bC=>exact s0 rfl (alr bC h)
  |@Ye ij _=>
   refine s0 rfl (s1 rfl (a6 rfl ?_))
   o_norm
   refine ek (b:=af) rfl ?_
   refine cI rfl (m6 ij ?_)
   refine eW (fun a=>?_) fun a=>?_
   ·rw[a] at h;exact h
   ·rw[a] at h;exact h
  |eC=>
   have C3:(ni o).length≤101:=ao (pk ..) (ao (sP 44 o).1 (d8 aA))
   refine s0 rfl (s1 rfl (s2 rfl (a6 rfl ?_)))
   o_norm
   refine ek (b:=af) rfl ?_
   refine hc (a8 _) (X4 (ao aA (ai rfl)) ?_)
   refine cf (a:=(ni o).map .V) rfl (ak ((cH ..).symm▸ao C3 (ai rfl)) ?_)
   refine Y als ?_
   refine lf (σ:=J (J am×ah)×(ax D×ax D)) (fun p=>D.aW [.ac p.2,.V p.1]) (fun s=>s.1.map fun p=>D.aW [.ac p.2,.V p.1]) (fun s=>[s.2.1,s.2.2]) (fun I=>hp) (fun r s=>s.1++r=(ni o).zipIdx) (fun s i=>?_) (fun c q s i P bI=>?_) (ni o).zipIdx ([],ab,ab) rfl
   ·have i:=(en _).symm.trans i
    refine Y i ?_
    o_norm
    exact Yg (alt _) ((cH ..).symm▸Ql.symm▸ao C3 (ai rfl)) h
   ·have bI:=bI (s.1++[c],B (.ac c.2),B (.V c.1)) ((dE ..).trans i)
    rw[eS] at bI
    exact ak rfl (ak (ai rfl) bI)
  |uU=>
   refine s0 rfl (s1 rfl (s2 rfl (s3 rfl (a6 rfl ?_))))
   o_norm
   refine hc (a8 _) (Hf (WW jA ?_))
   refine kN (fun a=>?_) fun a=>?_
   ·exact h
   ·exact h
  |fP e aT aN=>
   refine s0 (Ou e).1 (s1 (Ou e).2.1 (s2 aT (s3 (Ou e).2.2 (a6 rfl ?_))))
   o_norm
   refine hc (a8 _) (Hf (WW jA ?_))
   refine kN (fun a=>?_) fun a=>?_
   ·have h:=a▸h
    refine uI ?_
    have aN:(k.s !="octets")=af:=bl (!·) aN
    exact Y aN h
   ·have h:=a▸h;exact h
end
inductive iK|gv|qm|eP|fq
noncomputable def iK.s:iK→aO
 | .gv=>"set" | .qm=>"unset" | .eP=>"append" | .fq=>"turn"
noncomputable def h6 (w:aZ):ah:=bD w 4 3
noncomputable def rz (w:aZ):ah:=bD w 2 1
noncomputable def eG (w:aZ)(L0 L1:cn):cn:=bD w L1 L0
inductive qo:iK→d4→D→J am→ax aq→ax D→Prop
 |fq {k:d4}{b:aZ}{o:J am}(e:lW k.bk=af):qo .fq k (.be b) o ab (B (.be !b))
 |Ov {k:d4}{d:D}{o:J am}{p:ax aq}(e:lW k.bk=ae):qo .fq k d o p ab
 |rA {k:d4}{d:D}{o:J am}{j:aq}(e:d6 k.bk=ae):qo .gv k d o (B j) ab
 |Yh {k:d4}{d:D}{o:J am}{j:aq}:qo .eP k d o (B j) ab
 |app {k:d4}{d:D}{o:J am}{r:ax D}(z:ql k.bk d o r):qo .eP k d o ab r
 |Hx {k:d4}{m:cn}{o:J am}{j:aq}(e:d6 k.bk=af)(io:iH m)(bZ:m.length≤400):qo .gv k (.a5 m) o (B j) (B (.a5 (cC m (.ac j) (.V o))))
 |Ow {k:d4}{d:D}{o:J am}{r:ax D}(z:ry k.bk k.hz o r):qo .gv k d o ab r
inductive uW:D→Prop
 |be (b:aZ):uW (.be b)
 |ac (i:aq):uW (.ac i)
 |V (b:J am):uW (.V b)
 |a5 (m:cn):uW (.a5 m)
section
variable {K:a0}{b2:iK}
theorem hm.gO (H:hm hp L0 L1):hp[h6 w]?=B (.bv (eG w L0 L1)):=by induction w with|true=>exact H.jf|false=>exact H.pD
theorem HJ (h:K (.bb (h6 w)) hp):g9 hp (fun a hp=>g9 hp K a (.ac (fC w))) (dY s) (.aF "books"):=by
 refine zD ?_
 induction w with
 |false=>exact f9 (i:=0) rfl (ai rfl) h
 |true=>exact f9 (i:=1) rfl (ai rfl) h
theorem alv (H:hm hp L0 L1)(k:K (.be ae) hp):bx (l+3) 46 [dY s,.ac (fC w),.aF b2.s,.aK,.V o,fp p] hp K X:=
 cZ rfl (full:=[dY s,.ac (fC w),.aF b2.s,.aK,.V o,fp p]) rfl (loc:=[B (dY s),B (.ac (fC w)),B (.aF b2.s),B .aK,B (.V o),B (fp p),ab,ab,ab,ab,ab,ab,ab]) rfl fun call R aM hc r y=>by
  refine a6 rfl ?_
  o_norm
  exact HJ (a6 (k:=1) rfl (ak rfl (r (cm rfl k))))
theorem alw (H:hm hp L0 L1)(aA:gW n)(f:fZ (bG n).e3 (dZ s w)=ae)(k:K (.be ae) hp):bx (l+3) 46 [dY s,.ac (fC w),.aF b2.s,.V n,.V o,fp p] hp K X:=
 cZ rfl (full:=[dY s,.ac (fC w),.aF b2.s,.V n,.V o,fp p]) rfl (loc:=[B (dY s),B (.ac (fC w)),B (.aF b2.s),B (.V n),B (.V o),B (fp p),ab,ab,ab,ab,ab,ab,ab]) rfl fun call R aM hc r y=>by
  refine a6 rfl ?_
  o_norm
  exact HJ (a6 (k:=1) rfl (ak rfl (hc (a8 _) (HH (l:=l+1) aA (f.symm▸(r (cm rfl k)))))))
theorem alx (aA:gW n):∃lX lY,(cB ll (.V n)).getD (.aW [.aF "octets",.aF "",.V [],.aW []])=.aW [.aF (bG n).bk.s,lX,lY,(bG n).hz]:=by
 rw[zC,bG]
 induction f:eL n with
 |none=>exact⟨_,_,rfl⟩
 |some k=>exact⟨_,_,rfl⟩
theorem aly (h:K ((cB m (.V n)).getD d) hp):mg .fv (.a5 m) [.V n,d] hp K:=h
abbrev uX (call:ah→ah→J D→J ap→a0→(J ap→Prop)→Prop)(aM:lE)(R:a0)(l i:ah)(s:Sc)(w:aZ)(b2:iK)(n o:J am)(p:ax aq)(k:d4)(lX lY now made:D)(hp:J ap):Prop:=
 S ⟨l+2,call,b6,b5⟩ aM R S7 i (60 - i) [B (dY s),B (.ac (fC w)),B (.aF b2.s),B (.V n),B (.V o),B (fp p),B (.bb (h6 w)),B (.aF k.bk.s),B lX,B lY,B k.hz,B now,B made] hp
theorem Ox (H:hm hp L0 L1)(aA:gW n)(f:fZ (bG n).e3 (dZ s w)=af)
  (h:∀{call R aM lX lY},(∀{aU f ds hp K X},aU≤l+2→bx aU f ds hp K X→call aU f ds hp K X)→(∀{d bq},kh hp K d bq→R d bq)→uX call aM R l 4 s w b2 n o p (bG n) lX lY ((d7 (dT w L0 L1) n).getD .aK) uT hp):bx (l+3) 46 [dY s,.ac (fC w),.aF b2.s,.V n,.V o,fp p] hp K X:=
 cZ rfl (full:=[dY s,.ac (fC w),.aF b2.s,.V n,.V o,fp p]) rfl (loc:=[B (dY s),B (.ac (fC w)),B (.aF b2.s),B (.V n),B (.V o),B (fp p),ab,ab,ab,ab,ab,ab,ab]) rfl fun call R aM hc r y=>by
  refine a6 rfl ?_
  o_norm
  refine HJ (a6 (k:=1) rfl ?_)
  o_norm
  refine ak rfl (hc (a8 _) (HH (l:=l+1) aA ?_))
  refine f▸?_
  refine fu (cI rfl (a6 (k:=2) rfl ?_))
  o_norm
  refine s9 ?_
  refine cf (a:=.bv) rfl (ak rfl (ak (ai rfl) (ak (ai rfl) (ak rfl ?_))))
  refine(alx aA).elim fun lX z=>?_;induction z with|intro lY z=>
  refine aly ?_
  refine Y z ?_
  refine ak rfl ?_
  refine a6 (k:=3) rfl ?_
  o_norm
  exact hc (a8 _) (HG (l:=l+1) H (ak (ai rfl) (ak rfl (h hc r))))
end
abbrev iL (m:cn):Prop:=(m.map (·.1)).Nodup
theorem HK (h:iL m)(q:p∈m):cB m p.1=B p.2:=by
 induction m with
 |nil=>exact dz q
 |cons a m az=>
  refine Y zt ?_
  have h:=mG.mp h
  rcases cV.mp q with rfl|q
  ·exact b3 rfl
  ·exact(bL fun(e:a.1=p.1)=>h.1 (e.symm▸xs (f:=(·.1)) q:a.1∈m.map (·.1))).trans (az h.2 q)
theorem HL (h:d2 m k=ae):cC m k v=m++[(k,v)]:=by rw[cC];exact bL fun q=>dO (h.symm.trans q)
theorem alz (r:cn):∀m,iL (m++r)→jk m r=m++r:=by
 induction r with
 |nil=>exact fun m I=>(en m).symm
 |cons a r az=>
  intro m h
  have e:m++a::r=(m++[a])++r:=(dE m [a] r).symm
  show jk (cC m a.1 a.2) r=_
  have f:d2 m a.1=ae:=DL.mpr fun q=>by
   rw[iL,eS,h8] at h
   exact(Ae.mp h).2.2 _ (Oa q) _ (.head _) rfl
  exact Y (HL f) ((az (m++[a]) (e▸h)).symm▸e.symm▸rfl)
theorem Oy (h:iL m):iL (kX m k):=(Qh.map _).nodup h
theorem alA (h:iL m):jk [] m=m:=alz m [] h
theorem alB (k:bf):dy k.d=B k:=by induction k<;>rfl
theorem alC (q:cn):dF vP (q.map fun p=>D.aW [p.1.d,p.2])=B q:=by
 induction q with
 |nil=>rfl
 |cons a q az=>exact Y h8 (wP (show(dy a.1.d).map (·,a.2)=B a by rw[alB];rfl) az)
section
variable {K:a0}{call:ah→ah→J D→J ap→a0→(J ap→Prop)→Prop}{b2:iK}
theorem alD (H:hp[h6 w]?=B (.bv m))(aw:m.length≤900)(z:wL m n p u)(dd:∀a,cB m (.V n)=B (.a5 a)→p.isSome=af→iL a∧∀p∈a,nf p)(h:R (.be af) (hp.set (h6 w) (.bv u))):uX call aM R l 4 s w .qm n o p k lX lY now uT hp:=by
 refine a6 rfl ?_
 o_norm
 refine hC (v:=af) rfl (cI rfl ?_)
 induction z with
 |hT=>
  exact ak rfl (cI rfl (cf (zv H) (ak rfl (ak (zv H) (Og H rfl (ao aw (ai rfl)) h)))))
 |no e=>
  exact ak rfl (cW rfl (o3 (x:=.V n) H rfl (Y i4 (Y e (XC H▸h)))))
 |@it j a e io bZ=>
  refine ak rfl (cW rfl ?_)
  refine o3 (x:=.V n) H rfl ?_
  refine Y i4 (Y e ?_)
  refine cI rfl (wI H rfl e (ak (ao bZ (ai rfl)) ?_))
  refine lf (σ:=cn×ax D) (fun p:bf×D=>p.1.d) (fun t=>t.1.map fun p=>D.aW [p.1.d,p.2]) (fun t=>[t.2,B (.bb (h6 w)),B (.V n),B (.ac j)]) (fun I=>hp) (fun r t=>(∀p∈r,p∈a)∧t.1++kX r (.ac j)=kX a (.ac j)) (fun t i=>?_) (fun c r t i P bI=>?_) a ([],ab) ⟨fun I=>id,rfl⟩
  ·have i:=(en _).symm.trans i.2
   exact Y i (Yg (alC _) (ao (pk ..) (ao bZ (ai rfl))) (Y (alA (Oy (dd a e rfl).1)) (uK (kd:=.V n) H rfl (ao aw (ai rfl)) h)))
  ·have mem:=i.1 c (.head _)
   have jx:=i.2
   induction((dd a e rfl).2 c mem)with
   |@mk c2 yC hk ay=>
    rw[kX,om] at jx
    o_norm
    refine wF ?_
    refine kN (fun f=>?_) fun f=>?_
    ·have g:a9 ((bf.ac (c2:ah))≠.ac j)=af:=eO fun q=>r3.mp f (bf.ac.inj q)
     rw[b3 g] at jx
     have bI:=bI (t.1++[_],B (.ac c2)) ⟨fun x q=>i.1 x (.tail _ q),(dE ..).trans jx⟩
     rw[eS] at bI
     refine wI H rfl e (qk rfl (HK (dd a e rfl).1 mem) (ak (ai rfl) bI))
    ·have g:¬ a9 ((bf.ac (c2:ah))≠.ac j)=af:=fun q=>dg q (bl bf.ac (qG.mp f))
     rw[bL g] at jx
     exact bI (t.1,B (.ac c2)) ⟨fun x q=>i.1 x (.tail _ q),jx⟩
theorem alE (z:uW d)(h:F ae):eg .Eq d uT hp F:=by
 induction z with
 |be=>exact ak rfl h
 |ac=>exact ak rfl h
 |V=>exact ak rfl h
 |a5 m=>exact ak rfl (cf (a:=m) rfl h)
theorem alF (h:R (.be ae) hp):uX call aM R l 6 s w b2 n o p k lX lY now uT hp:=a6 rfl h
theorem alG (H:hp[h6 w]?=B (.bv m))(aw:m.length≤900)(z:uW d)(h:R (.be af) (hp.set (h6 w) (.bv (cC m (.V n) d)))):uX call aM R l 6 s w b2 n o p k lX lY now d hp:=by
 refine a6 rfl ?_
 o_norm
 refine alE z (a6 (k:=7) rfl ?_)
 o_norm
 exact uK (kd:=.V n) H rfl (ao aw (ai rfl)) (a6 (k:=8) rfl h)
theorem alH (zF:(b2.s=="unset")=ae)(h:uX call aM R l 5 s w b2 n o p k lX lY now uT hp):uX call aM R l 4 s w b2 n o p k lX lY now uT hp:=by
 refine a6 rfl ?_
 o_norm
 exact hC zF (cW rfl h)
theorem Yi (hc:∀{aU f ds hp K X},aU≤l+2→bx aU f ds hp K X→call aU f ds hp K X)(H:hp[h6 w]?=B (.bv m))(aw:m.length≤900)(io:iH m)(bC:o.length≤100)(zF:(b2.s=="unset")=ae)(z:qo b2 k now o p r)(nb:∀d,r=B d→uW d)(lv:∀{d bq},kh hp K d bq→R d bq)(h:bS r (fun d=>K (.be af) (hp.set (h6 w) (.bv (cC m (.V n) d)))) (K (.be ae) hp)):uX call aM R l 4 s w b2 n o p k lX lY now uT hp:=by
 have fin:uX call aM R l 6 s w b2 n o p k lX lY now (HI r) hp:=by
  induction r with
  |none=>exact alF (lv (cm rfl h))
  |some d=>exact alG H aw (nb d rfl) (lv (cm (pl ..) h))
 refine alH zF ?_
 clear zF
 induction z with
 |@fq k b o e=>
  refine a6 rfl ?_
  o_norm
  exact hC (v:=af) rfl (cI rfl (ek (CT.trans e) (ak rfl fin)))
 |@Ov k d o p e=>
  refine a6 rfl ?_
  o_norm
  exact hC (v:=af) rfl (cI rfl (ek (CT.trans e) fin))
 |@rA k d o j e=>
  refine a6 rfl ?_
  o_norm
  exact hC (v:=ae) rfl (cW rfl (ak rfl (cI rfl (uI (Y zr (Y e fin))))))
 |@Yh k d o j=>
  refine a6 rfl ?_
  o_norm
  refine hC (v:=ae) rfl (cW rfl (ak rfl (cI rfl ?_)))
  refine uI ?_
  refine Y zr ?_
  cases d6 k.bk with
  |false=>exact fin
  |true=>
   exact cI rfl (hC (v:=af) rfl fin)
 |@app k d o r z=>
  refine a6 rfl ?_
  o_norm
  exact hC (v:=ae) rfl (cW rfl (ak rfl (cW rfl (cW rfl (hC (v:=af) rfl (cI rfl (hc (a8 _) (alp bC z fin))))))))
 |@Hx k a o j e dG b0=>
  refine a6 rfl ?_
  o_norm
  refine hC (v:=ae) rfl (cW rfl (ak rfl (cI rfl ?_)))
  refine uI ?_
  refine Y zr (Y e ?_)
  refine cI rfl (hC (v:=ae) rfl ?_)
  refine cI rfl (cW rfl ?_)
  refine hC (v:=ae) rfl ?_
  refine cW rfl (ak rfl (cI rfl (ak (ao b0 (ai rfl)) ?_)))
  have hi:=(gc.mp H).1
  refine nd (kd:=.ac j) rfl (ao b0 (ai rfl)) ?_
  refine a6 (k:=6) rfl ?_
  o_norm
  refine ak rfl (cf (uS hg) (a6 (k:=7) rfl ?_))
  o_norm
  refine uK (kd:=.V n) ((jC hi).trans H) rfl (ao aw (ai rfl)) ?_
  exact Y (IW _ _ hi) (a6 (k:=8) rfl (lv (XB hi cy io (CQ (v:=.V o) dG cy) h)))
 |@Ow k d o r z=>
  refine a6 rfl ?_
  o_norm
  exact hC (v:=ae) rfl (cW rfl (ak rfl (cW rfl (cW rfl (hC (v:=ae) rfl (cW rfl (ak rfl (cW rfl (hc (a8 _) (alu bC z fin))))))))))
end
section
variable {call:ah→ah→J D→J ap→a0→(J ap→Prop)→Prop}
noncomputable def wR:iK→ah
 | .qm=>16| .eP=>22|_=>15
noncomputable def wS (b2:iK)(op:D)(b o:J am):J D:=match b2 with| .qm=>[op,.V b]| .eP=>[op,.V b,.V o]| .fq=>[op,.V b,.aK]| .gv=>[op,.V b,.V o]
noncomputable abbrev lZ (cells:D)(s:Sc)(w:aZ)(i:ah)(sh:aZ)(c3:ah)(bY kd of c5 wT ask oa iA:ax D)(b2:iK):cD:=[B cells,B (.bb 0),B (dY s),B (.ac (fC w)),B (.ac i),B (.be sh),B (.ac c3),bY,kd,of,c5,wT,oa,ask,iA,B (eD s w),B (.aF b2.s)]
theorem alI (hc:∀{aU f ds hp K X},aU≤l+8→bx aU f ds hp K X→call aU f ds hp K X)(oa:∀{K:a0} {X:J ap→Prop},K (.be v) qU→bx (l+8) 46 [dY s,.ac (fC w),.aF b2.s,bY,.V o,fp pd] hp K X)(code:∀{K:a0} {X:J ap→Prop},bD v (K .aK sQ) (X sQ)→bx (l+7) (wR b2) (wS b2 (eD s w) b o) qU K X)(h:R (.be af) sQ):
  S ⟨l+8,call,b6,b5⟩ aM R kG 13 47 (lZ cells s w i sh c3 (B bY) kd of (B (fp pd)) wT (B (.V b)) ab (B (.V o)) b2) hp:=by
 have op:∀{F:J D→Prop},F [.a5 eB,.aF (dZ s w).s,bD w n9 .aK,.bb (rz w)]→Fs (eD s w) F:=fun f=>by induction w with|true=>exact ak rfl f|false=>exact ak rfl f
 have e:eD s w=.cO 1 [.a5 eB,.aF (dZ s w).s,bD w n9 .aK,.bb (rz w)]:=by induction w with|true=>rfl|false=>rfl
 have k9:∀{K:a0} {X:J ap→Prop},bD v (K .aK sQ) (X sQ)→call (l+7) (wR b2) (wS b2 (eD s w) b o) qU K X:=fun h=>hc (iQ _) (code h)
 have fin:bD v ((fun(I:D) hp=>R (.be (af==v)) hp) .aK sQ) ((fun hp=>R (.be (ae==v)) hp) sQ):=by induction v with|true=>exact h|false=>exact h
 refine a6 rfl ?_
 o_norm
 refine hc (a8 _) (oa (a6 (k:=14) rfl ?_))
 o_norm
 rw[e] at k9
 induction b2 with
 |qm=>
  exact hC (v:=af) rfl (cI rfl (op (k9 fin)))
 |eP=>
  refine hC (v:=ae) rfl (cW rfl (a6 (k:=15) rfl ?_))
  o_norm
  exact hC (v:=af) rfl (cI rfl (Y e (k9 fin)))
 |gv=>
  refine hC (v:=ae) rfl (cW rfl (a6 (k:=15) rfl ?_))
  o_norm
  refine hC (v:=ae) rfl (cW rfl (a6 (k:=16) rfl ?_))
  o_norm
  exact op (cf (a:=.V b) rfl (cf (a:=.aF iK.gv.s) rfl (hC (v:=ae) rfl (k9 fin))))
 |fq=>
  refine hC (v:=ae) rfl (cW rfl (a6 (k:=15) rfl ?_))
  o_norm
  refine hC (v:=ae) rfl (cW rfl (a6 (k:=16) rfl ?_))
  o_norm
  exact op (cf (a:=.V b) rfl (cf (a:=.aF iK.fq.s) rfl (hC (v:=af) rfl (k9 fin))))
end
noncomputable def Oz (b2:iK):aZ:=match b2 with| .gv=>af|_=>ae
noncomputable def zG (b2:iK):aZ:=match b2 with| .fq=>af|_=>ae
noncomputable def zH (b2:iK):aZ:=match b2 with| .qm=>af|_=>ae
theorem alJ {b2:iK}:(b2.s=="set")=Oz b2:=by induction b2<;>decide
theorem alK {b2:iK}:(b2.s=="turn")=zG b2:=by induction b2<;>decide
theorem alL {b2:iK}:(b2.s=="unset")=zH b2:=by induction b2<;>decide
noncomputable def wU (k:aQ)(b2:iK)(i c3:ah):aZ:=(d6 k&&a9 ((c3:aq) < 5))||(Oz b2&&(((c3:aq)==0)&&a9 ((i:aq) < 9)))
noncomputable def wV (k:aQ)(b2:iK)(i c3:ah):ax aq:=bD (wU k b2 i c3) (B (c3:ah)) ab
noncomputable def OA:J am:=[111,110,101,44,32,116,119,111]
noncomputable def o8:J (J am):=[[97,108],[100,101,112,116,104],[100,101,112,116,104,45],[108],[109,111,100],[112,114],[114,111,119],[115,104,97],[116,105,116],[64,120],[100,101,112],[122,122,122],[]]
noncomputable def wW (i:ah)(n:J am)(z:aZ):J am:=bD z (o8.getD i []) n
noncomputable def ob (k:aQ)(p:ax aq)(o:J am):J am:=bD (p.isSome&&d6 k) OA o
section
variable {call:ah→ah→J D→J ap→a0→(J ap→Prop)→Prop}{gX:aQ}{p:ax aq}
def oc (c:e9)(n:ah)(e:cS)(aM:lE)(loc:cD)(hp:J ap)(x:aZ):Prop:=∀G:aZ→J ap→Prop,G x hp→jl c n e aM loc hp G
theorem C4 (h:jl c f e aM loc hp fun v hp=>ei (v==q) (oE c f q es aM loc hp G) (G v hp)):oE c (f+1) q (e::es) aM loc hp G:=h
theorem OB (h:oE c f q es aM loc hp G):jl c (f+1) (.cA q es) aM loc hp G:=h
theorem OC (h:oc c (f+1) e aM loc hp y)(g:G y hp):oE c (f+2) q [e] aM loc hp G:=C4 (h _ (by induction q<;>induction y<;>first|exact g|exact aqX g))
theorem zI (aY:oc c (f+2) a1 aM loc hp x)(bu:x=af→oc c (f+1) a2 aM loc hp y):oc c (f+4) (.cA af [a1,a2]) aM loc hp (x&&y):=fun G g=>OB (C4 (aY _ (by
 revert bu g
 induction x with
 |false=>exact fun I g=>g
 |true=>exact fun bu g=>OC (bu rfl) g)))
theorem C5 (aY:oc c (f+2) a1 aM loc hp x)(bu:x=ae→oc c (f+1) a2 aM loc hp y):oc c (f+4) (.cA ae [a1,a2]) aM loc hp (x||y):=fun G g=>OB (C4 (aY _ (by
 revert bu g
 induction x with
 |true=>exact fun I g=>g
 |false=>exact fun bu g=>OC (bu rfl) g)))
theorem Yj (aY:oc c (f+3) a1 aM loc hp x)(bu:x=af→oc c (f+2) a2 aM loc hp y)(cu:x=af→y=af→oc c (f+1) AW aM loc hp z):oc c (f+5) (.cA af [a1,a2,AW]) aM loc hp (x&&(y&&z)):=fun G g=>OB (C4 (aY _ (by
 revert bu cu g
 induction x with
 |false=>exact fun I I g=>g
 |true=>exact fun bu cu g=>C4 (bu rfl _ (by
  revert cu g
  induction y with
  |false=>exact fun I g=>g
  |true=>exact fun cu g=>OC (cu rfl rfl) g)))))
theorem alM (h:S ⟨l+8,call,b6,b5⟩ aM R kG 8 52 (lZ cells s w i sh c3 (B bY) (B (.aF gX.s)) of (B (fp (wV gX b2 i c3))) ab ab ab (B (.V o)) b2) hp):
  S ⟨l+8,call,b6,b5⟩ aM R kG 7 53 (lZ cells s w i sh c3 (B bY) (B (.aF gX.s)) of ab ab ab ab (B (.V o)) b2) hp:=by
 refine a6 rfl ?_
 dsimp only[f6,bT]
 refine(show oc _ _ _ _ _ _ (wU gX b2 i c3) from C5 (x:=d6 gX&&a9 ((c3:aq) < 5)) (y:=Oz b2&&(((c3:aq)==0)&&a9 ((i:aq) < 9))) (zI ?_ ?_) (fun I=>Yj ?_ ?_ ?_)) _ ?_
 ·intro G g;o_norm;exact ek CV g
 ·intro _ G g;o_norm;exact mz g
 ·intro G g;o_norm;exact hC alJ g
 ·intro _ G g;o_norm;exact oZ g
 ·intro _ _ G g;o_norm;exact mz g
 rw[wV] at h
 revert h
 generalize wU gX b2 i c3=z
 intro h
 induction z with
 |true=>
  exact cI rfl (cf (a:=D.ac (c3:ah)) rfl h)
 |false=>
  exact cW rfl h
theorem alN (h:S ⟨l+8,call,b6,b5⟩ aM R kG 9 51 (lZ cells s w i sh c3 (B bY) (B (.aF gX.s)) of (B (fp p)) ab ab ab (B (.V (ob gX p o))) b2) hp):
  S ⟨l+8,call,b6,b5⟩ aM R kG 8 52 (lZ cells s w i sh c3 (B bY) (B (.aF gX.s)) of (B (fp p)) ab ab ab (B (.V o)) b2) hp:=by
 refine a6 rfl ?_
 dsimp only[f6]
 refine zI (x:=p.isSome) (y:=d6 gX) ?_ ?_ _ ?_
 ·intro G g;o_norm;exact ak rfl (Y Oh (Y (z7 ..) g))
 ·intro _ G g;o_norm;exact ek CV g
 rw[ob] at h
 refine eW (fun a=>?_) fun a=>?_
 ·rw[a] at h;exact h
 ·rw[a] at h;exact h
theorem alO {n:ax (J am)}(aA:∀b,n=B b→gW b)(hc:∀{aU f ds hp K X},aU≤l+8→bx aU f ds hp K X→call aU f ds hp K X)(h:bD ((bS n (fun n=>n==e5) ae&&zG b2)||(n.isSome&&(zH b2&&bS n (fun n=>!fZ (bG n).e3 (dZ s w)) ae))) (R (.be af) hp)
   (S ⟨l+8,call,b6,b5⟩ aM R kG 10 50 (lZ cells s w i sh c3 (B (bS n .V .aK)) (B (.aF gX.s)) of (B (fp p)) ab ab ab (B (.V o)) b2) hp)):
  S ⟨l+8,call,b6,b5⟩ aM R kG 9 51 (lZ cells s w i sh c3 (B (bS n .V .aK)) (B (.aF gX.s)) of (B (fp p)) ab ab ab (B (.V o)) b2) hp:=by
 refine a6 rfl ?_
 dsimp only[f6]
 refine C5 (x:=bS n (fun n=>n==e5) ae&&zG b2) (y:=n.isSome&&(zH b2&&bS n (fun n=>!fZ (bG n).e3 (dZ s w)) ae)) (zI (fun G g=>?_) ?_) (fun I=>Yj (fun G g=>?_) ?_ fun z I G g=>?_) _ ?_
 ·o_norm
  induction n with
  |none=>exact ak rfl g
  |some n=>
   exact uH (b:=e5) g
 ·intro _ G g;o_norm;exact hC alK g
 ·o_norm
  induction n with
  |none=>exact ak rfl g
  |some n=>exact ak rfl g
 ·intro _ G g;o_norm;exact hC alL g
 ·o_norm
  induction n with
  |none=>exact nb z
  |some n=>exact hc (a8 _) (HH (l:=l+7) (aA n rfl) g)
 ·revert h
  generalize((bS n (fun n=>n==e5) ae&&zG b2)||(n.isSome&&(zH b2&&bS n (fun n=>!fZ (bG n).e3 (dZ s w)) ae)))=z
  intro h
  induction z with
  |true=>exact h
  |false=>exact h
theorem alP {n:ax (J am)}(hi:i < 13)(ay:wW i (n.getD []) ((sh&&!p.isSome)||!n.isSome)=b)(h:∀wT,S ⟨l+8,call,b6,b5⟩ aM R kG 12 48 (lZ cells s w i sh c3 (B (bS n .V .aK)) (B (.aF gX.s)) of (B (fp p)) (B wT) (B (.V b)) ab (B (.V o)) b2) hp):
  S ⟨l+8,call,b6,b5⟩ aM R kG 10 50 (lZ cells s w i sh c3 (B (bS n .V .aK)) (B (.aF gX.s)) of (B (fp p)) ab ab ab (B (.V o)) b2) hp:=by
 refine a6 rfl ?_
 refine ak (ai rfl) ?_
 refine a6 (k:=11) rfl ?_
 dsimp only[f6,bT]
 refine C5 (x:=sh&&!p.isSome) (y:=!n.isSome) (zI (fun G g=>?_) fun I G g=>?_) (fun I G g=>?_) _ ?_
 ·o_norm;exact g
 ·o_norm;exact ak rfl (Y Oh g)
 ·o_norm
  refine ak rfl ?_
  induction n with
  |none=>exact g
  |some n=>exact g
 have put:∀{d:D},d=.V b→S ⟨l+8,call,b6,b5⟩ aM R kG 12 48 (lZ cells s w i sh c3 (B (bS n .V .aK)) (B (.aF gX.s)) of (B (fp p)) (B (bs o8)) (B d) ab (B (.V o)) b2) hp:=fun e=>e▸(h (bs o8))
 have e:(o8.map D.V)[i]?=B (.V (o8.getD i [])):=by
  refine Y gP (Y xr (Y (hQ (show i < o8.length from hi)) ?_));rfl
 induction f:((sh&&!p.isSome)||!n.isSome)with
 |true=>
  rw[f] at ay
  exact cI rfl (f9 (i:=i) e (ai rfl) (put (bl D.V ay)))
 |false=>
  rw[f] at ay
  refine cW rfl ?_
  induction n with
  |none=>rw[Option.isSome_none,Bool.not_false,va] at f;exact iV f
  |some n=>
   exact cf (a:=D.V n) rfl (put (bl D.V ay))
theorem alQ (hc:∀{aU f ds hp K X},aU≤l+8→bx aU f ds hp K X→call aU f ds hp K X)(ay:b.length≤18)(bq:∀j,p=B j→∃k:ah,j=k∧k < 256)(h:S ⟨l+8,call,b6,b5⟩ aM R kG 13 47 (lZ cells s w i sh c3 (B bY) (B (.aF gX.s)) of (B (fp p)) wT (B (.V (bS p (fun j=>b++[91]++hh j.toNat++[93]) b))) ab (B (.V o)) b2) hp):
  S ⟨l+8,call,b6,b5⟩ aM R kG 12 48 (lZ cells s w i sh c3 (B bY) (B (.aF gX.s)) of (B (fp p)) wT (B (.V b)) ab (B (.V o)) b2) hp:=by
 refine a6 rfl ?_
 o_norm
 induction p with
 |none=>exact ak rfl h
 |some j=>
  refine(bq j rfl).elim fun k z=>?_
  have e:=z.1
  subst e
  refine ak rfl (cI rfl ?_)
  refine ak (ao (dR ay 1) (ai rfl)) (hc (a8 _) (HB (l:=l+7) z.2 ?_))
  have oW:(b++[91]).length+(hh k).length≤18+1+18:=by exact Y cG (eZ (dR ay 1) CK)
  refine ak (ao oW (ai rfl)) (ak ?_ h)
  exact Y cG (ao (dR oW 1) (ai rfl))
end
noncomputable def OD:J (ax (J am)):=(eV kn).map B++[B e5,ab,ab,ab]
noncomputable def hO (i:ah):ax (J am):=OD.getD i ab
noncomputable def wX (o:ax (J am)):D:=bS o .V .aK
noncomputable def uY (o:ax (J am)):aQ:=bS o (fun n=>(bG n).bk) .lg
noncomputable def wY (i:ah):aQ:=uY (hO i)
theorem alR (h:r < 2):∃w,r=fC w:=by
 induction r with
 |zero=>exact⟨ae,rfl⟩
 |succ r=>induction r with
  |zero=>exact⟨af,rfl⟩
  |succ r=>exact cr h (mI.mpr (kt 2 r))
noncomputable def OE:J iK:=[.gv,.gv,.qm,.eP,.fq]
theorem alS (h:r < 5):∃b2:iK,(OE.map fun y=>D.aF y.s)[r]?=B (.aF b2.s):=⟨OE[r]'h,by refine Y gP (Y (hQ (show r < OE.length from h)) ?_);rfl⟩
theorem alT (h:i < 13):((eV (e4 ll)).map D.V++[.V e5,.aK,.aK,.aK])[i]?=B (wX (hO i)):=by
 show(OD.map wX)[i]?=_
 rw[gP,hO,xr,hQ (show i < OD.length from h)];rfl
theorem Yk:HC ll:=rfl
theorem alU:xG 1 (hl k).length=af∧(hl k).length≤1000:=by induction k<;>exact⟨rfl,ai rfl⟩
section
variable {K:a0}{call:ah→ah→J D→J ap→a0→(J ap→Prop)→Prop}{cells:J aq}
theorem Yl (h:K (eD s w) hp):g9 hp (fun a hp=>g9 hp K a (.ac (fC w))) (dY s) (.aF "scopes"):=by
 refine X6 ?_
 induction w with
 |false=>exact f9 (i:=0) rfl (ai rfl) h
 |true=>exact f9 (i:=1) rfl (ai rfl) h
theorem alV (hc:∀{aU f ds hp K X},aU≤l+8→bx aU f ds hp K X→call aU f ds hp K X)(bU:h≤900)(cL:cells.length≤100)(g:∀o of,o∈hl (uY n)→S ⟨l+8,call,b6,b5⟩ aM R kG 7 53 (lZ (.aP (cells.map .ac)) s w i sh c3 (B (wX n)) (B (.aF (uY n).s)) (B of) ab ab ab ab (B (.V o)) b2) (.br [.ac (h+1:ah)]::t)):
  S ⟨l+8,call,b6,b5⟩ aM R kG 4 56 (lZ (.aP (cells.map .ac)) s w i sh c3 (B (wX n)) ab ab ab ab ab ab ab b2) (.br [.ac h]::t):=by
 have off:S ⟨l+8,call,b6,b5⟩ aM R kG 5 55 (lZ (.aP (cells.map .ac)) s w i sh c3 (B (wX n)) (B (.aF (uY n).s)) ab ab ab ab ab ab b2) (.br [.ac h]::t):=by
  refine a6 rfl ?_
  o_norm
  refine hc (a8 _) (alh (l:=l+7) ?_)
  refine a6 (k:=6) rfl ?_
  o_norm
  have p:=alU (k:=uY n)
  refine ak ((cH ..).symm▸ao p.2 (ai rfl)) ?_
  refine Y (cH ..) ?_
  refine hc (a8 _) (jU (l:=l+7) bU p.1 cL fun r aL=>?_)
  refine f9 (a:=.V ((hl (uY n))[r])) (gP .. |>.trans (by refine Y (hQ aL) ?_;rfl)) ((cH ..).symm▸ao p.2 (ai rfl)) ?_
  exact g _ _ (Qt aL)
 refine a6 rfl ?_
 o_norm
 refine s9 ?_
 induction n with
 |none=>exact off
 |some n=>
  refine X7 ?_
  have e:=zC (n:=n)
  have f:uY (B n)=(bG n).bk:=rfl
  rw[f] at off
  rw[bG] at off
  induction q:eL n with
  |none=>rw[q] at off;exact off
  |some k=>
   rw[q] at off e
   exact cI rfl (s9 (qk rfl e (C1 (i:=0) (a:=.aF k.bk.s) rfl (ai rfl) off)))
theorem alW (hc:∀{aU f ds hp K X},aU≤l+8→bx aU f ds hp K X→call aU f ds hp K X)(bU:h≤890)(cL:cells.length≤100)
  (g:∀w i sh c3 b2 o of,i < 13→c3 < 8→o∈hl (wY i)→S ⟨l+8,call,b6,b5⟩ aM R kG 7 53 (lZ (.aP (cells.map .ac)) s w i sh c3 (B (wX (hO i))) (B (.aF (wY i).s)) (B of) ab ab ab ab (B (.V o)) b2) (.br [.ac (h+6:ah)]::t)):
  S ⟨l+8,call,b6,b5⟩ aM R kG 0 60 [B (.aP (cells.map .ac)),B (.bb 0),B (dY s),ab,ab,ab,ab,ab,ab,ab,ab,ab,ab,ab,ab,ab,ab] (.br [.ac h]::t):=by
 have hk:∀k,k≤10→h+k≤900:=fun k q=>eZ bU q
 refine a6 rfl ?_
 o_norm
 refine hc (a8 _) (jU (l:=l+7) (n:=2) (hk 0 (ai rfl)) rfl cL fun Ym h0=>?_)
 refine hc (a8 _) (jU (l:=l+7) (n:=13) (hk 1 (ai rfl)) rfl cL fun i hi=>?_)
 refine(alR h0).elim fun w e=>?_
 subst e
 refine ak (ai rfl) (ak rfl ?_)
 refine a6 (k:=1) rfl ?_
 o_norm
 refine ak (ai rfl) ?_
 refine hc (a8 _) (jU (l:=l+7) (n:=5) (hk 2 (ai rfl)) rfl cL fun fz aY=>?_)
 refine(alS aY).elim fun b2 aT=>?_
 refine f9 (i:=fz) aT (ai rfl) ?_
 refine hc (a8 _) (jU (l:=l+7) (n:=2) (hk 3 (ai rfl)) rfl cL fun mx bu=>?_)
 refine oZ (ak (ai rfl) (ak rfl ?_))
 generalize((mx:aq)==1)=sh
 refine a6 (k:=2) rfl ?_
 o_norm
 refine hc (a8 _) (jU (l:=l+7) (n:=8) (hk 4 (ai rfl)) rfl cL fun c3 cu=>?_)
 refine Yl (ak (ai rfl) (ak rfl ?_))
 refine a6 (k:=3) rfl ?_
 o_norm
 exact s9 (wQ rfl Yk (ai rfl) (ak (ai rfl) (ak (ai rfl) (f9 (i:=i) (alT hi) (ai rfl) (alV hc (hk 5 (ai rfl)) cL fun o of m=>g w i sh c3 b2 o of hi cu m)))))
end
def C6 (v:J am):Prop:=(hM (fA v)).isSome=af∧v.contains 123=ae
inductive eE (t:ah)(k:d4):D→Prop
 |eC {m:cn}(e:d6 k.bk=af)(a:uP m)(bY:iL m)(aw:m.length≤2+2 *t):eE t k (.a5 m)
 |c5 {d:D}(e:d6 k.bk=ae)(v:jT k.bk d)(r:lj k.bk k.hz (uR d)=B d)(o:rt k.bk (uR d))(aw:(uR d).length≤10+30 *t)(st:rv k.bk=af→C6 (uR d)):eE t k d
abbrev alX (sc:Sc)(t:ah)(L:cn):Prop:=∀p∈L,∃n,p.1=.V n∧gW n∧fZ (bG n).e3 sc=af∧eE t (bG n) p.2
structure cU (sc:Sc)(t:ah)(L:cn):Prop where
 bY:iL L
 nm:alX sc t L
 bJ:L.length≤t
theorem eE.up (h:eE t k d):eE (t+1) k d:=by
 induction h with
 |eC e a bY aw=>exact .eC e a bY (ao aw (eH (hR 2 (iQ t)) 2))
 |c5 e v r o aw st=>exact .c5 e v r o (ao aw (eH (hR 30 (iQ t)) 10)) st
theorem cU.up (h:cU sc t L):cU sc (t+1) L:=⟨h.bY,fun p q=>(h.nm p q).imp fun I z=>⟨z.1,z.2.1,z.2.2.1,z.2.2.2.up⟩,mH h.bJ⟩
theorem Yn (q:p∈cC m ky v):p∈m∨p=(ky,v):=by
 rw[cC] at q
 by_cases a:(m.any fun p=>a9 (p.1=ky))=af
 ·rw[b3 a] at q
  refine(h9.mp q).elim fun x z=>?_
  by_cases e:x.1=ky
  ·rw[b3 e] at z;exact .inr (z.2▸e▸rfl)
  ·rw[bL e] at z;exact .inl (z.2▸z.1)
 ·rw[bL a] at q
  exact(fE.mp q).imp id df.mp
theorem C7 (h:iL m):iL (cC m ky v):=by
 rw[cC]
 by_cases a:(m.any fun p=>a9 (p.1=ky))=af
 ·rw[b3 a,iL,vh]
  have e:((fun p:bf×D=>p.1)∘fun p=>if p.1=ky then(p.1,v)else p)=fun p=>p.1:=x9 fun p=>by
   show(if p.1=ky then(p.1,v)else p).1=p.1
   by_cases e:p.1=ky
   ·exact Y (b3 e) rfl
   ·exact Y (bL e) rfl
  exact Y e h
 ·rw[bL a,iL,eS]
  refine Ae.mpr ⟨h,.cons (fun I=>dz) .nil,fun x hx y eI q=>?_⟩
  exact(h9.mp hx).elim fun p z=>a (qu.mpr ⟨p,z.1,eO (z.2.trans (q.trans (df.mp eI)))⟩)
theorem cU.gv (h:cU sc t L)(aA:gW n)(f:fZ (bG n).e3 sc=af)(v:eE (t+1) (bG n) d):cU sc (t+1) (cC L (.V n) d):=
 ⟨C7 h.bY,fun p q=>(Yn q).elim (fun q=>h.up.nm p q) fun e=>e▸⟨n,rfl,aA,f,v⟩,ao nc (d8 h.bJ)⟩
theorem cU.alY (h:cU sc t L):cU sc (t+1) (kX L ky):=⟨Oy h.bY,fun p q=>h.up.nm p (tq.mp q).1,ao (pk ..) (mH h.bJ)⟩
theorem cU.gO (h:cU sc t L):n8 L:=fun p q=>(h.nm p q).imp fun I z=>z.1
theorem alZ (e:cB m ky=B v):(ky,v)∈m:=by
 induction f:m.find? fun p=>a9 (p.1=ky)with
 |none=>rw[cB,f] at e;exact nn e
 |some p=>
  rw[cB,f] at e
  have a:=xx f
  exact cN (show p=(ky,v) from Jw (dg a) (bo e)) (tl f)
theorem cU.at (h:cU sc t L)(e:cB L (.V n)=B d):gW n∧fZ (bG n).e3 sc=af∧eE t (bG n) d:=by
 refine(h.nm _ (alZ e)).elim fun x z=>?_
 have e:=bf.V.inj z.1
 subst e;exact z.2
theorem tb (h:uP m):iH m:=wJ.mpr fun p q=>by
 induction(h.ju p q)with|mk=>trivial
theorem al0 (h:jT k d):je (fun I=>bt) d:=by
 induction h with
 |eC h=>exact tb h
 |fo=>trivial
 |iI=>trivial
 |fP=>trivial
theorem eE.gV (h:eE t k d):je (fun I=>bt) d:=by
 induction h with
 |eC e a=>exact tb a
 |c5 e v=>exact al0 v
theorem eE.C8 (h:eE t k d):jT k.bk d:=by
 induction h with
 |eC e a=>
  have z:k.bk=.jS:=by revert e;induction k.bk<;>first|exact fun I=>rfl|exact nb
  exact Y z (.eC a)
 |c5 e v=>exact v
theorem cU.gV (h:cU sc t L):iH L:=wJ.mpr fun p q=>(h.nm p q).elim fun I z=>z.2.2.2.gV
theorem Yo (h:eL n=B k):eE 0 k k.km:=by
 have all:∀p∈my,eE 0 p.2 p.2.km:=by
  have b:∀{k:d4} {v:J am},k.km=.V v→d6 k.bk=ae→uQ k.bk=af→lj k.bk k.hz v=B (.V v)→rt k.bk v→v.length≤10→(rv k.bk=af→C6 v)→eE 0 k k.km:=fun e a c r o l s=>e▸.c5 a (.fP c (ao l (ai rfl))) r o l s
  refine fa.mpr ⟨.c5 rfl (.fo _) rfl ⟨ai rfl,cy⟩ (ai rfl) nb,fa.mpr ⟨.c5 rfl (.iI (n:=3) (ai rfl)) rfl ⟨ai rfl,ai rfl⟩ (ai rfl) nb,fa.mpr ⟨.c5 rfl (.iI (n:=9) (ai rfl)) rfl ⟨ai rfl,ai rfl⟩ (ai rfl) nb,
   fa.mpr ⟨b rfl rfl rfl rfl ⟨ai rfl,fun w m e=>cr (df.mp m) e⟩ (ai rfl) fun I=>⟨rfl,rfl⟩,fa.mpr ⟨b rfl rfl rfl rfl ⟨ai rfl,cy⟩ (ai rfl) nb,fa.mpr ⟨b rfl rfl rfl rfl ⟨ai rfl,cy⟩ (ai rfl) nb,
   fa.mpr ⟨.eC rfl ⟨fun p q=>(cV.mp q).elim (fun e=>e▸.mk (k:=0) (ai rfl) (ai rfl)) fun q=>df.mp q▸.mk (k:=2) (ai rfl) (ai rfl),ai rfl⟩ (by decide) (ai rfl),fa.mpr ⟨b rfl rfl rfl rfl ⟨ai rfl,ai rfl⟩ (ai rfl) nb,fa.mpr ⟨b rfl rfl rfl rfl ⟨ai rfl,cy⟩ (ai rfl) nb,(fun I=>dz)⟩⟩⟩⟩⟩⟩⟩⟩⟩
 exact all _ (HF h)
noncomputable def nj (n:J am)(j:ah):J am:=n++[91]++hh j++[93]
noncomputable def wZ (s:Sc)(b n:J am)(p:ax aq)(z:aZ):aZ:=((eX s b).map fun t=>(t.1,t.2.1))==bD z (B (n,p)) ab&&a9 (b.length≤18)
noncomputable def OF (i:ah)(n:J am)(s:Sc):aZ:=wZ s n n ab (fZ (bG n).e3 s)&&wZ s (o8.getD i []) n ab (fZ (bG n).e3 s)&&(g0 8).all fun j=>wZ s (nj n j) n (B (j:ah)) (fZ (bG n).e3 s&&d6 (bG n).bk)
noncomputable def OG (i:ah):aZ:=bS (hO i) (fun n=>OF i n .iD&&OF i n .dH) ((eX .iD (o8.getD i [])).isNone&&(eX .dH (o8.getD i [])).isNone&&a9 ((o8.getD i []).length≤18∧9 < i))
theorem Yp:∀i,i < 13→OG i=af:=by decide+kernel
theorem zJ (h:wZ s b n p z=af):b.length≤18∧bD z (eX s b=B (n,p,bG n)) (eX s b=ab):=by
 have h:=ct.mp h
 have l:=dg h.2
 have e:=c9 h.1
 refine⟨l,?_⟩
 induction f:eX s b with
 |none=>
  rw[f] at e
  cases z with
  |true=>exact nn e
  |false=>rfl
 |some t=>
  rw[f] at e
  induction z with
  |false=>exact sn e
  |true=>
   have e:=bo e
   have aT:t.1=n:=bl lr e
   have aN:t.2.1=p:=bl i7 e
   show B (t.1,t.2.1,t.2.2)=_
   exact((Hw (n:=t.1) (q:=t.2.1) (k:=t.2.2) l f).2.2).symm▸aT.symm▸aN.symm▸rfl
theorem Yq (hi:i < 13)(e:hO i=B n)(s:Sc):OF i n s=af:=by
 have h:=Yp i hi
 rw[OG,e] at h
 have h:=ct.mp h
 induction s with|iD=>exact h.1|dH=>exact h.2
theorem al1 (hi:i < 13)(e:hO i=B n):(wW i n sh).length≤18∧bD (fZ (bG n).e3 s) (eX s (wW i n sh)=B (n,ab,bG n)) (eX s (wW i n sh)=ab):=by
 have h:=(ct.mp (ct.mp (Yq hi e s)).1)
 induction sh with
 |true=>exact zJ h.2
 |false=>exact zJ h.1
theorem Yr (da:j < 8)(hi:i < 13)(e:hO i=B n):(nj n j).length≤18∧bD (fZ (bG n).e3 s&&d6 (bG n).bk) (eX s (nj n j)=B (n,B (j:aq),bG n)) (eX s (nj n j)=ab):=
 zJ (gy.mp (ct.mp (Yq hi e s)).2 j (xy.mpr da))
theorem al2 (hi:i < 13)(e:hO i=ab)(s:Sc):eX s (o8.getD i [])=ab∧(o8.getD i []).length≤18∧9 < i:=by
 have h:=Yp i hi
 rw[OG,e] at h
 have h:=ct.mp h
 have aY:=ct.mp h.1
 refine⟨?_,(dg h.2)⟩
 induction s with
 |iD=>exact l4.mp aY.1
 |dH=>exact l4.mp aY.2
theorem al3:∀i,i < 13→bS (hO i) (fun n=>(eL n).isSome||n==e5) af=af:=by decide+kernel
theorem Ys (hi:i < 13)(e:hO i=B n):gW n:=by
 have h:=al3 i hi
 have h:=e▸h
 exact(th.mp h).imp id c9
theorem OH {P:J am→Prop}(h:∀n∈kn,P n)(hx:P e5)(aA:gW n):P n:=by
 induction aA with
 |inr e=>exact e▸hx
 |inl e=>
  exact(iR.mp e).elim fun k f=>h n (xs (f:=(·.1)) (HF f))
theorem tc (aA:gW n)(a:d6 (bG n).bk=ae):n6 (bG n):=by
 revert a
 refine OH (P:=fun n=>d6 (bG n).bk=ae→n6 (bG n)) ?_ (fun I=>.lg ..) aA
 refine fa.mpr ⟨fun I=>.fo ..,fa.mpr ⟨fun I=>.iC ..,fa.mpr ⟨fun I=>.iC ..,fa.mpr ⟨fun I=>.ip ..,fa.mpr ⟨fun I=>.qf _ _ [[118,105],[101,109,97,99,115],[110,111,110,101]],
  fa.mpr ⟨fun I=>.oY ..,fa.mpr ⟨iV,fa.mpr ⟨fun I=>.n4 ..,fa.mpr ⟨fun I=>.lg ..,(fun I=>dz)⟩⟩⟩⟩⟩⟩⟩⟩⟩
noncomputable def HM (w:J am):aZ:=bS (eA [61] w 0) (fun i=>a9 (w.length≤18)&&c7 (c1 w ab (B i)) sU) (a9 (w.length≤40)&&!c7 w sU)
theorem Yt (h:HM w=af):m8 w:=by
 rw[HM] at h
 rw[m8]
 revert h
 induction eA [61] w 0 with
 |none=>
  intro h
  have h:=ct.mp h
  exact⟨dg h.1,(l2.mp h.2:_=!af)⟩
 |some i=>
  intro h
  have h:=ct.mp h
  exact⟨dg h.1,h.2⟩
theorem al4:∀k:aQ,((hl k).all fun o=>a9 (o.length≤30))=af:=by intro k;induction k<;>decide+kernel
theorem al5:((hl .ip).all fun o=>((fA o).all fun w=>w==[]||HM w)&&!o.contains 123&&((rp o).no&& !(eA [35,123] o 0).isSome)==c7 o jA&&(hM (fA o)).isSome==!c7 o jA)=af:=by decide+kernel
theorem al6:((hl .oY).all fun o=>(o==[]||(eA [32] o 0).isSome)==c7 o jA)=af:=by decide+kernel
theorem al7:((hl .n4).all fun o=>(iq o).no==c7 o jA&&a9 (o.length≤18))=af:=by decide+kernel
theorem al8:((hl .iC).all fun o=>a9 (o.length≤18))=af:=by decide+kernel
theorem al9:∀n,n < 256→(mA (hh n)).eK=B (n:aq)∧(hh n).length≤3:=by decide+kernel
theorem zK (h:o∈hl kk):o.length≤30:=dg (gy.mp (al4 kk) o h)
theorem Yu (h:o∈hl .ip):(∀w∈fA o,w≠[]→m8 w)∧o.contains 123=ae∧((rp o).no&& !(eA [35,123] o 0).isSome)=c7 o jA∧(hM (fA o)).isSome=!c7 o jA:=by
 have a:=ct.mp (gy.mp al5 o h)
 have b:=ct.mp a.1
 have c:=ct.mp b.1
 refine⟨fun w m e=>?_,(l2.mp c.2:_=!af),c9 b.2,c9 a.2⟩
 exact Yt ((th.mp (gy.mp c.1 w m)).resolve_left fun q=>e (c9 q))
theorem OI {x y:D}(h:bD c ab (B x)=B y):c=ae∧x=y:=by induction c with|true=>cases h|false=>exact⟨rfl,bo h⟩
theorem HN {x y:D}(h:bD c (B x) ab=B y):c=af∧x=y:=by induction c with|false=>cases h|true=>exact⟨rfl,bo h⟩
theorem w0 (e:uQ k.bk=af)(aL:lj k.bk k.hz o=B (.V o))(bC:rt k.bk o)(aw:o.length≤10+30 *t)(bE:t≤10)(st:rv k.bk=af→C6 o):eE t k (.V o):=
 .c5 (zy e).2.2 (.fP e (ao aw (ao (eH (hR 30 bE) 10) (ai rfl)))) aL bC aw st
theorem ama (hk:n6 k)(ay:0≤uM k.hz 0∧uM k.hz 1 < 256)(bC:o∈hl k.bk)(bE:t≤9):rt k.bk o∧ry k.bk k.hz o (lj k.bk k.hz o)∧∀d,lj k.bk k.hz o=B d→eE (t+1) k d:=by
 have nk:=ao (zK bC) (ai (b:=900) rfl)
 have C9:o.length≤10+30 *(t+1):=ao (zK bC) (ao (Nat.le_mul_of_pos_right 30 (tt t)) (kt _ 10))
 have rB:=d8 bE
 induction hk with
 |fo s f b=>
  refine⟨⟨nk,cy⟩,.fo,fun d e=>?_⟩
  have z:=(HN e).2
  subst z
  refine .c5 rfl (.fo _) ?_ ?_ ?_ nb
  ·induction c7 o uL with|true=>rfl|false=>rfl
  ·induction c7 o uL with|true=>exact⟨ai rfl,cy⟩|false=>exact⟨ai rfl,cy⟩
  ·induction c7 o uL with|true=>exact ao (ai (b:=10) rfl) (ed ..)|false=>exact ao (ai (b:=10) rfl) (ed ..)
 |iC s f lo hi=>
  have Db:o.length≤18:=dg (gy.mp al8 o bC)
  refine⟨⟨nk,Db⟩,Yd▸.iI Db,fun d e=>?_⟩
  rw[Yd,zE] at e
  induction f:o !=[]&&o.all o7 with
  |false=>rw[f] at e;exact nn e
  |true=>
   rw[f] at e
   have z:=HN e
   have Yv:=ct.mp z.1
   have a:=dg Yv.1
   have b:=dg Yv.2
   refine(IK (qt ay.1 a:0≤uV o 0)).elim fun m q=>?_
   have e:=z.2
   subst e
   rw[q] at a b⊢
   have Yw:m < 256:=h7.mp (DP b ay.2)
   have ul:=al9 m Yw
   refine .c5 rfl (.iI Yw) ?_ ⟨ao ul.2 (ai rfl),ao ul.2 (ai rfl)⟩ (ao ul.2 (ao (ai (b:=10) rfl) (ed ..))) nb
   show(mA (hh m)).eK.bind (fun n=>bD (a9 (lo≤n)&&a9 (n≤hi)) (B (D.ac n)) ab)=_
   rw[ul.1,rT,eO a,eO b];rfl
 |qf s f ij=>
  refine⟨⟨nk,cy⟩,.Ye,fun d e=>?_⟩
  have z:=(HN e).2
  subst z
  exact w0 rfl e ⟨nk,cy⟩ C9 rB nb
 |oY s f b=>
  have w:=c9 (gy.mp al6 o bC)
  have q:lj .oY b o=bD (c7 o jA) ab (B (.V o)):=w▸rfl
  refine⟨⟨nk,cy⟩,q▸.fP rfl rfl rfl,fun d e=>?_⟩
  have z:=(OI e).2
  subst z
  exact w0 rfl e ⟨nk,cy⟩ C9 rB nb
 |n4 s f b=>
  have w:=ct.mp (gy.mp al7 o bC)
  have q:lj .n4 b o=bD (c7 o jA) ab (B (.V o)):=c9 w.1▸rfl
  have Db:=dg w.2
  refine⟨⟨nk,Db⟩,q▸.fP rfl rfl rfl,fun d e=>?_⟩
  have z:=(OI e).2
  subst z
  exact w0 rfl e ⟨nk,Db⟩ C9 rB nb
 |ip s f b=>
  have w:=Yu bC
  have q:lj .ip b o=bD (c7 o jA) ab (B (.V o)):=w.2.2.1▸rfl
  refine⟨⟨nk,w.1⟩,q▸.fP rfl rfl rfl,fun d e=>?_⟩
  have z:=OI (q.symm.trans e)
  have amb:=z.2
  subst amb
  exact w0 rfl e ⟨nk,w.1⟩ C9 rB fun I=>⟨by refine Y w.2.2.2 (Y z.1 ?_);rfl,w.2.1⟩
 |lg s f b=>
  refine⟨⟨nk,cy⟩,.uU,fun d e=>?_⟩
  have z:=bo e
  subst z
  exact w0 rfl e ⟨nk,cy⟩ C9 rB nb
theorem amc (aA:gW n):0≤uM (bG n).hz 0∧uM (bG n).hz 1 < 256:=OH (P:=fun n=>0≤uM (bG n).hz 0∧uM (bG n).hz 1 < 256) (by decide) (by decide) aA
theorem OJ (c:am)(x y:J am):dC c (x++[c]++y)=dC c x++dC c y:=by
 induction x with
 |nil=>show(if(c==c)=af then _ else _)=_;refine Y (b3 (ie c)) ?_;rfl
 |cons a x az=>
  show(if(a==c)=af then[]::dC c (x++[c]++y)else match dC c (x++[c]++y)with|p::aI=>(a::p)::aI| []=>[[a]])=(if(a==c)=af then[]::dC c x else match dC c x with|p::aI=>(a::p)::aI| []=>[[a]])++_
  refine Y az ?_
  by_cases e:(a==c)=af
  ·refine Y (b3 e) (Y (b3 e) ?_);rfl
  ·refine Y (bL e) (Y (bL e) ?_)
   induction f:dC c x with
   |nil=>exact cr f (Cr c x)
   |cons p aI=>rfl
section
variable {t:ah}{n o:J am}{d:D}{vs:J cn}{p:ax aq}
theorem amd:hB m≤m.length:=by
 refine(Ob m).elim fun i e=>?_
 rw[hB,e]
 exact Al (xy.mp (Qb.mp e).2.1)
theorem OK {j:ah}(h:∀p∈m,nf p)(da:j < 256)(ay:b.length≤100):∀p∈cC m (.ac j) (.V b),nf p:=fun p q=>(Yn q).elim (h p) fun e=>e▸.mk da ay
theorem ame (aI:J (J am)):∀m:cn,(∀p∈aI,p.length≤100)→(∀p∈m,nf p)→iL m→m.length+aI.length≤60→(∀p∈aI.foldl o4 m,nf p)∧iL (aI.foldl o4 m)∧(aI.foldl o4 m).length≤m.length+aI.length:=by
 induction aI with
 |nil=>exact fun m I a b I=>⟨a,b,a8 _⟩
 |cons q aI az=>
  intro m bH a b aw
  have nZ:(o4 m q).length+aI.length≤m.length+(q::aI).length:=ao (dR nc _) (eT (by rw[iO,gd,fQ 1]))
  have z:=az (o4 m q) (fun x y=>bH x (.tail _ y)) (OK a (e6 amd (e6 (ao (ed ..) aw) (ai rfl)):hB m < 256) (bH q (.head _))) (C7 b) (ao nZ aw)
  exact⟨z.1,z.2.1,ao z.2.2 nZ⟩
theorem amf:((hl .jS).all fun o=>a9 ((ni o).length≤2)&&(ni o).all fun b=>a9 (b.length≤100))=af:=by decide+kernel
theorem amg:∀o∈hl .jS,jk [] ((ni o).zipIdx.map fun p=>(bf.ac p.2,D.V p.1))=lV (dC 44 o) []:=fa.mpr ⟨rfl,fa.mpr ⟨rfl,fa.mpr ⟨rfl,fa.mpr ⟨rfl,(fun I=>dz)⟩⟩⟩⟩
theorem Yx (bE:t≤9)(e:d6 k.bk=af)(bC:o∈hl .jS)(a:∀p∈m,nf p)(b:iL m)(aw:m.length≤2+2 *t):eE (t+1) k (.a5 (lV (dC 44 o) m)):=by
 have z:=ct.mp (gy.mp amf o bC)
 have OL:m.length+(ni o).length≤2+2 *(t+1):=ao (eZ aw (dg z.1)) (eT (gd 2 (2 *t) 2))
 have Yy:2+2 *(t+1)≤22:=eH (hR 2 (d8 bE)) 2
 have q:=ame (ni o) m (fun p q=>dg (gy.mp z.2 p q)) a b (ao OL (ao Yy (ai rfl)))
 exact .eC e ⟨q.1,e6 (ao (ao q.2.2 OL) Yy) (ai rfl)⟩ q.2.1 (ao q.2.2 OL)
theorem eE.Dc (h:eE t k d)(e:d6 k.bk=af):∃m,d=.a5 m∧uP m∧iL m∧m.length≤2+2 *t:=by
 induction h with
 |eC _ a b c=>exact⟨_,rfl,a,b,c⟩
 |c5 cR=>exact cr (e.symm.trans cR) fun q=>dO q.symm
theorem Dd (e:d6 k=af):k=.jS:=by revert e;induction k<;>first|exact fun I=>rfl|exact nb
theorem De (e:lW k=af):k=.fo:=by revert e;induction k<;>first|exact fun I=>rfl|exact nb
theorem eE.OM (h:eE t k d)(e:lW k.bk=af):∃b,d=.be b:=by
 have v:=h.C8
 have v:=(De e)▸v
 cases v with
 |fo b=>exact⟨b,rfl⟩
 |fP e=>exact nb e
structure uZ (vs:J cn)(t:ah)(n:J am):Prop where
 nm:gW n
 w2:∀d,d7 vs n=B d→eE t (bG n) d
 ON:(eL n).isSome=af→(d7 vs n).isSome=af
theorem amh (aA:gW n)(h:d6 (bG n).bk=af∨lW (bG n).bk=af∨rv (bG n).bk=af):(eL n).isSome=af:=aA.resolve_right fun e=>by have h:=e▸h;exact h.elim nb fun h=>h.elim nb nb
theorem uZ.fv (h:uZ vs t n)(z:d6 (bG n).bk=af∨lW (bG n).bk=af∨rv (bG n).bk=af):∃d,d7 vs n=B d∧eE t (bG n) d:=(iR.mp (h.ON (amh h.nm z))).imp fun d e=>⟨e,h.w2 d e⟩
theorem ami (h:uZ vs t n)(bE:t≤9)(bC:o∈hl (bG n).bk)(hp:∀j,p=B j→d6 (bG n).bk=af∧∃q:ah,j=q∧q < 256):
  ∃r,qo .gv (bG n) ((d7 vs n).getD .aK) (ob (bG n).bk p o) p r∧ru vs n p (bG n) (B (ob (bG n).bk p o)) r∧∀d,r=B d→eE (t+1) (bG n) d:=by
 induction e:d6 (bG n).bk with
 |true=>
  refine(h.fv (.inl e)).elim fun d z=>?_
  refine(z.2.Dc e).elim fun m y=>?_
  have gI:=y.1
  subst gI
  refine Y z.1 ?_
  have zL:m.length≤400:=ao (ir y.2.1.bJ) (ai rfl)
  induction p with
  |none=>
   have Yz:o∈hl .jS:=Dd e▸bC
   refine⟨B (.a5 (lV (dC 44 o) [])),.Ow ?_,.eC e z.1 (tb y.2.1) zL (ao (zK bC) (ai rfl)),fun d q=>?_⟩
   ·have a:=ry.eC (b:=(bG n).hz) (o:=o)
    rw[amg o Yz] at a
    exact Y (Dd e) a
   ·exact cN (bo q) (Yx bE e Yz (fun I=>dz) .nil (jD _))
  |some j=>
   refine((hp j rfl).2).elim fun q g=>?_
   have B0:=g.1
   subst B0
   have p1:ob (bG n).bk (B (q:aq)) o=OA:=by rw[ob,e];rfl
   refine p1▸?_
   refine⟨B (.a5 (cC m (.ac q) (.V OA))),.Hx e (tb y.2.1) zL,.eC (q:=B (q:aq)) e z.1 (tb y.2.1) zL (ai rfl),fun d lC=>?_⟩
   have YA:m.length+1≤2+2 *(t+1):=ao (dR y.2.2.2 1) (show 2+(2 *t+1)≤2+(2 *t+2) from eH (iQ _) 2)
   refine bo lC▸.eC e ⟨OK y.2.1.ju g.2 (ai rfl),?_⟩ (C7 y.2.2.1) (ao nc YA)
   exact e6 (ao nc (ao YA (eH (hR 2 (d8 bE)) 2))) (ai rfl)
 |false=>
  induction p with
  |some j=>exact cr (e.symm.trans (hp j rfl).1) dO
  |none=>
   have g:=ama (tc h.nm e) (amc h.nm) bC bE
   refine⟨lj (bG n).bk (bG n).hz o,.Ow g.2.1,?_,g.2.2⟩
   induction f:lW (bG n).bk with
   |true=>
    exact(h.fv (.inr (.inl f))).elim fun d z=>(z.2.OM f).elim fun b y=>.kg (on:=b) e (tc h.nm e) (by refine Y f (Y z.1 (Y y ?_));rfl) fun x q=>bo q▸g.1
   |false=>exact .kg (on:=ae) e (tc h.nm e) (by refine Y f ?_;rfl) fun x q=>bo q▸g.1
theorem amj (h:uZ vs t n)(bE:t≤9)(hp:∀j,p=B j→d6 (bG n).bk=af):
  ∃r,qo .fq (bG n) ((d7 vs n).getD .aK) o p r∧ru vs n p (bG n) ab r∧∀d,r=B d→eE (t+1) (bG n) d:=by
 cases e:d6 (bG n).bk with
 |true=>exact⟨ab,.Ov (by refine Y (Dd e) ?_;rfl),.Xz e,(fun I=>nn)⟩
 |false=>
  induction p with
  |some j=>exact cr (e.symm.trans (hp j rfl)) dO
  |none=>
   induction f:lW (bG n).bk with
   |false=>
    have q:s5 (bG n) ae ab=ab:=by rw[s5,bS,f];rfl
    exact⟨ab,.Ov f,q▸.kg (on:=ae) e (tc h.nm e) (by refine Y f ?_;rfl) (fun I=>nn),(fun I=>nn)⟩
   |true=>
    refine(h.fv (.inr (.inl f))).elim fun d z=>?_
    refine(z.2.OM f).elim fun b y=>?_
    subst y
    have q:s5 (bG n) b ab=B (.be !b):=by rw[s5,bS,f];rfl
    refine⟨B (.be !b),by refine z.1▸?_;exact .fq f,q▸.kg (on:=b) e (tc h.nm e) (Y f z.1) (fun I=>nn),fun d g=>bo g▸?_⟩
    refine .c5 e (by refine(De f)▸?_;exact .fo _) ?_ ?_ ?_ fun s=>?_
    ·refine(De f)▸?_;induction b<;>rfl
    ·refine(De f)▸?_;induction b<;>exact⟨ai rfl,cy⟩
    ·induction b<;>exact ao (ai (b:=10) rfl) (ed ..)
    ·have s:=(De f)▸s;exact nb s
end
theorem amk:∀o∈hl .ip,1+o.length≤30:=by decide+kernel
theorem aml:fA (x++[44]++y)=fA x++fA y:=by
 rw[fA,eS,eS];exact OJ 44 _ _
theorem amm (y:J (J am))(x:J (J am)):(hM (x++y)).isSome=((hM x).isSome&&(hM y).isSome):=by
 induction x with
 |nil=>rfl
 |cons w x az=>
  show(bD (w !=[]) (qh (lR w) (hM (x++y))) (hM (x++y))).isSome=((bD (w !=[]) (qh (lR w) (hM x)) (hM x)).isSome&&_)
  induction w !=[] with
  |false=>exact az
  |true=>
   show(qh (lR w) _).isSome=((qh (lR w) _).isSome&&_)
   rw[qh,qh]
   induction(lR w).no with
   |true=>rfl
   |false=>show(Ap _ _).isSome=((Ap _ _).isSome&&_);exact Y vk (Y vk az)
theorem amn:(rp v).no= !(hM (fA v)).isSome:=by
 rw[rp]
 induction hM (fA v)with
 |none=>rfl
 |some q=>rfl
theorem amo (h:v.contains 123=ae):∀i,eA [35,123] v i=ab:=by
 induction v with
 |nil=>exact fun I=>rfl
 |cons c v az=>
  have h:=lq.mp ((vf ..).symm.trans h)
  intro i
  have e:([35,123]:J am).isPrefixOf (c::v)=ae:=by
   induction v with
   |nil=>exact rK _
   |cons dh v=>
    show(_&&((123:am)==dh&&_))=ae
    exact Y ((lq.mp ((vf ..).symm.trans h.2)).1) (Y (IG ..) (Y (rK ..) rfl))
  show(if([35,123]:J am).isPrefixOf (c::v)then B i else eA [35,123] v (i+1))=ab
  exact Y e (az h.2 (i+1))
theorem amp (h:v.contains 123=ae):lj .ip b v=bD (hM (fA v)).isSome (B (.V v)) ab:=by
 show bD ((rp v).no&& !(eA [35,123] v 0).isSome) ab (B (D.V v))=_
 rw[amo h,amn]
 induction(hM (fA v)).isSome with|true=>rfl|false=>rfl
theorem amq {x y:J am}(h:x.contains 123=ae)(aj:y.contains 123=ae):(x++[44]++y).contains 123=ae:=by
 refine Y Ac (Y Ac (Y h (Y aj ?_)));rfl
theorem amr (hk:C6 kb)(hw:∀w∈fA kb,w≠[]→m8 w)(bC:o∈hl .ip):∃v,bD (kb==[]) o (kb++[44]++o)=v∧v.contains 123=ae∧(∀w∈fA v,w≠[]→m8 w)∧(hM (fA v)).isSome=!c7 o jA∧v.length≤kb.length+30:=by
 have z:=Yu bC
 refine⟨_,rfl,?_⟩
 induction kb with
 |nil=>exact⟨z.2.1,z.1,z.2.2.2,ao (zK bC) (kt ..)⟩
 |cons c kb=>
  show((c::kb)++[44]++o).contains 123=ae∧(∀w∈fA ((c::kb)++[44]++o),w≠[]→m8 w)∧(hM (fA ((c::kb)++[44]++o))).isSome=_∧((c::kb)++[44]++o).length≤_
  refine Y (aml ..) (Y (amm ..) (Y (hk.1 ..) (Y (cG ..) (Y (cG ..) ?_))))
  refine⟨amq hk.2 z.2.1,fun w q=>(fE.mp q).elim (hw w) (z.1 w),z.2.2.2,?_⟩
  exact Y (gd ..) (eH (amk o bC) _)
theorem OO (e:d7 vs n=B d):s6 vs n d:=by
 rw[s6]
 induction f:(eL n).isSome||(m9 (.V n) vs).isSome with
 |true=>exact e
 |false=>
  have z:=lq.mp f
  rw[d7,Ju.mp z.2 |> l4.mp,Ju.mp z.1 |> l4.mp] at e
  exact nn e
theorem YB (e:d7 vs n=ab):s6 vs n (.V []):=by
 rw[s6]
 rw[d7] at e
 induction f:m9 (.V n) vs with
 |some d=>have e:=f▸e;exact sn e
 |none=>
  have e:=f▸e
  refine Y (QV.mp (e:(eL n).map d4.km=ab)) ?_;rfl
theorem jT.HO (v:jT kk d)(e:uQ kk=af):∃b,d=.V b:=by
 induction v with
 |fo=>exact nb e
 |iI=>exact nb e
 |eC=>exact nb e
 |fP=>exact⟨_,rfl⟩
theorem eE.HO (h:eE t k d)(e:uQ k.bk=af):∃b,d=.V b∧b.length≤10+30 *t∧rt k.bk b∧(rv k.bk=af→C6 b):=by
 induction h with
 |eC a=>exact cr ((zy e).2.2.symm.trans a) dO
 |c5 cR v r o aw st=>
  refine(v.HO e).elim fun b z=>?_
  subst z
  exact⟨b,rfl,aw,o,st⟩
theorem YC (h:uZ (v0::vs) t n)(bE:t≤9)(bC:o∈hl (bG n).bk)(av:vs.length≤1)(aw:v0.length≤900)(ay:b.length≤18)(e:eX s b=B (n,ab,bG n))(cR:eX s n=B (n,ab,bG n)):
  ∃r,ql (bG n).bk ((d7 (v0::vs) n).getD .aK) o r∧(∀d,r=B d→eE (t+1) (bG n) d)∧∀{hp:J ap} {K:a0} {X:J ap→Prop},hj hp (cx s p i) (v0::vs)→bS r (fun d=>K .aK (hp.set i (.bv (cC v0 (.V n) d)))) (X hp)→bx (l+7) 22 [cx s p i,.V b,.V o] hp K X:=by
 have td:=zK bC
 have HP:∀{kb:J am},kb.length≤10+30 *t→kb.length≤500:=fun q=>ao q (ao (eH (hR 30 bE) 10) (ai rfl))
 have rB:=d8 bE
 have ec:∀{hp:J ap} {r:ax D} {K:a0} {X:J ap→Prop},bS r (fun d=>K .aK (hp.set i (.bv (cC v0 (.V n) d)))) (X hp)→iE r id (fun d I=>K .aK (hp.set i (.bv (cC v0 (.V n) d)))) X hp:=fun {hp r K X} q=>q
 induction a:wM (bG n).bk with
 |false=>exact⟨ab,.fP a,(fun I=>nn),fun I q=>Oi ay (fun gm lC c2 z=>.inr (by rw[e] at z;cases z;exact a)) q⟩
 |true=>
  induction dd:d6 (bG n).bk with
  |true=>
   refine(h.fv (.inl dd)).elim fun d z=>?_
   refine(z.2.Dc dd).elim fun m y=>?_
   have gI:=y.1
   subst gI
   have zL:m.length≤400:=ao (ir y.2.1.bJ) (ai rfl)
   refine z.1▸?_
   refine⟨B (.a5 (lV (dC 44 o) m)),by refine(Dd dd)▸?_;exact .eC zL (tb y.2.1),fun d q=>bo q▸Yx bE dd (Dd dd▸bC) y.2.1.ju y.2.2.1 y.2.2.2,fun L q=>?_⟩
   exact akT L av aw ay e dd (OO z.1) (tb y.2.1) zL (ao td (ai rfl)) q
  |false=>
   induction st:rv (bG n).bk with
   |true=>
    have cK:(bG n).bk=.ip:=by revert st;cases(bG n).bk<;>first|exact fun I=>rfl|exact nb
    refine(h.fv (.inr (.inr st))).elim fun d z=>?_
    refine(z.2.HO (by refine cK▸?_;rfl)).elim fun kb y=>?_
    have gI:=y.1
    subst gI
    have g:=y.2.2.2 st
    have ok:=y.2.2.1
    have bC:=bC
    rw[cK] at ok bC
    refine(amr g ok.2 bC).elim fun w x=>?_
    have HQ:wN (bG n).bk kb o=w:=by rw[wN,st,←x.1];induction kb<;>rfl
    have u0:w.length≤10+30 *(t+1):=ao x.2.2.2.2 (ao (dR y.2.1 30) (eT (gd 10 (30 *t) 30)))
    have OP:w.length≤900:=ao u0 (ao (eH (hR 30 rB) 10) (ai rfl))
    have kg:lj (bG n).bk (bG n).hz w=bD (!c7 o jA) (B (.V w)) ab:=by exact Y cK ((amp x.2.1).symm▸x.2.2.2.1.symm▸rfl)
    have Df:rt (bG n).bk w:=by exact Y cK (⟨OP,x.2.2.1⟩)
    refine⟨bD (!c7 o jA) (B (.V w)) ab,?_,fun d q=>?_,fun L q=>?_⟩
    ·refine Y cK (Y z.1 ?_)
     induction f:c7 o jA with
     |true=>exact .Yb f
     |false=>
      have YD:=ql.Ya (kb:=kb) (o:=o) (ao (HP y.2.1) (ai rfl)) f
      rw[x.1] at YD;exact YD
    ·have c:=HN q
     have cd:=c.2
     subst cd
     exact w0 (by refine Y cK ?_;rfl) (kg.trans q) Df u0 rB fun I=>⟨x.2.2.2.1.trans c.1,x.2.1⟩
    ·refine XG L av aw ay e cR dd a (OO z.1) (ao td (ai rfl)) (HP y.2.1) ?_ (ec q)
     exact Y HQ (cN kg (.kg (on:=ae) dd (tc h.nm dd) (by refine Y cK ?_;rfl) fun x q=>bo q▸Df))
   |false=>
    have oe:(bG n).bk=.lg:=by revert a dd st;cases(bG n).bk<;>first|exact fun I I I=>rfl|exact nb|exact fun I=>iV|exact fun I I=>nofun
    have go:∀kb:J am,kb.length≤10+30 *t→s6 (v0::vs) n (.V kb)→(∀d,B (D.V (kb++o))=B d→eE (t+1) (bG n) d)∧∀{hp:J ap} {K:a0} {X:J ap→Prop},hj hp (cx s p i) (v0::vs)→bS (B (.V (kb++o))) (fun d=>K .aK (hp.set i (.bv (cC v0 (.V n) d)))) (X hp)→bx (l+7) 22 [cx s p i,.V b,.V o] hp K X:=fun kb hk z=>by
     have u0:(kb++o).length≤10+30 *(t+1):=by exact Y cG (ao (eZ hk td) (eT (gd 10 (30 *t) 30)))
     have OP:(kb++o).length≤900:=ao u0 (ao (eH (hR 30 rB) 10) (ai rfl))
     have Df:rt (bG n).bk (kb++o):=by exact Y oe (⟨OP,cy⟩)
     have kg:lj (bG n).bk (bG n).hz (kb++o)=B (.V (kb++o)):=by rw[oe];rfl
     refine⟨fun d q=>bo q▸w0 (by rw[oe];rfl) kg Df u0 rB (fun s=>by have s:=oe▸s;exact nb s),fun L q=>?_⟩
     refine XG L av aw ay e cR dd a z (ao td (ai rfl)) (HP hk) ?_ (ec q)
     have HQ:wN (bG n).bk kb o=kb++o:=by rw[wN,st];rfl
     rw[HQ,←kg]
     exact .kg (on:=ae) dd (tc h.nm dd) (by rw[oe];rfl) fun x q=>bo q▸Df
    induction f:d7 (v0::vs) n with
    |none=>exact⟨B (.V o),by rw[oe];exact .X9,(go [] (jD _) (YB f)).1,(go [] (jD _) (YB f)).2⟩
    |some d=>
     refine((h.w2 d f).HO (by rw[oe];rfl)).elim fun kb y=>?_
     have gI:=y.1
     subst gI
     have g:=go kb y.2.1 (OO f)
     exact⟨B (.V (kb++o)),by rw[oe];exact .uU (ao (HP y.2.1) (ai rfl)),g.1,g.2⟩
noncomputable def hD (h:ah)(L0 L1:cn):J ap:=[.br [.ac h],.bv L0,.bv L1,.bv L0,.bv L1]
section
variable {K:a0}{b2:iK}
theorem te:hm (hD h L0 L1) L0 L1:=⟨rfl,rfl,rfl,rfl⟩
theorem eE.le (h:eE t k d)(q:t≤t'):eE t' k d:=by induction q with|refl=>exact h|step _ az=>exact az.up
theorem zM (c8:cU .dH t L0)(dm:cU s t L1)(aA:gW n):uZ (dT w L0 L1) t n:=by
 have fst:∀d,(eL n).map d4.km=B d→eE t (bG n) d:=fun d e=>by
  induction f:eL n with
  |none=>rw[f] at e;exact nn e
  |some k=>
   rw[f] at e
   rw[bG,f]
   exact cN (bo e) ((Yo f).le (jD t))
 have any:∀o:ax D,(eL n).isSome=af→(bS o B ((eL n).map d4.km)).isSome=af:=fun o q=>by induction o with|none=>exact(vk ..).trans q|some _=>rfl
 refine⟨aA,fun d e=>?_,any _⟩
 rw[d7] at e
 induction w with
 |false=>
  rw[dT,bD,firstO_c] at e
  cases f:cB L0 (.V n)with
  |some x=>rw[f] at e;exact cN (bo e) ((c8.at f).2.2)
  |none=>rw[f] at e;exact fst d e
 |true=>
  rw[dT,bD,firstO_c] at e
  induction f:cB L1 (.V n)with
  |some x=>rw[f] at e;exact cN (bo e) ((dm.at f).2.2)
  |none=>
   rw[f,bS,firstO_c] at e
   induction f:cB L0 (.V n)with
   |some x=>rw[f] at e;exact cN (bo e) ((c8.at f).2.2)
   |none=>rw[f] at e;exact fst d e
theorem ams (ay:b.length≤18)(e:eX (dZ s w) b=ab)(h:X hp):bx (l+7) (wR b2) (wS b2 (eD s w) b o) hp K X:=by
 have z:∀{sc p i},eX sc b=ab→bx (l+7) (wR b2) (wS b2 (cx sc p i) b o) hp K X:=fun {sc p i} e=>by
  induction b2 with
  |gv=>exact XA (v:=B o) (l:=l+1) ay e h
  |fq=>exact XA (v:=ab) (l:=l+1) ay e h
  |qm=>exact akR (l:=l+3) ay e h
  |eP=>exact Oi ay (fun n q k f=>nomatch e.symm.trans f) h
 induction w with
 |false=>exact z e
 |true=>exact z e
noncomputable abbrev HR (h:ah)(w:aZ)(L0 L1 u:cn):J ap:=(hD h L0 L1).set (h6 w) (.bv u)
theorem amt:hj (HR h w L0 L1 u) (eD s w) (dT w L0 L1):=by
 induction w with
 |false=>exact .dN rfl rfl .fj
 |true=>exact .dN rfl rfl (.dN rfl rfl .fj)
noncomputable abbrev zm (w:aZ)(L0 u:cn):cn:=bD w L0 u
noncomputable abbrev mr (w:aZ)(L1 u:cn):cn:=bD w u L1
theorem YE:(HR h w L0 L1 u).set (rz w) (.bv u)=hD h (zm w L0 u) (mr w L1 u):=by induction w<;>rfl
theorem Dg (c8:cU .dH t L0)(dm:cU s t L1):cU (dZ s w) t (eG w L0 L1):=by induction w with|false=>exact c8|true=>exact dm
theorem YF (c8:cU .dH t' L0)(dm:cU s t' L1)(g:cU (dZ s w) t' u):cU .dH t' (zm w L0 u)∧cU s t' (mr w L1 u):=by induction w with|false=>exact⟨g,dm⟩|true=>exact⟨c8,g⟩
theorem YG (aw:(eG w L0 L1).length≤900)(ay:b.length≤18)(e:eX (dZ s w) b=B (n,p,k))(z:ru (dT w L0 L1) n p k v r)(L:hj hp (eD s w) (dT w L0 L1))(h:bS r (fun d=>K .aK (hp.set (rz w) (.bv (cC (eG w L0 L1) (.V n) d)))) (X hp)):bx (l+7) 15 [eD s w,.V b,o5 v] hp K X:=by
 induction w with
 |false=>exact Hy (l:=l+1) L (ai rfl) aw ay e z h
 |true=>exact Hy (l:=l+1) L (ai rfl) aw ay e z h
theorem amu {L:cn}(L:hp[rz w]?=B (.bv (eG w L0 L1)))(aw:(eG w L0 L1).length≤900)(Hz:iH (eG w L0 L1))(ay:b.length≤18)(e:eX (dZ s w) b=B (n,p,k))(z:wL (eG w L0 L1) n p u)(h:K .aK (hp.set (rz w) (.bv u))):bx (l+7) 16 [eD s w,.V b] hp K X:=by
 induction w with
 |false=>exact XD (l:=l+3) L aw Hz ay e z h
 |true=>exact XD (l:=l+3) L aw Hz ay e z h
theorem amv (hk:uZ (dT w L0 L1) t n)(bE:t≤9)(bC:o∈hl (bG n).bk)(aw:(eG w L0 L1).length≤900)(ay:b.length≤18)(e:eX (dZ s w) b=B (n,ab,bG n))(cR:eX (dZ s w) n=B (n,ab,bG n)):
  ∃r,ql (bG n).bk ((d7 (dT w L0 L1) n).getD .aK) o r∧(∀d,r=B d→eE (t+1) (bG n) d)∧∀{hp:J ap} {K:a0} {X:J ap→Prop},hj hp (eD s w) (dT w L0 L1)→bS r (fun d=>K .aK (hp.set (rz w) (.bv (cC (eG w L0 L1) (.V n) d)))) (X hp)→bx (l+7) 22 [eD s w,.V b,.V o] hp K X:=by
 induction w with
 |false=>exact YC hk bE bC (ai rfl) aw ay e cR
 |true=>exact YC hk bE bC (ai rfl) aw ay e cR
theorem HS (c8:cU .dH t L0)(dm:cU s t L1)(bE:t≤9)(aA:gW n)(f:fZ (bG n).e3 (dZ s w)=af)(bC:o.length≤100)(zF:(b2.s=="unset")=ae)(z:qo b2 (bG n) ((d7 (dT w L0 L1) n).getD .aK) o p r)(g:∀d,r=B d→eE (t+1) (bG n) d)
  (code:∀{hp:J ap} {K:a0} {X:J ap→Prop},hj hp (eD s w) (dT w L0 L1)→bS r (fun d=>K .aK (hp.set (rz w) (.bv (cC (eG w L0 L1) (.V n) d)))) (X hp)→bx (l+7) (wR b2) (wS b2 (eD s w) b o) hp K X):
  ∃v qU ko kp,cU .dH (t+1) ko∧cU s (t+1) kp∧(∀{K:a0} {X:J ap→Prop},K (.be v) qU→bx (l+8) 46 [dY s,.ac (fC w),.aF b2.s,.V n,.V o,fp p] (hD h L0 L1) K X)∧
   ∀{K:a0} {X:J ap→Prop},bD v (K .aK (hD h ko kp)) (X (hD h ko kp))→bx (l+7) (wR b2) (wS b2 (eD s w) b o) qU K X:=by
 have own:=Dg (w:=w) c8 dm
 have nb:∀d,r=B d→uW d:=fun d e=>by
  have v:=(g d e).C8
  revert v
  generalize(bG n).bk=kk
  intro v
  induction v with
  |fo=>exact .be _
  |iI=>exact .ac _
  |eC=>exact .a5 _
  |fP=>exact .V _
 have oa:∀{K:a0} {X:J ap→Prop},bS r (fun d=>K (.be af) ((hD h L0 L1).set (h6 w) (.bv (cC (eG w L0 L1) (.V n) d)))) (K (.be ae) (hD h L0 L1))→bx (l+8) 46 [dY s,.ac (fC w),.aF b2.s,.V n,.V o,fp p] (hD h L0 L1) K X:=fun {K X} q=>
  Ox (l:=l+5) te aA f fun {call R aM lX lY} hc lv=>Yi hc (te.gO (w:=w)) (ao own.bJ (ao bE (ai rfl)):(eG w L0 L1).length≤900) own.gV bC zF z nb lv q
 induction r with
 |none=>exact⟨ae,hD h L0 L1,L0,L1,c8.up,dm.up,oa,fun q=>code te.wy q⟩
 |some d=>
  have Dh:=YF (w:=w) c8.up dm.up (own.gv aA f (g d rfl))
  refine⟨af,_,_,_,Dh.1,Dh.2,oa,fun {K X} q=>code amt ?_⟩
  show K .aK ((HR h w L0 L1 (cC (eG w L0 L1) (.V n) d)).set (rz w) (.bv (cC (eG w L0 L1) (.V n) d)))
  exact Y (YE (h:=h) (w:=w) (L0:=L0) (L1:=L1) (u:=cC (eG w L0 L1) (.V n) d)) q
end
section
variable {k:d4}
def zN (l t h:ah)(s:Sc)(w:aZ)(b2:iK)(bY:D)(o b:J am)(p:ax aq)(L0 L1:cn):Prop:=∃v qU ko kp,cU .dH (t+1) ko∧cU s (t+1) kp∧(∀{K:a0} {X:J ap→Prop},K (.be v) qU→bx (l+8) 46 [dY s,.ac (fC w),.aF b2.s,bY,.V o,fp p] (hD h L0 L1) K X)∧
   ∀{K:a0} {X:J ap→Prop},bD v (K .aK (hD h ko kp)) (X (hD h ko kp))→bx (l+7) (wR b2) (wS b2 (eD s w) b o) qU K X
theorem HT (c8:cU .dH t L0)(dm:cU s t L1)(ay:b.length≤18)(e:eX (dZ s w) b=ab)(oa:∀{K:a0} {X:J ap→Prop},K (.be ae) (hD h L0 L1)→bx (l+8) 46 [dY s,.ac (fC w),.aF b2.s,bY,.V o,fp p] (hD h L0 L1) K X):zN l t h s w b2 bY o b p L0 L1:=
 ⟨ae,hD h L0 L1,L0,L1,c8.up,dm.up,oa,fun q=>ams ay e q⟩
theorem amw (c8:cU .dH t L0)(dm:cU s t L1)(bE:t≤9)(aA:gW n)(f:fZ (bG n).e3 (dZ s w)=af)(ay:b.length≤18)(e:eX (dZ s w) b=B (n,p,bG n))(hp:∀j,p=B j→d6 (bG n).bk=af):zN l t h s w .qm (.V n) o b p L0 L1:=by
 have own:=Dg (w:=w) c8 dm
 have aw:(eG w L0 L1).length≤900:=ao own.bJ (ao bE (ai rfl))
 have go:∀u,wL (eG w L0 L1) n p u→cU (dZ s w) (t+1) u→zN l t h s w .qm (.V n) o b p L0 L1:=fun u z g=>by
  have Dh:=YF (w:=w) c8.up dm.up g
  refine⟨af,HR h w L0 L1 u,_,_,Dh.1,Dh.2,fun q=>?_,fun {K X} q=>amu (L:=[]) (by induction w<;>rfl) aw own.gV ay e z ?_⟩
  ·refine Ox (l:=l+5) te aA f fun {call R aM lX lY} hc lv=>alD (te.gO (w:=w)) aw z (fun a x y=>?_) (lv (cm (pl ..) q))
   induction p with
   |none=>exact nb y
   |some j=>
    refine((own.at x).2.2.Dc (hp j rfl)).elim fun m z=>?_
    have e:a=m:=bo (bl D.mf z.1)
    subst e
    exact⟨z.2.2.1,z.2.1.ju⟩
  ·exact Y YE q
 induction p with
 |none=>exact go _ .hT own.alY
 |some j=>
  induction x:cB (eG w L0 L1) (.V n)with
  |none=>exact go _ (.no x) own.up
  |some d=>
   refine((own.at x).2.2.Dc (hp j rfl)).elim fun m z=>?_
   have gI:=z.1
   subst gI
   exact go _ (.it x (tb z.2.1) (ao (ir z.2.1.bJ) (ai rfl))) (own.gv aA f (.eC (hp j rfl) ⟨fun p q=>z.2.1.ju p (tq.mp q).1,e6 (pk ..) z.2.1.bJ⟩ (Oy z.2.2.1) (ao (pk ..) (ao z.2.2.2 (eH (hR 2 (iQ t)) 2)))))
theorem YH (bC:o∈hl k.bk):(ob k.bk p o).length≤100:=by
 rw[ob]
 induction p.isSome&&d6 k.bk with
 |true=>exact ai rfl
 |false=>exact ao (zK bC) (ai rfl)
theorem YI (c8:cU .dH t L0)(dm:cU s t L1)(bE:t≤9)(aA:gW n)(f:fZ (bG n).e3 (dZ s w)=af)(bC:o∈hl (bG n).bk)(ay:b.length≤18)(e:eX (dZ s w) b=B (n,p,bG n))(cR:eX (dZ s w) n=B (n,ab,bG n))(hp:∀j,p=B j→d6 (bG n).bk=af∧∃q:ah,j=q∧q < 256):
  zN l t h s w b2 (.V n) (ob (bG n).bk p o) b p L0 L1:=by
 have aw:(eG w L0 L1).length≤900:=ao (Dg (w:=w) c8 dm).bJ (ao bE (ai rfl))
 have gX:=zM (w:=w) c8 dm aA
 have td:=YH (p:=p) bC
 induction b2 with
 |qm=>exact amw c8 dm bE aA f ay e fun j q=>(hp j q).1
 |gv=>
  induction ami gX bE bC hp with|intro r z=>
  exact HS c8 dm bE aA f td rfl z.1 z.2.2 fun L q=>YG (v:=B _) aw ay e z.2.1 L q
 |fq=>
  induction amj gX bE (fun j q=>(hp j q).1)with|intro r z=>
  exact HS c8 dm bE aA f td rfl z.1 z.2.2 fun L q=>YG (v:=ab) aw ay e z.2.1 L q
 |eP=>
  induction p with
  |some j=>
   refine HS c8 dm bE aA f td rfl .Yh (fun I=>nn) fun {hp K X} L q=>?_
   have z:∀{sc p i},eX sc b=B (n,B j,bG n)→bx (l+7) 22 [cx sc p i,.V b,.V (ob (bG n).bk (B j) o)] hp K X:=fun e=>Oi ay (fun gm lC c2 z=>.inl (by rw[e] at z;cases z;rfl)) q
   induction w with
   |false=>exact z e
   |true=>exact z e
  |none=>
   induction amv gX bE bC aw ay e cR with|intro r z=>
   exact HS c8 dm bE aA f td rfl (.app z.1) z.2.1 fun L q=>z.2.2 L q
theorem amx (c8:cU .dH t L0)(dm:cU s t L1)(bE:t≤9)(hi:i < 13)(zO:c3 < 8)(bC:o∈hl (wY i))(p:ax aq)(ep:p=wV (wY i) b2 i c3)
  (ne:((bS (hO i) (fun n=>n==e5) ae&&zG b2)||((hO i).isSome&&(zH b2&&bS (hO i) (fun n=>!fZ (bG n).e3 (dZ s w)) ae)))=ae):
  (wW i ((hO i).getD []) ((sh&&!p.isSome)|| !(hO i).isSome)).length≤18∧(∀j,p=B j→∃q:ah,j=q∧q < 256)∧
   zN l t h s w b2 (wX (hO i)) (ob (wY i) p o) (bS p (fun j=>wW i ((hO i).getD []) ((sh&&!p.isSome)|| !(hO i).isSome)++[91]++hh j.toNat++[93]) (wW i ((hO i).getD []) ((sh&&!p.isSome)|| !(hO i).isSome))) p L0 L1:=by
 rw[wY] at *
 induction gu:hO i with
 |none=>
  have z:=al2 hi gu (dZ s w)
  have w3:p=ab:=by
   have sA:a9 ((i:aq) < 9)=ae:=jZ (ph.mpr (xq.mpr (ir z.2.2)))
   rw[ep,gu,wV,wU,sA,rK,rK];rfl
  subst w3
  have amy:((sh&& !(ab:ax aq).isSome)|| !(ab:ax (J am)).isSome)=af:=va _
  exact Y amy (⟨z.2.1,nofun,HT c8 dm z.2.1 z.1 fun q=>alv (l:=l+5) te q⟩)
 |some n=>
  have aA:=Ys hi gu
  rw[gu] at ep ne bC
  refine Y (Es ..) (Y (IJ ..) (Y (xo ..) ?_))
  have bC:o∈hl (bG n).bk:=bC
  have uz:=fun sh=>al1 (s:=dZ s w) (sh:=sh) hi gu
  show _∧_∧zN l t h s w b2 (.V n) (ob (bG n).bk p o) _ p L0 L1
  have zP:∀j,p=B j→j=c3∧wU (bG n).bk b2 i c3=af:=fun j q=>by
   rw[ep] at q
   induction f:wU (uY (B n)) b2 i c3 with
   |true=>rw[wV,f] at q;exact⟨(bo q).symm,f⟩
   |false=>rw[wV,f] at q;exact nn q
  refine⟨(uz _).1,fun j q=>⟨c3,(zP j q).1,l3 zO (ai rfl)⟩,?_⟩
  have OQ:=(uz ae).2
  induction f:fZ (bG n).e3 (dZ s w)with
  |false=>
   have oa:∀{K:a0} {X:J ap→Prop},K (.be ae) (hD h L0 L1)→bx (l+8) 46 [dY s,.ac (fC w),.aF b2.s,.V n,.V (ob (bG n).bk p o),fp p] (hD h L0 L1) K X:=fun q=>alw (l:=l+5) te aA f q
   cases q:p with
   |none=>
    have z:=(uz (sh&& !(ab:ax aq).isSome))
    rw[f] at z
    rw[q] at oa
    exact HT c8 dm z.1 z.2 oa
   |some j=>
    have e:=(zP j q).1
    subst e
    have z:=Yr (s:=dZ s w) zO hi gu
    rw[f] at z
    rw[q] at oa
    rw[Es,IJ,rK]
    exact HT c8 dm z.1 z.2 oa
  |true=>
   rw[f] at OQ
   induction q:p with
   |none=>
    have z:=(uz (sh&& !(ab:ax aq).isSome))
    rw[f] at z
    exact YI c8 dm bE aA f bC z.1 z.2 OQ nofun
   |some j=>
    have zP:=zP j q
    have e:=zP.1
    subst e
    have z:=Yr (s:=dZ s w) zO hi gu
    rw[f,II] at z
    rw[Es,IJ,rK]
    induction dd:d6 (bG n).bk with
    |true=>
     rw[dd] at z
     exact YI c8 dm bE aA f bC z.1 z.2 OQ fun j q=>⟨dd,c3,(bo q).symm,l3 zO (ai rfl)⟩
    |false=>
     rw[dd] at z
     have c5:=zP.2
     rw[wU,dd,IG,DN] at c5
     have ws:b2=.gv:=by
      have a:=(ct.mp c5).1
      revert a;induction b2<;>first|exact fun I=>rfl|exact nb
     subst ws
     have own:=Dg (w:=w) c8 dm
     refine HT c8 dm z.1 z.2 fun {K X} q=>Ox (l:=l+5) te aA f fun {call R aM lX lY} hc lv=>Yi hc (te.gO (w:=w)) (ao own.bJ (ao bE (ai rfl))) own.gV (YH bC) rfl (.rA dd) (fun I=>nn) lv q
end
section
variable {K:a0}{cells:J aq}
theorem amz (c8:cU .dH t L0)(dm:cU s t L1)(bE:t≤9)(bU:h≤890)(cL:cells.length≤100)(k:∀ko kp,cU .dH (t+1) ko→cU s (t+1) kp→K (.be af) (hD (h+6) ko kp)):bx (l+9) 48 [.aP (cells.map .ac),.bb 0,dY s] (hD h L0 L1) K X:=
 cZ rfl (full:=[.aP (cells.map .ac),.bb 0,dY s]) rfl (loc:=[B (.aP (cells.map .ac)),B (.bb 0),B (dY s),ab,ab,ab,ab,ab,ab,ab,ab,ab,ab,ab,ab,ab,ab]) rfl fun call R aM hc r y=>by
  have fin:∀ko kp,cU .dH (t+1) ko→cU s (t+1) kp→R (.be af) (hD (h+6) ko kp):=fun ko kp a b=>r (cm rfl (k ko kp a b))
  refine alW hc bU cL fun w i sh c3 b2 o of hi zO bC=>alM (alN (alO (fun b e=>Ys hi e) hc ?_))
  induction ne:((bS (hO i) (fun n=>n==e5) ae&&zG b2)||((hO i).isSome&&(zH b2&&bS (hO i) (fun n=>!fZ (bG n).e3 (dZ s w)) ae)))with
  |true=>exact fin L0 L1 c8.up dm.up
  |false=>
   have z:=amx (l:=l) (h:=h+6) (sh:=sh) c8 dm bE hi zO bC _ rfl ne
   generalize wV (wY i) b2 i c3=p at z⊢
   refine alP (n:=hO i) hi rfl fun wT=>alQ hc z.1 z.2.1 ?_
   refine z.2.2.elim fun v z=>?_;refine z.elim fun qU z=>?_;refine z.elim fun ko z=>?_;refine z.elim fun kp z=>?_
   exact alI (v:=v) hc z.2.2.1 z.2.2.2 (fin ko kp z.1 z.2.1)
end
section
variable {K:a0}{R:a0}{call:ah→ah→J D→J ap→a0→(J ap→Prop)→Prop}
noncomputable def amA (b:aZ):J am:=bD b [84,114,117,101] [70,97,108,115,101]
theorem amB (h:K (.V (amA b)) hp):bx (l+1) 47 [.be b] hp K X:=
 cZ rfl (full:=[.be b]) rfl (loc:=[B (.be b)]) rfl fun call R aM hc r y=>by
  refine a6 rfl ?_
  induction b with
  |true=>
   exact ak (ai rfl) (uO (CE _) (ai rfl) (r (cm rfl h)))
  |false=>
   exact ak (ai rfl) (uO (CE _) (ai rfl) (r (cm rfl h)))
theorem hm.app (H:hm hp L0 L1):hm (hp++ex) L0 L1:=by
 have z:∀{i:ah} {o:ap},hp[i]?=B o→(hp++ex)[i]?=B o:=fun e=>(jC (gc.mp e).1).trans e
 exact⟨z H.v0,z H.v1,z H.pD,z H.jf⟩
theorem amC (aw:ws.length < 64)(h:K (.aP ((eV ws).map .V)) hp):j5 ae .fS [.aP (ws.map .V)] hp K:=
 show bF (nJ hp (.aP (ws.map .V))) fun l=>bF (dF D.f5 l) fun cK=>cK.length < 64∧K (.aP ((eV cK).map .V)) hp from cf (a:=ws.map D.V) rfl (cf (Xo ws) (ak aw h))
theorem amD (e:hp[i]?=B (.br a))(aw:a.length+q.length≤1000000)(h:K (.bb hp.length) (hp++[.br (a++q)])):pM af .Add (.bb i) (.aP q) hp K:=by
 have z:gB hp (.bb i)=B a:=by show hp[i]?.bind ap.oB=_;refine Y e ?_;rfl
 show bF (gB hp (.bb i)) fun a=>bF (gB hp (.aP q)) fun b=>a.length+b.length≤1000000∧hX af (.br (a++b)) (.aP (a++b)) hp K
 exact Y z (ak aw h)
theorem OR (aw:ws.length≤5000)(h:K .aK (hp++[.br ((ws++[b]).map .V)])):mg .eP (.bb hp.length) [.V b] (hp++[.br (ws.map .V)]) K:=by
 refine zf ((cH ..).symm▸ao aw (ai rfl)) ?_
 rw[eS] at h;exact h
noncomputable abbrev zQ (s:Sc)(w:aZ)(ns amE:ax D)(n:J am)(i:ah)(cb cg:ax D):cD:=[B (dY s),B (.ac (fC w)),ns,B (.bb i),B (.V n),amE,cb,cg]
theorem HU (e:a9 (t≠0)=v)(h:K (.be v) hp):sj hp (.be b) t K:=by subst e;exact h
theorem OS (e:a9 (t=1)=v)(h:K (.be v) hp):sj hp (.ac i) t K:=by subst e;exact h
theorem YJ (n:t≠1)(e:a9 (t=0)=v)(h:K (.be v) hp):sj hp (.a5 m) t K:=by subst e;exact ak n (cf (a:=m) (o:=fK hp (.a5 m)) rfl h)
theorem amF (hc:∀{aU f ds hp K X},aU≤l+2→bx aU f ds hp K X→call aU f ds hp K X)(aA:n.length≤18)(av:jT k d)(b0:d6 k=ae)(aw:acc.length≤5000)(h:∀cg,P (zQ s w ns (B d) n hp.length cb cg) (hp++[.br ((acc++[CY n d]).map .V)])):
  dX ⟨l+2,call,b6,b5⟩ 56 [.bW 7 (.a7 (.e1 (.ji (.aa 5) 1)) (.bp 47 [(.aa 5)]) (.aa 5)),.a7 (.e1 (.ji (.aa 5) 2)) [.bW 7 (.a7 (.e1 (.aa 5)) (.ag (.V [111,110])) (.ag (.V [111,102,102])))] [],.eU (.bm (.aa 3) .eP [(.a4 ae .Add (.a4 ae .Add (.aa 4) (.ag (.V [32]))) (.bp 49 [(.aa 7)]))])]
   (fun I=>bt) (zQ s w ns (B d) n hp.length cb cg) (hp++[.br (acc.map .V)]) P (fun d hp=>R d hp) P:=by
 have tail:dX ⟨l+2,call,b6,b5⟩ 54 [.eU (.bm (.aa 3) .eP [(.a4 ae .Add (.a4 ae .Add (.aa 4) (.ag (.V [32]))) (.bp 49 [(.aa 7)]))])] (fun I=>bt) (zQ s w ns (B d) n hp.length cb (B (.V (uR d)))) (hp++[.br (acc.map .V)]) P (fun d hp=>R d hp) P:=by
  o_norm
  refine cf kl (ak rfl ?_)
  refine ak (ao (dR aA 1) (ai rfl)) (hc (a8 _) (XR (l:=l+1) (ao (CZ av) (ai rfl)) ?_))
  refine ak ?_ (ak kl (OR aw (h _)))
  exact Y cG (ao (eZ (dR aA 1) (zA (CZ av))) (ai rfl))
 o_norm
 induction av with
 |fo b=>
  refine HU (v:=af) rfl (fu ?_)
  refine cI rfl (hc (a8 _) (amB (l:=l+1) ?_))
  refine HU (v:=af) rfl (fu ?_)
  refine cI rfl ?_
  induction b with
  |true=>exact tail
  |false=>exact tail
 |iI aA=>
  exact OS (v:=af) rfl (fu (cI rfl (hc (a8 _) (HB (l:=l+1) aA tail))))
 |eC=>exact cr b0 (fun q=>dO q.symm)
 |fP=>exact tail
theorem amG (hc:∀{aU f ds hp K X},aU≤l+2→bx aU f ds hp K X→call aU f ds hp K X)(aA:n.length≤18)(av:uP m)(aw:acc.length≤4900)(h:∀cb,P (zQ s w ns (B (.a5 m)) n (hp++[ap.br (acc.map .V)]).length cb cg) (hp++[ap.br (acc.map .V)]++[.br ((acc++iJ n (.a5 m)).map .V)])):
  dX ⟨l+2,call,b6,b5⟩ 56 [.bW 3 (.a4 af .Add (.aa 3) (.a7 (.aH .Eq (.aa 5) (.a5 ae [] [])) (.aP ae [(.aa 4)]) (.aP ae []))),.gS [6] (.c0 (.bi ae .fS [(.aa 5)])) [.eU (.bm (.aa 3) .eP [(.a4 ae .Add (.a4 ae .Add (.a4 ae .Add (.a4 ae .Add (.aa 4) (.ag (.V [91]))) (.bp 47 [(.aa 6)])) (.ag (.V [93,32]))) (.bp 49 [(.bh (.aa 5) (.aa 6))]))])]]
   (fun I=>bt) (zQ s w ns (B (.a5 m)) n hp.length cb cg) (hp++[ap.br (acc.map .V)]) P (fun d hp=>R d hp) P:=by
 have go:∀q:J (J am),q.length≤1→q++(ha (gN m)).map (lk n m)=iJ n (.a5 m)→pM af .Add (.bb hp.length) (.aP (q.map .V)) (hp++[ap.br (acc.map .V)]) fun d hp=>dX ⟨l+2,call,b6,b5⟩ 55 [.gS [6] (.c0 (.bi ae .fS [(.aa 5)])) [.eU (.bm (.aa 3) .eP [(.a4 ae .Add (.a4 ae .Add (.a4 ae .Add (.a4 ae .Add (.aa 4) (.ag (.V [91]))) (.bp 47 [(.aa 6)])) (.ag (.V [93,32]))) (.bp 49 [(.bh (.aa 5) (.aa 6))]))])]] (fun I=>bt) [B (dY s),B (.ac (fC w)),ns,B d,B (.V n),B (.a5 m),cb,cg] hp P (fun d hp=>R d hp) P:=fun q y2 e=>by
  refine amD hg (ao (eZ ((cH ..).symm▸aw:(acc.map D.V).length≤4900) ((cH ..).symm▸y2)) (ai rfl)) ?_
  refine eS▸?_
  o_norm
  refine XT av ?_
  refine ak ((cH ..).symm▸ao zw (ao (ir av.bJ) (ai rfl))) ?_
  have bH:(acc++q).length≤4901:=by exact Y cG (eZ aw y2)
  refine lb (σ:=J (J am)×ax D) D.ac (fun t=>zQ s w ns (B (.a5 m)) n (hp++[ap.br (acc.map .V)]).length t.2 cg) (fun t=>hp++[ap.br (acc.map .V)]++[.br (t.1.map .V)]) (fun r t=>(∀i∈r,i∈ha (gN m))∧t.1.length+r.length≤4999∧t.1++r.map (lk n m)=acc++iJ n (.a5 m)) (fun t i=>?_) (fun c r t i Q dJ=>?_) (ha (gN m)) (acc++q,cb) ⟨fun I=>id,ao (eZ bH (ao (zw (m:=m)) (ir av.bJ))) (ai rfl),Y (dE ..) (Y e rfl)⟩
  ·have i:=(en _).symm.trans i.2.2
   exact Y i (h _)
  ·induction zx av.ju (i.1 c (.head _))with|intro k g=>
   have e:=g.1
   subst e
   have jQ:=XU (m:=m) (i:=k) aA g.2.2.2
   o_norm
   refine cf kl (ak rfl ?_)
   refine ak (ao (dR aA 1) (ai (b:=16777216) rfl)) (hc (a8 _) (HB (l:=l+1) g.2.1 ?_))
   refine ak ?_ (ak (ao (by rw[cG] at jQ;exact jQ) (ai (a:=100) rfl)) (qk rfl g.2.2.1 (hc (a8 _) (XR (l:=l+1) (ao g.2.2.2 (ai rfl)) ?_))))
   ·rw[cG,cG] at jQ;exact ao (ao (ed _ _) jQ) (ai (a:=100) rfl)
   ·exact ak (ao (eZ jQ (zA g.2.2.2)) (ai (a:=100+(4 *100+2)) rfl)) (ak kl (OR (ao (ao (ed ..) i.2.1) (ai rfl)) (dJ (t.1++[lk n m k],B (.ac k)) ⟨fun j q=>i.1 j (.tail _ q),by refine Y (cG ..) (Y (gd ..) ?_);exact ao (eT (bl (t.1.length+·) (fQ 1 r.length))) i.2.1,Y (dE ..) i.2.2⟩)))
 o_norm
 refine ak (ai rfl) (cf (a:=m) (o:=fK (hp++[ap.br (acc.map .V)]) (.a5 m)) (F:=fun l=>ei l.isEmpty _ _) rfl ?_)
 have e:iJ n (.a5 m)=bD m.isEmpty [n] ((ha (gN m)).map (lk n m)):=rfl
 induction f:m.isEmpty with
 |true=>
  refine cI rfl (ak (ai rfl) (go [n] (ai rfl) ?_))
  refine Y e (Y f (Y (ks.mp f) ?_));rfl
 |false=>exact cW rfl (ak (ai rfl) (go [] (ai rfl) (by refine Y e (Y f ?_);rfl)))
theorem HV {n:ah}{aQ Kc:fL}(h:∀F:D→cD→J ap→fL→Prop,(∀d loc hp aQ,hI jK d loc (fun loc=>dX c n b (fun I=>bt) loc hp aQ Kr aQ)→F d loc hp aQ)→mX c n e aM loc hp fun ds hp=>gk F ds loc hp aQ):f6 c (n+1) (.gS jK e b) aM loc hp aQ Kr Kc:=h _ fun I I I I x=>x
theorem o9 {n:ah}{t:cS}{aQ Kc:fL}(av:oc c n t aM loc hp v)(aY:v=af→dX c n b aM loc hp aQ Kr Kc)(bu:v=ae→dX c n o aM loc hp aQ Kr Kc):f6 c (n+1) (.a7 t b o) aM loc hp aQ Kr Kc:=av _ (eW aY bu)
theorem HW {n:ah}{s:cT}{aQ Kc:fL}(h:f6 c (n+1) s aM loc hp aQ Kr Kc):dX c (n+2) [s] aM loc hp aQ Kr Kc:=h
theorem YK (H:hm hp L0 L1)(ok:∀n∈ns,rx (dT w L0 L1) n)(aw:ns.length < 64)(h:K (.aP (((eV ns).flatMap (ng (dT w L0 L1))).map .V)) hp):bx (l+3) 51 [dY s,.ac (fC w),.aP (ns.map .V)] hp K X:=
 cZ rfl (full:=[dY s,.ac (fC w),.aP (ns.map .V)]) rfl (loc:=[B (dY s),B (.ac (fC w)),B (.aP (ns.map .V)),ab,ab,ab,ab,ab]) rfl fun call R aM hc r y=>by
  have ch:(eV ns).length≤64:=ao (eT (jw _).length_eq) (ir aw)
  refine a6 rfl ?_
  refine ak (ai rfl) ?_
  refine a6 (k:=1) rfl (HV fun F kq=>?_)
  o_norm
  refine amC aw ?_
  refine ak ((cH ..).symm▸ao ch (ai rfl)) ?_
  refine lb (σ:=J (J am)×J ap×ax D×ax D×ax D×ax D) D.V (fun t=>[B (dY s),B (.ac (fC w)),B (.aP (ns.map .V)),B (.bb t.2.1.length),t.2.2.1,t.2.2.2.1,t.2.2.2.2.1,t.2.2.2.2.2]) (fun t=>t.2.1++[.br (t.1.map .V)])
   (fun r t=>(∃ex,t.2.1=hp++ex)∧(∀n∈r,n∈eV ns)∧t.1.length+60 *r.length≤60 *64∧t.1++r.flatMap (ng (dT w L0 L1))=(eV ns).flatMap (ng (dT w L0 L1))) (fun t j=>?_) (fun n q t j P bI=>?_) (eV ns) ([],hp,ab,ab,ab,ab) ⟨⟨[],(en hp).symm⟩,fun I=>id,(iP _).symm▸hR 60 ch,rfl⟩
  ·induction t with|mk acc t=>induction t with|mk OT t=>
   refine j.1.elim fun ex e=>?_
   have e:OT=hp++ex:=e
   subst e
   have j:acc=_:=(en _).symm.trans j.2.2.2
   exact Y j (a6 (k:=2) rfl (r (XW (Oo _) h)))
  ·induction t with|mk acc t=>induction t with|mk OT t=>induction t with|mk dt t=>induction t with|mk cJ t=>induction t with|mk cb cg=>
   induction ok n ((jw _).mem_iff.mp (j.2.1 n (.head _)))with|@mk d aA e av=>
   have al:acc.length≤4900:=ao (ao (ed ..) j.2.2.1) (ai rfl)
   have cv:∀Di a b c,(∃ex,Di=hp++ex)→P [B (dY s),B (.ac (fC w)),B (.aP (ns.map .V)),B (.bb Di.length),B (.V n),a,b,c] (Di++[.br ((acc++iJ n d).map .V)]):=fun Di a b c x=>by
    refine bI (acc++iJ n d,Di,B (.V n),a,b,c) ⟨x,fun x q=>j.2.1 x (.tail _ q),?_,?_⟩
    ·have z:=j.2.2.1
     rw[iO,tu] at z
     exact Y (cG ..) (Y (gd ..) (ao (eH (fQ _ _▸eH (HD av) _) _) z))
    ·have z:=j.2.2.2
     rw[rO,←dE,ng,e] at z;exact z
   refine j.1.elim fun ex ep=>?_
   subst(ep:OT=hp++ex)
   refine kq _ _ _ _ (hc (a8 _) (HG (l:=l+1) (L0:=L0) (L1:=L1) H.app.app ?_))
   refine e▸?_
   refine HW (o9 (v:=d6 (bG n).bk) (fun G g=>?_) (fun dd=>?_) fun dd=>?_)
   ·o_norm
    revert g
    generalize(bG n).bk=kk at av
    intro g
    induction av with
    |fo b=>exact HU (v:=ae) rfl g
    |iI=>exact OS (v:=ae) rfl g
    |eC=>exact YJ (t:=0) (by decide) (v:=af) rfl g
    |fP aN=>rw[(zy aN).2.2] at g;exact g
   ·refine(av.jS dd).elim fun m z=>?_
    have gI:=z.1
    subst gI
    exact amG (hp:=hp++ex) (P:=P) (R:=R) hc aA.2 z.2 al fun cb=>cv _ _ _ _ ⟨ex++[_],dE ..⟩
   ·have mn:iJ n d=[CY n d]:=by rw[iJ,av.zz dd];rfl
    exact amF (hp:=hp++ex) (P:=P) (R:=R) (ns:=B (.aP (ns.map .V))) (s:=s) (w:=w) (cb:=cb) (cg:=cg) hc aA.2 av dd (ao al (ai rfl)) fun cg=>(mn▸cv) _ _ _ _ ⟨ex,rfl⟩
end
inductive HX (c:am):J am→Prop
 |dW (h:c≠92):HX c [c]
 |mU (h:(a9 ((48:aq)≤c.toNat)&&a9 ((c.toNat:aq)≤55))=ae):HX c [92,c]
 |uU {x y z:am}(h:(a9 ((48:aq)≤x.toNat)&&a9 ((x.toNat:aq)≤55))=af)(e:64 *((x.toNat:aq) - 48)+8 *((y.toNat:aq) - 48)+z.toNat - 48=c.toNat):HX c [92,x,y,z]
noncomputable def amH (c:am):aZ:=match eR c with
 | [x]=>x==c&&x !=92
 | [x,y]=>x==92&&y==c&& !(a9 ((48:aq)≤y.toNat)&&a9 ((y.toNat:aq)≤55))
 | [v,x,y,z]=>v==92&&(a9 ((48:aq)≤x.toNat)&&a9 ((x.toNat:aq)≤55))&&64 *((x.toNat:aq) - 48)+8 *((y.toNat:aq) - 48)+z.toNat - 48==c.toNat
 |_=>ae
theorem amI:∀n,n < 256→amH (E8 n)=af:=by decide+kernel
theorem YL (c:am):HX c (eR c):=by
 have h:=amI c.toNat c.toNat_lt
 have h:=Kx▸h
 have h:(match eR c with
  | [x]=>x==c&&x !=92
  | [x,y]=>x==92&&y==c&& !(a9 ((48:aq)≤y.toNat)&&a9 ((y.toNat:aq)≤55))
  | [v,x,y,z]=>v==92&&(a9 ((48:aq)≤x.toNat)&&a9 ((x.toNat:aq)≤55))&&64 *((x.toNat:aq) - 48)+8 *((y.toNat:aq) - 48)+z.toNat - 48==c.toNat
  |_=>ae)=af:=h
 revert h
 generalize eR c=q
 intro h
 cases q with
 |nil=>exact nb h
 |cons x q=>cases q with
  |nil=>
   have h:=ct.mp h
   have e:=c9 h.1
   subst e
   exact .dW (r3.mp h.2)
  |cons y q=>cases q with
   |nil=>
    have h:=ct.mp h
    have aY:=ct.mp h.1
    refine Y (c9 aY.1) ?_
    have e:=c9 aY.2
    subst e
    exact .mU (l2.mp h.2:_=!af)
   |cons z q=>cases q with
    |nil=>exact nb h
    |cons v q=>induction q with
     |nil=>
      have h:=ct.mp h
      have aY:=ct.mp h.1
      exact Y (c9 aY.1) (.uU aY.2 (c9 h.2))
     |cons=>exact nb h
theorem amJ (h:uN b=af):∃c r,b=c::r∧c≠34:=by
 have h:=ct.mp h
 induction b with
 |nil=>exact nb h.1
 |cons c r=>
  have z:=(ct.mp ((xz ..).symm.trans h.2)).1
  exact⟨c,r,rfl,fun e=>by have z:=e▸z;revert z;decide⟩
section
variable {K:a0}
theorem u1 {i:ah}(e:q[i]?=B c)(bH:q.length≤9000)(h:K (.ac c.toNat) hp):g9 hp K (.V q) (.ac i):=ak ⟨gY i,ao bH (ai rfl)⟩ (cf e h)
theorem OU (e:i=c.toNat)(aw:u.length≤5000)(h:K .aK (hp++[.br ((u++[c]).map dL)])):mg .eP (.bb hp.length) [.ac i] (hp++[.br (u.map dL)]) K:=by
 subst e
 refine zf ((cH ..).symm▸ao aw (ai rfl)) ?_
 rw[eS] at h;exact h
theorem amK (aw:u.length≤1000000)(h:K (.V u) (hp++[.br (u.map dL)])):j5 ae .V [.bb hp.length] (hp++[.br (u.map dL)]) K:=by
 show yk _ _ _
 have e:(((D.bb hp.length).yj.bind fun i=>(hp++[ap.br (u.map dL)])[i]?).bind ap.f5)=ab:=by show((hp++[ap.br (u.map dL)])[hp.length]?).bind ap.f5=_;refine Y hg ?_;rfl
 rw[yk,e]
 exact cf Hm (cf (CE u) (ak aw h))
theorem amL {x y:J am}(e:i=x.length+j):(x++y)[i]?=y[j]?:=Y e (Y (Ab (ed ..)) (Y (Jh ..) rfl))
theorem YM (x:am):kB ((x.toNat:aq) - 48):=
 e6 (Int.natAbs_sub_le _ _) (l3 (QJ x.toNat_lt 48) (ai rfl))
theorem nq (h:K (.ac (i+j)) hp):pM f .Add (.ac i) (.ac j) hp K:=h
theorem amM {b:J cT}{aQ Kc:fL}(h:∀F:cD→J ap→fL→Prop,(∀loc hp aQ,dX c n b (fun I=>bt) loc hp aQ Kr aQ→F loc hp aQ)→∃k,md (fun loc hp K=>jl c n t (fun I=>bt) loc hp K) F k loc hp aQ):f6 c (n+1) (.md t b) aM loc hp aQ Kr Kc:=h _ fun I I I x=>x
theorem amN (f:J am):c1 (34::(f++[34])) (B 1) (B (-1))=f:=by
 have e:(34::(f++[34])).length=f.length+2:=by refine Y iO (Y cG ?_);rfl
 have aT:ia (34::(f++[34])).length 1=1:=(JT _ 1).trans (Js (e▸kt 1 _))
 have aN:ia (34::(f++[34])).length (-1)=f.length+1:=(clipAt_neg _ 1 (a8 1)).trans (e▸rfl)
 show(vj (ia (34::(f++[34])).length (-1)) _).drop (ia (34::(f++[34])).length 1)=f
 rw[aT,aN,List.take_succ_cons,List.drop_succ_cons,Ai,Qu]
 rfl
theorem YN {f:J am}:c1 (c::f) ab (B 1)=[c]:=by
 have e:ia (c::f).length 1=1:=(JT _ 1).trans (Js (kt 1 _))
 show(vj (ia (c::f).length 1) (c::f)).drop 0=[c]
 refine e▸?_;rfl
theorem amO (ay:b.length≤400)(h:K (.V b) hp):bx (l+1) 50 [.V (hN b)] hp K X:=
 cZ rfl (full:=[.V (hN b)]) rfl (loc:=[B (.V (hN b)),ab,ab,ab]) rfl fun call R aM hc ret y=>by
  have y2:(hN b).length≤1602:=zA ay
  have OV:=ao y2 (ai (b:=16777216) rfl)
  have gV:(b.flatMap eR).length≤1600:=ao (HA b) (hR 4 ay)
  refine a6 rfl ?_
  o_norm
  refine ak OV (rq ?_)
  induction p:uN b with
  |true=>
   have e:hN b=b:=by rw[hN,p];rfl
   refine Y e ?_
   refine(amJ p).elim fun c z=>?_;refine z.elim fun t z=>?_
   refine cI (r3.mpr fun q=>z.2 ?_) (ret (cm rfl h))
   rw[z.1] at q
   exact(xA (show[c]=[34] from YN▸q)).1
  |false=>
   have e:hN b=34::(b.flatMap eR++[34]):=by rw[hN,p];rfl
   rw[e] at OV y2⊢
   refine cW (by refine YN.symm▸?_;rfl) (a6 (k:=1) rfl ?_)
   o_norm
   refine ak (ai rfl) (ak OV (ak (ai rfl) (ak rfl ?_)))
   refine Y (amN _:c1 (34::(b.flatMap eR++[34])) (B 1) (B (-1))=b.flatMap eR) ?_
   refine a6 (k:=2) rfl (amM fun F kq=>⟨b.length+1,?_⟩)
   refine CB (σ:=J am×J am) (fun t=>[B (.V (34::(b.flatMap eR++[34]))),B (.bb hp.length),B (.ac (t.1.flatMap eR).length),B (.V (b.flatMap eR))]) (fun t=>hp++[.br (t.1.map dL)]) (fun k t=>t.1++t.2=b∧t.2.length < k) (fun t i=>cr i.2 (Er _)) (fun k t i P bI=>?_) (b.length+1) ([],b) ⟨rfl,rP _⟩
   induction t with|mk u r=>
   have rj:=i.1
   have OW:b.flatMap eR=u.flatMap eR++r.flatMap eR:=by exact cN IX (rj.symm▸rfl)
   show jl _ _ _ _ _ _ _
   o_norm
   refine ak (ao gV (ai rfl)) (mz ?_)
   induction r with
   |nil=>
    have rj:u=b:=(en u).symm.trans rj
    refine Y rj (Y (jZ (Int.lt_irrefl _)) ?_)
    refine cW rfl (a6 (k:=3) rfl ?_)
    o_norm
    exact amK (ao ay (ai rfl)) (ret (wA cy h))
   |cons c r=>
    have OX:u.length≤5000:=ao (Ol rj) (ao ay (ai rfl))
    rw[rO] at OW
    have cv:∀a:aq,a=(u.flatMap eR).length+(eR c).length→P [B (.V (34::(b.flatMap eR++[34]))),B (.bb hp.length),B (.ac a),B (.V (b.flatMap eR))] (hp++[.br ((u++[c]).map dL)]):=fun a e=>by
     have z:=bI (u++[c],r) ⟨by refine Y (dE ..) ?_;exact rj,Ak i.2⟩
     have aN:(((u++[c]).flatMap eR).length:aq)=a:=by refine Y (IX ..) (Y (cG ..) (Y e (Y (rO ..) (Y (List.flatMap_nil ..) (Y (en ..) ?_)))));rfl
     exact cN aN z
    have at_:∀{j x},(eR c)[j]?=B x→(b.flatMap eR)[(u.flatMap eR).length+j]?=B x:=fun {j x} e=>by
     refine Y OW (Y (amL rfl) (Y (jC (gc.mp e).1) ?_));exact e
    refine Y (eO (by
     have z:0 < (eR c).length:=by
      have q:=YL c
      revert q
      generalize eR c=v
      intro q
      induction q<;>exact tt _
     exact Y OW (Y cG (Y cG (h7.mpr (Eo (Nat.add_pos_left z _)))))):a9 (((u.flatMap eR).length:aq) < (b.flatMap eR).length)=af) ?_
    have q:=YL c
    revert cv at_ q
    generalize eR c=v
    generalize(u.flatMap eR).length=rC
    intro cv at_ q
    have ty:k0 (hp++[ap.br (u.map dL)]) (.bb hp.length)=B .br:=kl
    have gV:=ao gV (ai (b:=9000) rfl)
    refine cI rfl (kq _ _ _ ?_)
    o_norm
    refine u1 (i:=rC) (at_ (j:=0) (x:=v.headD 0) (by induction q<;>rfl)) gV ?_
    induction q with
    |dW ne=>
     exact wF (cI (r3.mpr fun q=>ne (UInt8.toNat_inj.mp (vb.mp q))) (cf ty (ak rfl (u1 (i:=rC) (at_ (j:=0) rfl) gV (ak ty (OU rfl OX (cv _ rfl)))))))
    |mU f=>
     refine wF (cW rfl ?_)
     refine nq (u1 (i:=rC+1) (at_ (j:=1) rfl) gV ?_)
     refine wz (fun a=>cr (f.symm.trans a) dO) fun I=>?_
     exact cf ty (ak rfl (nq (u1 (i:=rC+1) (at_ (j:=1) rfl) gV (ak ty (OU rfl OX (cv _ rfl))))))
    |@uU x y z f e=>
     refine wF (cW rfl ?_)
     refine nq (u1 (i:=rC+1) (at_ (j:=1) rfl) gV ?_)
     refine wz (fun I=>?_) fun a=>cr (a.symm.trans f) fun q=>dO q
     refine cf ty (ak rfl ?_)
     refine nq (u1 (i:=rC+1) (at_ (j:=1) rfl) gV (sT (ak ⟨jy rfl,YM x⟩ ?_)))
     refine nq (u1 (i:=rC+2) (at_ (j:=2) rfl) gV (sT (ak ⟨jy rfl,YM y⟩ (nq ?_))))
     refine nq (u1 (i:=rC+3) (at_ (j:=3) rfl) gV (nq (sT (ak ty (OU e OX ?_)))))
     exact cv _ rfl
end
theorem YO (x:J am)(h:x.contains c=ae):∀i,eA [c] (x++c::y) i=B (i+x.length):=by
 induction x with
 |nil=>intro i;show(if((c==c)&&af)=af then B i else _)=_;refine Y (ie ..) ?_;rfl
 |cons a x az=>
  intro i
  have h:=lq.mp ((vf ..).symm.trans h)
  show(if((c==a)&&af)=af then B i else eA [c] (x++c::y) (i+1))=_
  rw[h.1,az h.2,iO,gd,fQ 1];rfl
theorem YP (x:J am)(h:x.contains c=ae):∀i,eA [c] x i=ab:=by
 induction x with
 |nil=>exact fun I=>rfl
 |cons a x az=>
  intro i
  have h:=lq.mp ((vf ..).symm.trans h)
  show(if((c==a)&&af)=af then B i else eA [c] x (i+1))=_
  rw[h.1,az h.2];rfl
theorem Dj (x:J am)(h:x.contains c=ae):dC c x=[x]:=by
 induction x with
 |nil=>rfl
 |cons a x az=>
  have h:=lq.mp ((vf ..).symm.trans h)
  have ne:(a==c)=ae:=Ky fun e=>jY.mp h.1 e.symm
  show(if(a==c)=af then _ else match dC c x with|p::aI=>(a::p)::aI| []=>[[a]])=_
  refine Y ne (Y (az h.2) ?_);rfl
theorem YQ (h:x.contains c=ae):dC c (x++[c]++y)=x::dC c y:=by rw[OJ,Dj x h];rfl
theorem YR:∀n∈e5::kn,n.contains 32=ae∧n.contains 91=ae∧n≠[]:=by decide
theorem amP:∀k,k < 256→(hh k++[93]).contains 32=ae:=by decide+kernel
theorem amQ:∀n∈e5::kn,d6 (bG n).bk=af→n=[114,111,119,115]:=by decide
theorem amR:∀k,k < 256→wZ .dH (nj [114,111,119,115] k) [114,111,119,115] (B (k:ah)) af=af:=by decide+kernel
theorem amS:∀n∈e5::kn,(wZ .dH n n ab (fZ (bG n).e3 .dH)&&wZ .iD n n ab (fZ (bG n).e3 .iD))=af:=by decide+kernel
theorem og (h:gW n):n∈e5::kn:=OH (P:=fun n=>n∈e5::kn) (fun n m=>.tail _ m) (.head _) h
theorem amT (h:gW n)(f:fZ (bG n).e3 sc=af):eX sc n=B (n,ab,bG n):=by
 have z:=ct.mp (amS n (og h))
 induction sc with
 |dH=>have y:=(zJ z.1).2;rw[f] at y;exact y
 |iD=>have y:=(zJ z.2).2;rw[f] at y;exact y
theorem YS (h:gW n)(f:fZ (bG n).e3 sc=af)(a:d6 (bG n).bk=af)(hk:k < 256):(nj n k).length≤18∧eX sc (nj n k)=B (n,B (k:aq),bG n):=by
 have e:=amQ n (og h) a
 have w:sc=.dH:=by rw[e] at f;induction sc with|dH=>rfl|iD=>exact cr f (by decide)
 exact Y w (Y e (zJ (amR k hk)))
def w4 (t:ah)(M:cn):Prop:=∀n d,cB M (.V n)=B d→eE t (bG n) d
theorem w4.amU (h:w4 t M)(aA:gW n):uZ [M] t n:=by
 refine⟨aA,fun d e=>?_,fun q=>?_⟩
 ·rw[d7,firstO_c] at e
  induction f:cB M (.V n)with
  |some x=>rw[f] at e;exact cN (bo e) (h n x f)
  |none=>
   rw[f] at e
   have e:(eL n).map d4.km=B d:=e
   induction g:eL n with
   |none=>have e:=g▸e;exact nn e
   |some k=>
    rw[g] at e
    rw[bG,g]
    exact cN (bo e) ((Yo g).le (jD t))
 ·rw[d7,firstO_c]
  induction cB M (.V n)with
  |some x=>rfl
  |none=>exact(vk ..).trans q
theorem w4.gv (h:w4 t M)(v:eE t (bG n) d):w4 t (cC M (.V n) d):=fun x y e=>by
 rw[sZ] at e
 by_cases q:bf.V x=.V n
 ·rw[b3 q] at e;exact Y (bf.V.inj q) (cN (bo e) v)
 ·rw[bL q] at e;exact h x y e
noncomputable def kr (m:cn)(a:cn)(i:aq):cn:=cC a (.ac i) (.V (qj m i))
noncomputable def w5 (m:cn):cn:=(ha (gN m)).foldl (kr m) []
noncomputable def lm (d:D):D:=bS d.mf (fun m=>.a5 (w5 m)) d
theorem amV (m:cn)(cK:J aq):∀a i,cB (cK.foldl (kr m) a) (.ac i)=if i∈cK then B (.V (qj m i))else cB a (.ac i):=by
 induction cK with
 |nil=>exact fun a i=>(bL mF).symm
 |cons k cK az=>
  intro a i
  rw[tp,az,kr,sZ]
  by_cases h:i∈cK
  ·exact Y (b3 h) (Y (b3 (.tail _ h)) rfl)
  ·refine Y (bL h) ?_
   by_cases e:i=k
   ·subst e;exact Y (b3 rfl) ((b3 (Qn ..)).symm▸rfl)
   ·exact Y (bL (fun q=>(cV.mp q).elim e h)) ((bL fun q=>e (bf.ac.inj q)).symm▸rfl)
theorem amW (m:cn)(cK:J aq):∀a,(∀i∈cK,d2 a (.ac i)=ae)→cK.Nodup→(cK.foldl (kr m) a).length=a.length+cK.length:=by
 induction cK with
 |nil=>exact fun a I I=>rfl
 |cons k cK az=>
  intro a h bY
  have bY:=mG.mp bY
  have e:kr m a k=a++[(.ac k,.V (qj m k))]:=HL (h k (.head _))
  rw[tp,az,e,cG,gd]
  ·exact bl (a.length+·) (fQ 1 cK.length)
  ·intro i hi
   rw[i4,kr,sZ]
   by_cases q:bf.ac i=.ac k
   ·exact cr (bf.ac.inj q▸hi) bY.1
   ·exact Y (bL q) (cN i4 (h i (.tail _ hi)))
  ·exact bY.2
noncomputable abbrev el (hp:J ap)(M:cn)(bg:J (J am)):J ap:=hp++[.bv M]++[.br (bg.map .V)]
section
variable {hp:J ap}{K:a0}{R:a0}{call:ah→ah→J D→J ap→a0→(J ap→Prop)→Prop}
theorem Dk:(hp++[o]).length=hp.length+1:=cG ..
theorem YT:(el hp M bg)[hp.length]?=B (.bv M):=(jC (Dk▸(rP _))).trans hg
theorem OY:(el hp M bg)[hp.length+1]?=B (.br (bg.map .V)):=(Dk (o:=.bv M))▸hg
theorem amX:(el hp M bg).set hp.length (.bv M')=el hp M' bg:=by rw[el,IW _ _ (by rw[Dk];exact rP _),sS]
theorem amY (aw:bg.length≤900)(h:K .aK (el hp M (bg++[n]))):mg .eP (.bb (hp.length+1)) [.V n] (el hp M bg) K:=cN (Dk (o:=.bv M)) (OR (ao aw (ai rfl)) h)
theorem HY (tf:M.length≤900)(ay:b.length≤18)(e:eX sc b=B (n,q,bG n))(z:ru [M] n q (bG n) (B v) (B d))(h:K .aK (el hp (cC M (.V n) d) bg)):bx (l+6) 15 [cx sc .aK hp.length,.V b,.V v] (el hp M bg) K X:=by
 refine Hy (v:=B v) (vs:=[]) (.dN rfl YT .fj) (ai rfl) tf ay e z ?_
 show K .aK ((el hp M bg).set hp.length (.bv (cC M (.V n) d)))
 exact Y amX h
theorem YU:cC (cC M ky x) ky y=cC M ky y:=by
 have any:∀{de:cn} {z:D},(de.map fun p=>if p.1=ky then(p.1,z)else p).any (fun p=>a9 (p.1=ky))=de.any fun p=>a9 (p.1=ky):=fun {de z}=>by
  refine Y El ?_
  refine bl (de.any ·) (x9 fun p=>?_)
  show a9 ((if p.1=ky then(p.1,z)else p).1=ky)=_
  by_cases e:p.1=ky
  ·exact Y (b3 e) rfl
  ·exact Y (bL e) rfl
 by_cases a:(M.any fun p=>a9 (p.1=ky))=af
 ·rw[cC,cC,cC,b3 a,b3 a,any,b3 a,vh]
  refine IY fun p I=>?_
  show(if(if p.1=ky then(p.1,x)else p).1=ky then((if p.1=ky then(p.1,x)else p).1,y)else if p.1=ky then(p.1,x)else p)=if p.1=ky then(p.1,y)else p
  by_cases e:p.1=ky
  ·exact Y (b3 e) (Y (b3 e) (Y (b3 e) rfl))
  ·exact Y (bL e) (Y (bL e) rfl)
 ·have f:=DL.mpr a
  rw[HL (m:=M) f,HL (m:=M) f,cC]
  refine Y (b3 (Y (Qv ..) (Y (Aj ..) (Y (eO rfl) (Y (PW ..) (Y (va ..) rfl)))):((M++[(ky,x)]).any fun p=>a9 (p.1=ky))=af)) (Y eS ?_)
  have amZ:M.map (fun p=>if p.1=ky then(p.1,y)else p)=M:=by
   refine(IY fun p q=>bL fun e=>a (qu.mpr ⟨p,q,eO e⟩)).trans (Em M)
  refine Y amZ ?_
  show M++[if ky=ky then(ky,y)else(ky,x)]=_
  exact Y (b3 rfl) rfl
theorem am0 {aQ:fL}(oN:J D)(dp:J D):∀{loc hp},gk F (dp++oN) loc hp aQ=gk F dp loc hp (fun loc hp=>gk F oN loc hp aQ):=by
 induction dp with
 |nil=>exact rfl
 |cons x dp az=>exact fun {loc hp}=>bl (F x loc hp) (x9 fun loc=>x9 fun hp=>az)
noncomputable abbrev mC (sc:Sc)(rows:D)(i:ah)(cJ cb cg:ax D):cD:=[B (.a5 eB),B (.aF sc.s),B rows,B (cx sc .aK i),B (.bb (i+1)),cJ,cb,cg]
noncomputable abbrev Dl:J cT:=[.ig [6,7] [(.bm (.aa 5) .oA [(.ag (.V [32]))]),(.bh (.bm (.bh (.bm (.aa 5) .pL [(.ag (.V [32]))]) (.ag (.ac 0))) .pL [(.ag (.V [91]))]) (.ag (.ac 0)))],.a7 (.cA ae [(.aH .Lt (.aa 6) (.ag (.ac 0))),(.cA af [(.aH .In (.ag (.V [91])) (.fs (.aa 5) ab (B (.aa 6)))),(.aH .NotIn (.aa 7) (.aa 4))])]) [.eU (.fJ (.aa 3) 15 [(.aa 7),(.ag (.V []))]),.eU (.bm (.aa 4) .eP [(.aa 7)])] [],.a7 (.aH .GtE (.aa 6) (.ag (.ac 0))) [.eU (.fJ (.aa 3) 15 [(.fs (.aa 5) ab (B (.aa 6))),(.bp 50 [(.fs (.aa 5) (B (.a4 ae .Add (.aa 6) (.ag (.ac 1)))) ab)])])] []]
noncomputable abbrev am1:J cT:=Dl.drop 1
theorem YV (e:ws=x::dp):(ws.map D.V)[0]?=B (.V x):=by refine e▸?_;rfl
theorem HZ {n k:ah}(h:k≤n):ia n (k:ah)=k:=(JT n k).trans (Js h)
theorem YW {x y:J am}:c1 (x++[32]++y) ab (B (x.length:ah))=x:=by
 show(vj (ia (x++[32]++y).length (x.length:ah)) (x++[32]++y)).drop 0=x
 rw[HZ (by rw[cG,cG,gd];exact ed ..),dE,Ai,Qu]
 rfl
theorem am2 {x y:J am}:c1 (x++[32]++y) (B ((x.length:aq)+1)) ab=y:=by
 show(vj (x++[32]++y).length (x++[32]++y)).drop (ia (x++[32]++y).length ((x.length+1:ah):aq))=y
 rw[HZ (by rw[cG,cG];exact ed ..),I3,List.drop_left']
 exact cG ..
theorem nr {n:ah}{aQ Kc:fL}(h:∀Q:fL,(∀loc hp,dX c n ss aM loc hp aQ Kr Kc→Q loc hp)→f6 c n s aM loc hp Q Kr Kc):dX c (n+1) (s::ss) aM loc hp aQ Kr Kc:=h _ fun I I x=>x
theorem YX (aL:row.length≤2000)(hf:mW row [32]=f)(aY:dC 32 row=W::Ct)(bu:dC 91 W=n::gm)(h:dX ⟨l+6,call,b6,b5⟩ 56 am1 (fun I=>bt) (mC sc rows hp.length (B (.V row)) (B (.ac f)) (B (.V n))) (el hp M bg) P (fun d hp=>R d hp) P):
  dX ⟨l+6,call,b6,b5⟩ 57 Dl (fun I=>bt) (mC sc rows hp.length (B (.V row)) cb cg) (el hp M bg) P (fun d hp=>R d hp) P:=by
 have zR:=ao aL (ai (b:=1000000) rfl)
 have ch:=sP 32 row
 have u0:W.length≤2000:=ao (ch.2 W (aY▸.head _)) aL
 refine nr fun Q dJ=>?_
 o_norm
 exact fX (ak rfl (ak rfl (ak ⟨zR,ai rfl⟩ (fX (ak rfl (ak rfl (ak zR (f9 (i:=0) (YV aY) ((cH ..).symm▸ao (ao ch.1 (d8 aL)) (ai rfl)) (fX (ak rfl (ak rfl (ak (ao u0 (ai rfl)) (f9 (i:=0) (YV bu) ((cH ..).symm▸ao (ao (sP 91 W).1 (d8 u0)) (ai rfl)) (ak (ai rfl) (ak rfl (dJ _ _ (Y hf h)))))))))))))))))
theorem am3 (h:F (!c7 n bg)):eg .NotIn (.V n) (.bb (hp.length+1)) (el hp M bg) F:=by
 have a:fK (el hp M bg) (.bb (hp.length+1))=ab:=by show((el hp M bg)[hp.length+1]?).bind ap.mf=ab;refine Y OY ?_;rfl
 have b:nJ (el hp M bg) (.bb (hp.length+1))=B (bg.map .V):=by show((el hp M bg)[hp.length+1]?).bind ap.oB=_;refine Y OY ?_;rfl
 show Fn (el hp M bg) (fun x=>F (!x)) (.V n) (.bb (hp.length+1))
 delta Fn
 exact Y a (Y b (ak zh h))
theorem YY (hc:∀{aU f ds hp K X},aU≤l+6→bx aU f ds hp K X→call aU f ds hp K X)(aw:bg.length≤900)(aG:∀{K:a0} {X:J ap→Prop},K .aK (el hp M' bg)→bx (l+6) 15 [cx sc .aK hp.length,.V n,.V []] (el hp M bg) K X)(h:P (mC sc rows hp.length cJ cb (B (.V n))) (el hp M' (bg++[n]))):
  dX ⟨l+6,call,b6,b5⟩ 54 [.eU (.fJ (.aa 3) 15 [(.aa 7),(.ag (.V []))]),.eU (.bm (.aa 4) .eP [(.aa 7)])] (fun I=>bt) (mC sc rows hp.length cJ cb (B (.V n))) (el hp M bg) P (fun d hp=>R d hp) Kc:=by
 have ty:∀{M bg},k0 (el hp M bg) (.bb (hp.length+1))=B .br:=fun {M bg}=>by show((el hp M bg)[hp.length+1]?).map ap.ty=_;refine Y OY ?_;rfl
 exact ak rfl (hc (a8 _) (aG (cf ty (ak rfl (ak ty (amY aw h))))))
theorem am4 (hc:∀{aU f ds hp K X},aU≤l+6→bx aU f ds hp K X→call aU f ds hp K X)(aA:n.length≤100)(Dm:n.contains 32=ae)(am5:n.contains 91=ae)(aw:bg.length≤900)(aG:∀{K:a0} {X:J ap→Prop},K .aK (el hp M' bg)→bx (l+6) 15 [cx sc .aK hp.length,.V n,.V []] (el hp M bg) K X)(h:∀cJ cb cg,P (mC sc rows hp.length cJ cb cg) (el hp M' (bg++[n]))):
  dX ⟨l+6,call,b6,b5⟩ 57 Dl (fun I=>bt) (mC sc rows hp.length (B (.V n)) cb cg) (el hp M bg) P (fun d hp=>R d hp) P:=by
 refine YX (f:= -1) (ao aA (ai rfl)) (by rw[mW,YP n Dm]) (Dj n Dm) (Dj n am5) ?_
 refine o9 (v:=af) (fun G g=>g) (fun I=>?_) iV
 refine YY (R:=R) hc aw aG ?_
 refine HW (o9 (v:=ae) (fun G g=>?_) nb fun I=>?_)
 ·exact g
 ·exact h _ _ _
theorem OZ (hc:∀{aU f ds hp K X},aU≤l+6→bx aU f ds hp K X→call aU f ds hp K X)(hw:W.length≤18)(av:v.length≤400)(Dm:W.contains 32=ae)(bu:dC 91 W=n::gm)(ea:(eA [91] W 0).isSome=z)(aw:bg.length≤900)(e:(z&&!c7 n bg)=nw)(aG:nw=af→bg1=bg++[n]∧∀{K:a0} {X:J ap→Prop},K .aK (el hp M1 bg)→bx (l+6) 15 [cx sc .aK hp.length,.V n,.V []] (el hp M bg) K X)(gr:nw=ae→M1=M∧bg1=bg)(bq:∀{K:a0} {X:J ap→Prop},K .aK (el hp M' bg1)→bx (l+6) 15 [cx sc .aK hp.length,.V W,.V v] (el hp M1 bg1) K X)(h:∀cJ cb cg,P (mC sc rows hp.length cJ cb cg) (el hp M' bg1)):
  dX ⟨l+6,call,b6,b5⟩ 57 Dl (fun I=>bt) (mC sc rows hp.length (B (.V (W++[32]++hN v))) cb cg) (el hp M bg) P (fun d hp=>R d hp) P:=by
 have jQ:(W++[32]++hN v).length≤2000:=Y cG (Y cG (ao (eZ (dR hw 1) (zA av)) (ai rfl)))
 have zR:=ao jQ (ai (b:=16777216) rfl)
 have fin:dX ⟨l+6,call,b6,b5⟩ 55 [.a7 (.aH .GtE (.aa 6) (.ag (.ac 0))) [.eU (.fJ (.aa 3) 15 [(.fs (.aa 5) ab (B (.aa 6))),(.bp 50 [(.fs (.aa 5) (B (.a4 ae .Add (.aa 6) (.ag (.ac 1)))) ab)])])] []] (fun I=>bt) (mC sc rows hp.length (B (.V (W++[32]++hN v))) (B (.ac (W.length:ah))) (B (.V n))) (el hp M1 bg1) P (fun d hp=>R d hp) P:=by
  refine HW (o9 (v:=af) (fun G g=>?_) (fun I=>?_) iV)
  ·o_norm
   exact CC (Y (eO (gY _)) g)
  ·o_norm
   exact ak rfl (ak zR (Y (YW:c1 (W++[32]++hN v) ab (B (W.length:ah))=W) (nq (ak zR ((am2:c1 (W++[32]++hN v) (B ((W.length:aq)+1)) ab=hN v).symm▸(hc (a8 _) (amO (l:=l+5) av (hc (a8 _) (bq (h _ _ _))))))))))
 refine YX (f:=(W.length:ah)) jQ ?_ (YQ Dm) bu ?_
 ·rw[mW,dE];show(match eA [32] (W++32::hN v) 0 with|some i=>(i:aq)|none=> -1)=_;rw[YO W Dm];show((0+W.length:ah):aq)=_;exact Y (iP ..) rfl
 subst e
 refine o9 (v:=ae||(z&&!c7 n bg)) (C5 (fun G g=>?_) fun I=>zI (fun G g=>?_) fun I G g=>?_) (fun a=>?_) fun a=>?_
 ·o_norm
  exact mz (Y (jZ (ph.mpr (gY _))) g)
 ·o_norm
  exact ak zR (Y (YW:c1 (W++[32]++hN v) ab (B (W.length:ah))=W) (ak (ao hw (ai rfl)) (Y ea g)))
 ·o_norm;exact am3 g
 ·exact YY (R:=R) hc aw (aG a).2 (cN ((aG a).1) fin)
 ·exact cN ((gr a).1) (cN ((gr a).2) fin)
end
section
variable {l t k:ah}{call:ah→ah→J D→J ap→a0→(J ap→Prop)→Prop}{n b v W:J am}{sc:Sc}{d:D}{rows:D}{aQ:fL}
structure Do (sc:Sc)(t:ah)(n:J am)(d:D):Prop where
 nm:gW n
 O0:fZ (bG n).e3 sc=af
 ua:eE t (bG n) d
abbrev O1 (call:ah→ah→J D→J ap→a0→(J ap→Prop)→Prop)(R:a0)(l:ah)(F:D→cD→J ap→fL→Prop):Prop:=∀d loc hp aQ,hI [5] d loc (fun loc=>dX ⟨l+6,call,b6,b5⟩ 57 Dl (fun I=>bt) loc hp aQ (fun d hp=>R d hp) aQ)→F d loc hp aQ
theorem YZ:n++[91]++x++[93,32]++y=(n++[91]++x++[93])++[32]++y:=by
 rw[show([93,32]:J am)=[93]++[32] from rfl,←dE]
theorem Y0:c7 n (bg++[x])=(c7 n bg||decide (B (bf.V x)=B (bf.V n))):=by
 rw[c7,c7,eS,Qv]
 exact bl (_||·) (xo _)
theorem am6:c7 n (bg++[n])=af:=by rw[Y0,eO rfl,va]
theorem Y1 (aA:gW n)(hk:k < 256):(nj n k).contains 32=ae∧dC 91 (nj n k)=n::dC 91 (hh k++[93])∧(eA [91] (nj n k) 0).isSome=af:=by
 have c:=YR n (og aA)
 have e:nj n k=n++[91]++(hh k++[93]):=dE ..
 refine Y e ?_
 refine⟨?_,YQ c.2.1,?_⟩
 ·refine Y Ac (Y Ac (Y c.1 (Y (amP k hk) ?_)));rfl
 ·refine Y (dE ..) ?_
  show(eA [91] (n++91::_) 0).isSome=af
  rw[YO n c.2.1];rfl
theorem am7 (kq:O1 call R l F)(hc:∀{aU f ds hp K X},aU≤l+6→bx aU f ds hp K X→call aU f ds hp K X)(aA:gW n)(f:fZ (bG n).e3 sc=af)(dd:d6 (bG n).bk=af)(pB:∀p∈m,nf p)(aw:bg.length≤900)(ay:c7 n bg=af)(cK:J aq):
  ∀(M a:cn) (cJ cb cg:ax D),(∀i∈cK,i∈ha (gN m))→M.length≤800→iH a→a.length+cK.length≤60→(∀cJ cb cg,aQ (mC sc rows hp.length cJ cb cg) (el hp (cC M (.V n) (.a5 (cK.foldl (kr m) a))) bg))→
   gk F ((cK.map (lk n m)).map .V) (mC sc rows hp.length cJ cb cg) (el hp (cC M (.V n) (.a5 a)) bg) aQ:=by
 induction cK with
 |nil=>exact fun M a cJ cb cg I I I I h=>h cJ cb cg
 |cons i cK az=>
  intro M a cJ cb cg hi tf dG et h
  refine(zx pB (hi i (.head _))).elim fun k g=>?_
  have lI:=g.1
  subst lI
  have gO:=Y1 aA g.2.1
  have pi:=YS aA f dd g.2.1
  show F (.V (lk n m k)) _ _ _
  rw[lk,YZ]
  refine kq _ _ _ _ ?_
  refine OZ (P:=fun loc hp=>gk F ((cK.map (lk n m)).map .V) loc hp aQ) (R:=R) (M1:=cC M (.V n) (.a5 a)) (M':=cC M (.V n) (.a5 (kr m a k))) (bg1:=bg) (z:=af) (nw:=ae) (W:=nj n k) hc pi.1 (ao g.2.2.2 (ai rfl)) gO.1 gO.2.1 gO.2.2 aw (by refine ay.symm▸?_;rfl) nb (fun I=>⟨rfl,rfl⟩) (fun {K X} q=>?_) fun cJ cb cg=>?_
  ·refine HY (ao nc (ao (d8 tf) (ai rfl))) pi.1 pi.2 (.eC (m:=a) dd ?_ dG (ao (ao (ed ..) et) (ai rfl):a.length≤400) (ao g.2.2.2 (ai rfl))) ?_
   ·rw[d7,firstO_c,(by rw[sZ,b3 rfl]:cB (cC M (.V n) (.a5 a)) (.V n)=some (.a5 a))];rfl
   ·exact Y YU q
  ·refine az M (kr m a k) cJ cb cg (fun j q=>hi j (.tail _ q)) tf (CQ (v:=.V _) dG cy) ?_ h
   exact ao (dR nc _) (ao (eT (by rw[iO,gd,fQ 1])) et)
theorem Dp:∀n∈e5::kn,n.length≤18:=by decide
theorem am8 (kq:O1 call R l F)(hc:∀{aU f ds hp K X},aU≤l+6→bx aU f ds hp K X→call aU f ds hp K X)(A:Do sc t n d)(bE:t≤10)(G:w4 t M)(aw:bg.length≤800)(tf:M.length≤700)(nb:c7 n bg=ae)(h:∀cJ cb cg rD,(rD=bg∨rD=bg++[n])→gk F rest (mC sc rows hp.length cJ cb cg) (el hp (cC M (.V n) (lm d)) rD) aQ):
  gk F ((iJ n d).map .V++rest) (mC sc rows hp.length cJ cb cg) (el hp M bg) aQ:=by
 have c:=YR n (og A.nm)
 have w3:=amT A.nm A.O0
 have nl:=Dp n (og A.nm)
 have K1:=G.amU A.nm
 cases A.ua with
 |c5 e v r o p7 st=>
  have mn:iJ n d=[CY n d]:=by rw[iJ,v.zz e];rfl
  have gI:lm d=d:=by rw[lm,v.zz e];rfl
  refine Y mn ?_
  rw[gI] at h
  show F (.V (CY n d)) _ _ _
  refine kq _ _ _ _ ?_
  have am9:=CZ v
  refine OZ (P:=fun loc hp=>gk F rest loc hp aQ) (R:=R) (M1:=M) (M':=cC M (.V n) d) (bg1:=bg) (z:=ae) (nw:=ae) (W:=n) hc nl am9 c.1 (Dj n c.2.1) (by rw[YP n c.2.1];rfl) (ao aw (ai rfl)) rfl nofun (fun I=>⟨rfl,rfl⟩) (fun {K X} q=>?_) fun cJ cb cg=>h cJ cb cg bg (.inl rfl)
  refine HY (ao tf (ai rfl)) nl w3 ?_ q
  refine cN r ?_
  induction gV:lW (bG n).bk with
  |true=>
   exact(K1.fv (.inr (.inl gV))).elim fun x z=>(z.2.OM gV).elim fun b y=>.kg (on:=b) e (tc A.nm e) (by refine Y gV (Y z.1 (Y y ?_));rfl) fun x q=>bo q▸o
  |false=>exact .kg (on:=ae) e (tc A.nm e) (by refine Y gV ?_;rfl) fun x q=>bo q▸o
 |@eC m e a bY O2=>
  have new:∀{K:a0} {X:J ap→Prop},K .aK (el hp (cC M (.V n) (.a5 [])) bg)→bx (l+6) 15 [cx sc .aK hp.length,.V n,.V []] (el hp M bg) K X:=fun {K X} q=>by
   refine(K1.fv (.inl e)).elim fun x z=>?_
   refine(z.2.Dc e).elim fun m0 y=>?_
   refine HY (ao tf (ai rfl)) nl w3 (.eC (m:=m0) e (y.1▸z.1) (tb y.2.1) (ao (ir y.2.1.bJ) (ai rfl)) (ai rfl)) q
  have mn:iJ n (.a5 m)=bD m.isEmpty [n] ((ha (gN m)).map (lk n m)):=rfl
  refine Y mn ?_
  induction em:m.isEmpty with
  |true=>
   have z:=ks.mp em
   subst z
   show F (.V n) _ _ _
   exact kq _ _ _ _ (am4 (P:=fun loc hp=>gk F rest loc hp aQ) (R:=R) hc (ao nl (ai (a:=18) rfl)) c.1 c.2.1 (ao aw (ai rfl)) new fun cJ cb cg=>h cJ cb cg _ (.inr rfl))
  |false=>
   have aqY:=XS a.ju
   induction cK:ha (gN m)with
   |nil=>
    have z:=(jw (le:=fun a b:aq=>a9 (a≤b)) (gN m)).length_eq
    induction m with
    |nil=>exact iV em
    |cons p ff=>
     have x:=a.ju p (.head _)
     induction x with
     |mk _ _=>
      have z:(ha (gN ((_,_)::ff))).length=_:=z
      rw[cK] at z;cases z
   |cons i w6=>
    have hi:∀j∈i::w6,j∈ha (gN m):=fun j q=>cK▸q
    have o6:=zw (m:=m)
    rw[cK] at o6
    refine(zx a.ju (hi i (.head _))).elim fun k g=>?_
    have lI:=g.1
    subst lI
    have gO:=Y1 A.nm g.2.1
    have pi:=YS A.nm A.O0 e g.2.1
    have re:lm (.a5 m)=.a5 (w6.foldl (kr m) (kr m [] k)):=by show D.a5 (w5 m)=_;rw[w5,cK];rfl
    rw[re] at h
    show F (.V (lk n m k)) _ _ fun loc hp=>gk F ((w6.map (lk n m)).map .V++rest) loc hp aQ
    have mn:lk n m k=nj n k++[32]++hN (qj m k):=YZ
    refine Y mn ?_
    refine kq _ _ _ _ ?_
    have ana:cB (cC M (.V n) (.a5 [])) (.V n)=B (.a5 []):=by rw[sZ,b3 rfl]
    generalize di:((w6.map (lk n m)).map D.V++rest)=T
    have aT:(af&&!c7 n bg)=af:=by rw[nb];rfl
    have anb:(qj m k).length≤400:=ao g.2.2.2 (ai rfl)
    have nk:bg.length≤900:=ao aw (ai rfl)
    refine OZ (n:=n) (bg:=bg) (M:=M) (v:=qj m k) (rows:=rows) (sc:=sc) (P:=fun loc hp=>gk F T loc hp aQ) (R:=R) (M1:=cC M (.V n) (.a5 [])) (M':=cC M (.V n) (.a5 (kr m [] k))) (bg1:=bg++[n]) (z:=af) (nw:=af) (W:=nj n k) hc pi.1 anb gO.1 gO.2.1 gO.2.2 nk aT (fun I=>⟨rfl,new⟩) iV (fun {K X} q=>?_) fun cJ cb cg=>?_
    ·refine HY (ao nc (ao (d8 tf) (ai rfl))) pi.1 pi.2 (.eC (m:=[]) e ?_ cy (ai rfl) (ao g.2.2.2 (ai rfl))) ?_
     ·rw[d7,firstO_c,ana];rfl
     ·rw[YU];exact q
    ·show gk F T _ _ _
     rw[←di,am0]
     have nZ:(bg++[n]).length≤900:=by rw[cG];exact ao (d8 aw) (ai rfl)
     have oW:(kr m [] k).length+w6.length≤60:=ao (eT (fQ 1 w6.length)) (ao o6 (ir a.bJ))
     have uw:iH (kr m [] k):=⟨cy,cy⟩
     exact am7 (aQ:=fun loc hp=>gk F rest loc hp aQ) kq hc A.nm A.O0 e a.ju nZ am6 w6 M (kr m [] k) cJ cb cg (fun j q=>hi j (.tail _ q)) (ao tf (ai rfl)) uw oW fun cJ cb cg=>h cJ cb cg _ (.inr rfl)
end
section
variable {K:a0}{call:ah→ah→J D→J ap→a0→(J ap→Prop)→Prop}{aQ:fL}
theorem Y2 (pB:∀p∈m,nf p)(cK:J aq):∀a,(∀i∈cK,i∈ha (gN m))→(∀p∈a,nf p)→iL a→(∀p∈cK.foldl (kr m) a,nf p)∧iL (cK.foldl (kr m) a)∧(cK.foldl (kr m) a).length≤a.length+cK.length:=by
 induction cK with
 |nil=>exact fun a I h g=>⟨h,g,a8 _⟩
 |cons i cK az=>
  intro a hi h g
  refine(zx pB (hi i (.head _))).elim fun k z=>?_
  have e:=z.1
  subst e
  have x:=az (kr m a k) (fun j q=>hi j (.tail _ q)) (OK h z.2.1 z.2.2.2) (C7 g)
  exact⟨x.1,x.2.1,ao x.2.2 (ao (dR nc _) (eT (by rw[iO,gd,fQ 1])))⟩
theorem anc (h:eE t kd d):eE t kd (lm d):=by
 cases h with
 |@eC m e a bY aw=>
  have x:=Y2 a.ju (ha (gN m)) [] (fun I=>id) (fun I=>dz) .nil
  have Y3:(w5 m).length≤m.length:=ao x.2.2 (ao (eT (iP _)) zw)
  exact .eC e ⟨x.1,e6 Y3 a.bJ⟩ x.2.1 (ao Y3 aw)
 |c5 e v r o aw st=>
  have gI:lm d=d:=by rw[lm,v.zz e];rfl
  exact Y gI (.c5 e v r o aw st)
theorem ane {val:J am→D}(kq:O1 call R l F)(hc:∀{aU f ds hp K X},aU≤l+6→bx aU f ds hp K X→call aU f ds hp K X)(bE:t≤10)(ns:J (J am)):
  ∀(M:cn) (bg:J (J am)) (cJ cb cg:ax D),(∀n∈ns,Do sc t n (val n))→ns.Nodup→(∀n∈ns,c7 n bg=ae)→w4 t M→M.length+ns.length≤60→bg.length+ns.length≤60→
   (∀cJ cb cg rD,aQ (mC sc rows hp.length cJ cb cg) (el hp (ns.foldl (fun M n=>cC M (.V n) (lm (val n))) M) rD))→gk F ((ns.flatMap fun n=>iJ n (val n)).map .V) (mC sc rows hp.length cJ cb cg) (el hp M bg) aQ:=by
 induction ns with
 |nil=>exact fun M bg cJ cb cg I I I I I I h=>h cJ cb cg bg
 |cons n ns az=>
  intro M bg cJ cb cg ok bY nb G vU eY h
  have bY:=mG.mp bY
  refine Y rO (Y eS ?_)
  refine am8 kq hc (ok n (.head _)) bE G (ao (ao (ed ..) eY) (ai rfl)) (ao (ao (ed ..) vU) (ai rfl)) (nb n (.head _)) fun cJ cb cg rD jo=>?_
  have sw:∀{a b:ah},a≤b+1→b+(n::ns).length≤60→a+ns.length≤60:=fun {a b} p q=>ao (dR p _) (ao (eT (by rw[iO,gd,fQ 1])) q)
  refine az _ rD cJ cb cg (fun x q=>ok x (.tail _ q)) bY.2 (fun x q=>?_) (G.gv (anc (ok n (.head _)).ua)) (sw nc vU) (sw ?_ eY) h
  ·induction jo with
   |inl e=>exact Y e (nb x (.tail _ q))
   |inr e=>refine Y e (Y Y0 (Y (nb x (.tail _ q)) (Y (jZ fun z=>bY.1 (by refine Y (bf.V.inj (bo z)) ?_;exact q)) ?_)));rfl
  ·induction jo with
   |inl e=>exact Y e (iQ _)
   |inr e=>exact Y e (eT (cG ..))
noncomputable def Dq (val:J am→D)(ns:J (J am)):cn:=ns.foldl (fun M n=>cC M (.V n) (lm (val n))) []
theorem anf (bE:t≤10)(ok:∀n∈ns,Do sc t n (val n))(bY:ns.Nodup)(aw:ns.length≤60)(jQ:(ns.flatMap fun n=>iJ n (val n)).length≤5000)(h:∀bg,K (cx sc .aK hp.length) (el hp (Dq val ns) bg)):
  bx (l+7) 52 [.a5 eB,.aF sc.s,.aP ((ns.flatMap fun n=>iJ n (val n)).map .V)] hp K X:=
 cZ rfl (full:=[.a5 eB,.aF sc.s,.aP ((ns.flatMap fun n=>iJ n (val n)).map .V)]) rfl (loc:=[B (.a5 eB),B (.aF sc.s),B (.aP ((ns.flatMap fun n=>iJ n (val n)).map .V)),ab,ab,ab,ab,ab]) rfl fun call R aM hc r y=>by
  refine a6 rfl ?_
  refine ak (ai rfl) (ak (ai rfl) (ak rfl ?_))
  refine a6 (k:=1) rfl (HV fun F kq=>?_)
  refine ak ((cH ..).symm▸ao jQ (ai rfl)) ?_
  show gk F _ [B (.a5 eB),B (.aF sc.s),B _,B (cx sc .aK hp.length),B (.bb (hp++[ap.bv []]).length),ab,ab,ab] _ _
  exact Y Dk (ane (R:=R) kq hc bE ns [] [] ab ab ab ok bY (fun I I=>rfl) (fun I I=>nn) ((iP _).symm▸aw) ((iP _).symm▸aw) fun cJ cb cg rD=>a6 (k:=2) rfl (r (.inl (h rD))))
theorem Y4 {l:cn}(h:∀p∈l,∃y,cB m p.1=B y∧hY p.2 y=af):pN m l=af:=by
 induction l with
 |nil=>rfl
 |cons a l az=>
  refine(h a (.head _)).elim fun y z=>?_
  show bS (cB m a.1) (fun y=>hY a.2 y&&pN m l) ae=af
  refine Y z.1 ?_
  show(hY a.2 y&&pN m l)=af
  refine Y z.2 (Y (az fun p q=>h p (.tail _ q)) ?_);rfl
theorem H0:hY (.V b) (.V b)=af:=eO rfl
theorem ang (a:uP m)(bY:iL m):kC hp (.a5 m) (.a5 m)=af:=by
 show(m.length==m.length&&pN m m)=af
 rw[ie,Y4 fun p q=>⟨p.2,HK bY q,?_⟩];rfl
 induction(a.ju p q)with|mk=>exact H0
theorem anh (v:eE t kd d):kC hp (lm d) d=af:=by
 cases v with
 |@eC m e a bY aw=>
  show((w5 m).length==m.length&&pN m (w5 m))=af
  have Y5:m.map (·.1)=(gN m).map bf.ac:=by
   clear bY aw
   have pB:=a.ju
   clear a
   induction m with
   |nil=>rfl
   |cons p m az=>
    have ep:=pB p (.head _)
    cases ep with
    |mk hk ay=>exact bl (_::·) (az fun p q=>pB p (.tail _ q))
  have c3:=jw (le:=fun a b:aq=>a9 (a≤b)) (gN m)
  have aT:(w5 m).length=m.length:=(amW m (ha (gN m)) [] (fun I I=>rfl) (c3.nodup_iff.mpr ((Eg.mp (Y5▸bY:((gN m).map bf.ac).Nodup)).imp fun h e=>h (bl bf.ac e):(gN m).Nodup))).trans ((iP _).trans (c3.length_eq.trans (cN (cH (f:=bf.ac)) (cN Y5 (Y (cH ..) rfl)))))
  have x:=Y2 a.ju (ha (gN m)) [] (fun I=>id) (fun I=>dz) .nil
  rw[aT,ie,Y4 fun p q=>?_];rfl
  have ep:=x.1 p q
  have cm:=HK x.2.1 q
  cases ep with
  |@mk k b hk ay=>
   rw[amV] at cm
   by_cases z:((k:ah):aq)∈ha (gN m)
   ·have cm:=(b3 z)▸cm
    cases zx a.ju z with|intro _ g=>
    exact⟨_,g.2.2.1,Y (bo cm) H0⟩
   ·rw[bL z] at cm;exact nn cm
 |c5 e v r o aw st=>
  have gI:lm d=d:=by rw[lm,v.zz e];rfl
  refine Y gI ?_
  revert v
  generalize kd.bk=kk at e
  intro v
  induction v with
  |fo b=>induction b<;>rfl
  |iI=>exact eO rfl
  |eC=>exact iV e
  |fP=>exact H0
end
section
variable {K:a0}{R:a0}{call:ah→ah→J D→J ap→a0→(J ap→Prop)→Prop}
noncomputable def Y6 (s:Sc)(w:aZ):J D:=[.a5 eB,.aF (dZ s w).s,bD w n9 .aK,.bb (rz w)]
theorem H1:∀n∈e5::kn,lU n=B n:=by decide+kernel
theorem H2:eD s w=.cO 1 (Y6 s w):=by induction w<;>rfl
theorem O3 (h:F (Y6 s w)):Fs (eD s w) F:=H2▸ak rfl h
theorem Y7 (H:hm hp L0 L1)(aA:gW n)(e:d7 (dT w L0 L1) n=B d)(h:K d hp):bx (l+3) 14 [eD s w,.V n] hp K X:=by
 have nn:=CU (Dp n (og aA)) (H1 n (og aA))
 have L:=H.wy (s:=s) (w:=w)
 induction w with
 |false=>exact zu L (ai rfl) nn e h
 |true=>exact zu L (ai rfl) nn e h
theorem ani (H:hm hp L0 L1)(h:K (.be (m9 (.V n) (dT w L0 L1)).isSome) hp):bx (l+1) 21 [eD s w,.V n] hp K X:=by
 have L:=H.wy (s:=s) (w:=w)
 induction w with
 |false=>exact N9 L (ai rfl) h
 |true=>exact N9 L (ai rfl) h
theorem H3 (h:F (!(u==v))):eg .NotEq (.be u) (.be v) hp F:=h
theorem Y8 (v:eE t k d)(h:F ae):eg .NotEq d d hp F:=by
 induction v with
 |@eC m e a bY aw=>
  have z:Fl hp (.a5 m) (.a5 m)=af:=ang (hp:=hp) a bY
  induction m with
  |nil=>exact cf (a:=[]) (o:=fK hp (.a5 [])) (F:=fun l=>F !l.isEmpty) rfl h
  |cons p m=>exact ak z h
 |c5 e v=>
  revert v
  generalize k.bk=kk at e
  intro v
  induction v with
  |fo b=>exact H3 (Y (ie ..) h)
  |iI=>exact wF (Y (tJ ..) h)
  |eC=>exact iV e
  |fP=>exact rq (Y (tJ ..) h)
noncomputable def O4 (d:D):aZ:=match d with| .be _=>af|_=>ae
theorem Y9 (v:eE t k d)(h:K (.be (O4 d)) hp):sj hp d 2 K:=by
 induction v with
 |eC=>exact YJ (t:=2) (by decide) (v:=ae) rfl h
 |c5 e v=>
  revert v
  generalize k.bk=kk at e
  intro v
  induction v with
  |fo=>exact HU (v:=af) rfl h
  |iI=>exact OS (v:=ae) rfl h
  |eC=>exact iV e
  |fP=>exact h
noncomputable abbrev i5 (s:Sc)(w:aZ)(eM dt cJ cb cg hn hP rE:ax D):cD:=[B (dY s),B (.a5 eB),B (.ac (fC w)),eM,dt,cJ,cb,cg,hn,hP,ab,rE]
theorem O5 (h:d2 v (.V n)=af):(bS (cB v (.V n)) B o).isSome=af:=by
 rw[i4] at h
 induction f:cB v (.V n)with
 |none=>rw[f] at h;exact nb h
 |some x=>rfl
theorem O6 (h:d2 v (.V n)=ae):(bS (cB v (.V n)) B o).isSome=o.isSome:=by
 rw[i4] at h
 induction f:cB v (.V n)with
 |none=>rfl
 |some x=>rw[f] at h;exact iV h
theorem anj (hc:∀{aU f ds hp K X},aU≤l+7→bx aU f ds hp K X→call aU f ds hp K X)(H:hm hp L0 L1)(c8:cU .dH t L0)(dm:cU s t L1)(aA:gW n)(bE:(eL n).isSome=af)(h:∀cJ cb cg,P (i5 s w (B (.bb (h6 w))) (B (.V n)) cJ cb cg hn hP (B (eD s w))) hp):
  dX ⟨l+7,call,b6,b5⟩ 55 [.a7 (.jI (.e1 (.bp 44 [(.aa 0),(.aa 2),(.aa 4)]))) [.yi] [],.ig [5,6] [(.bp 43 [(.aa 0),(.aa 2),(.aa 4)]),(.fJ (.aa 11) 14 [(.aa 4)])],.a7 (.cA ae [(.aH .NotEq (.aa 6) (.aa 5)),(.aH .NotEq (.ji (.aa 6) 2) (.ji (.aa 5) 2))]) [.bO (B (.ag (.be ae)))] [],.bW 7 (.cA ae [(.aH .In (.aa 4) (.aa 3)),(.cA af [(.aH .Eq (.aa 2) (.ag (.ac 1))),(.aH .In (.aa 4) (.bh (.bh (.aa 0) (.ag (.aF "books"))) (.ag (.ac 0))))])]),.a7 (.aH .NotEq (.bp 21 [(.aa 11),(.aa 4)]) (.aa 7)) [.bO (B (.ag (.be ae)))] []]
   (fun I=>bt) (i5 s w (B (.bb (h6 w))) (B (.V n)) cJ cb cg hn hP (B (eD s w))) hp P (fun d hp=>R d hp) P:=by
 have gX:=zM (w:=w) c8 dm aA
 induction iR.mp (gX.ON bE)with|intro d e=>
 have v:=gX.w2 d e
 refine nr fun Q dJ=>o9 (v:=!fZ (bG n).e3 (dZ s w)) (fun G g=>?_) (fun I=>h _ _ _) fun I=>dJ _ _ (nr fun Q dJ=>?_)
 ·o_norm
  exact hc (a8 _) (HH (l:=l+6) aA g)
 o_norm
 refine hc (a8 _) (HG (l:=l+6) H ?_)
 refine e▸?_
 refine O3 ?_
 refine cN H2 ?_
 refine hc (a8 _) (Y7 (l:=l+4) H aA e (ak (ai rfl) (ak rfl (dJ _ _ (nr fun Q dJ=>?_)))))
 refine o9 (v:=ae||false) (C5 (fun G g=>?_) fun I G g=>?_) nb fun I=>dJ _ _ (nr fun Q dJ=>?_)
 ·o_norm;exact Y8 v g
 ·o_norm
  exact Y9 v (Y9 v (H3 (Y (show(O4 ((B d).getD .aK))=O4 d from rfl) (Y (ie ..) g))))
 have q:f6 ⟨l+7,call,b6,b5⟩ 51 (.bW 7 (.cA ae [(.aH .In (.aa 4) (.aa 3)),(.cA af [(.aH .Eq (.aa 2) (.ag (.ac 1))),(.aH .In (.aa 4) (.bh (.bh (.aa 0) (.ag (.aF "books"))) (.ag (.ac 0))))])])) (fun I=>bt) (i5 s w (B (.bb (h6 w))) (B (.V n)) (B d) (B d) cg hn hP (B (eD s w))) hp Q (fun d hp=>R d hp) P:=by
  have dJ:∀q,(m9 (.V n) (dT w L0 L1)).isSome=q→Q (i5 s w (B (.bb (h6 w))) (B (.V n)) (B d) (B d) (B (.be q)) hn hP (B (eD s w))) hp:=fun q e=>dJ _ _ (HW (o9 (v:=ae) (fun G g=>?_) nb fun I=>h _ _ _))
  ·o_norm
   refine o3 (x:=.V n) H.gO rfl (fu ?_)
   induction w with
   |false=>
    refine uA (fun a=>?_) fun a=>?_
    ·refine a▸?_;refine dJ af ?_
     rw[dT,bD,firstO_c];exact O5 a
    ·refine oZ (fu (cW rfl (dJ ae ?_)))
     rw[dT,bD,firstO_c];exact O6 a
   |true=>
    refine uA (fun a=>?_) fun a=>?_
    ·refine Y a ?_;refine dJ af ?_
     rw[dT,bD,firstO_c];exact O5 a
    ·refine oZ (fu (cI rfl ?_))
     refine zD ?_
     refine f9 (i:=0) rfl (ai rfl) ?_
     refine o3 (x:=.V n) H.pD rfl (dJ (d2 L0 (.V n)) ?_)
     rw[dT,bD,firstO_c]
     refine(O6 a).trans ?_
     induction b:d2 L0 (.V n)with
     |true=>rw[firstO_c];exact O5 b
     |false=>rw[firstO_c];exact O6 b
  ·o_norm
   exact hc (a8 _) (ani (l:=l+6) H (H3 (Y e (Y (ie ..) g))))
 exact q
end
section
variable {K:a0}{R:a0}{call:ah→ah→J D→J ap→a0→(J ap→Prop)→Prop}
theorem Za (v:eE t k d):d.no=ae:=by
 induction v with
 |eC=>rfl
 |c5 e v=>
  revert v
  generalize k.bk=kk
  intro v
  induction v<;>rfl
theorem ank (H:hm hp L0 L1)(h:bS (d7 (dT w L0 L1) e5) (fun d=>K d hp) (X hp)):bx (l+3) 14 [eD s w,.V e5] hp K X:=by
 have L:=H.wy (s:=s) (w:=w)
 have z:bS (lU e5) (uJ K X hp (dT w L0 L1)) (X hp):=by
  show uJ K X hp (dT w L0 L1) e5
  rw[uJ]
  rw[d7] at h
  induction f:m9 (.V e5) (dT w L0 L1)with
  |some d=>rw[f] at h;exact h
  |none=>rw[f] at h;exact h
 induction w with
 |false=>exact N8 L (ai rfl) (ai rfl) z
 |true=>exact N8 L (ai rfl) (ai rfl) z
theorem H4:gW e5:=.inr rfl
theorem anl (hc:∀{aU f ds hp K X},aU≤l+7→bx aU f ds hp K X→call aU f ds hp K X)(H:hm hp L0 L1)(c8:cU .dH t L0)(dm:cU s t L1)(h:Q (i5 s w eM dt (B ((d7 (dT w L0 L1) e5).getD .aK)) cb cg hn hP (B (eD s w))) hp):
  f6 ⟨l+7,call,b6,b5⟩ 54 (.a7 (.aH .NotEq (.jj (.fJ (.aa 0) 14 [(.ag (.V [64,120]))]) [B 11]) (.aH .IsNot (.aa 5) (.ag .aK))) [.bO (B (.ag (.be ae)))] []) (fun I=>bt) (i5 s w eM dt (B ((d7 (dT w L0 L1) e5).getD .aK)) cb cg hn hP (B (eD s w))) hp Q (fun d hp=>R d hp) Kc:=by
 refine o9 (v:=ae) (fun G g=>?_) nb fun I=>h
 o_norm
 refine cf (a:=eD s w) rfl (O3 ?_)
 refine cN H2 ?_
 refine hc (iQ _) (ank (l:=l+3) H ?_)
 induction f:d7 (dT w L0 L1) e5 with
 |none=>exact ak rfl g
 |some d=>
  refine ak rfl (H3 ?_)
  show G _ _
  exact Y (show((B d).getD .aK)=d from rfl) (Y (Za ((zM (w:=w) c8 dm H4).w2 d f)) g)
theorem anm (hc:∀{aU f ds hp K X},aU≤l+7→bx aU f ds hp K X→call aU f ds hp K X)(H:hm hp L0 L1)(c8:cU .dH t L0)(dm:cU s t L1)(h:Q (i5 s w eM dt (B ((d7 (dT w L0 L1) e5).getD .aK)) cb cg hn hP (B (eD s w))) hp):
  f6 ⟨l+7,call,b6,b5⟩ 53 (.a7 (.cA af [(.aH .IsNot (.aa 5) (.ag .aK)),(.aH .NotEq (.fJ (.aa 11) 14 [(.ag (.V [64,120]))]) (.aa 5))]) [.bO (B (.ag (.be ae)))] []) (fun I=>bt) (i5 s w eM dt (B ((d7 (dT w L0 L1) e5).getD .aK)) cb cg hn hP (B (eD s w))) hp Q (fun d hp=>R d hp) Kc:=by
 have gX:=zM (w:=w) c8 dm H4
 refine o9 (v:=(d7 (dT w L0 L1) e5).isSome&&ae) (zI (fun G g=>?_) fun a G g=>?_) (fun a=>cr ((rK _).symm.trans a) dO) fun I=>h
 ·o_norm
  induction f:d7 (dT w L0 L1) e5 with
  |none=>have g:=f▸g;exact ak rfl g
  |some d=>
   have g:=f▸g
   exact ak rfl (Y (Za (gX.w2 d f)) g)
 ·refine(iR.mp a).elim fun d f=>?_
  o_norm
  exact O3 (cN H2 (hc (a8 _) (Y7 (l:=l+4) H H4 f (Y f (Y8 (gX.w2 d f) g)))))
theorem ano:dT w L0 L1=eG w L0 L1::bD w [L0] []:=by induction w<;>rfl
theorem anp (h:n∈e4 m):∃d,(bf.V n,d)∈m:=by
 refine(rM.mp h).elim fun p z=>?_
 have e:p.1=.V n:=by
  have z:=z.2
  induction q:p.1 with
  |V b=>rw[q] at z;exact bl bf.V (bo z)
  |_=>rw[q] at z;exact nn z
 exact⟨p.2,e▸z.1⟩
theorem H5 (h:n8 m):m.map (·.1)=(e4 m).map bf.V:=by
 induction m with
 |nil=>rfl
 |cons a m az=>
  refine(h a (.head _)).elim fun b e=>?_
  rw[h8,e4,vd,e]
  exact bl (_::·) (az fun p q=>h p (.tail _ q))
theorem Zb (G:cU (dZ s w) t (eG w L0 L1))(h:n∈e4 (eG w L0 L1)):∃d,cB (eG w L0 L1) (.V n)=B d∧d7 (dT w L0 L1) n=B d∧Do (dZ s w) t n d:=by
 refine(anp h).elim fun d q=>?_
 have e:cB (eG w L0 L1) (.V n)=B d:=HK G.bY q
 exact⟨d,e,by rw[ano,d7,firstO_c,e];rfl,⟨(G.at e).1,(G.at e).2.1,(G.at e).2.2⟩⟩
theorem Zc (G:cU (dZ s w) t (eG w L0 L1))(h:n∈e4 (eG w L0 L1)):rx (dT w L0 L1) n:=(Zb G h).elim fun d x=>.mk (CU (Dp n (og x.2.2.nm)) (H1 n (og x.2.2.nm))) x.2.1 x.2.2.ua.C8
theorem anq (H:hm hp L0 L1)(G:cU (dZ s w) t (eG w L0 L1))(bE:t≤10)(h:K (.aP (((eV (e4 (eG w L0 L1))).flatMap (ng (dT w L0 L1))).map .V)) hp):bx (l+4) 26 [eD s w] hp K X:=by
 have L:=H.wy (s:=s) (w:=w)
 have ok:∀n∈eV (e4 (eG w L0 L1)),rx (dT w L0 L1) n:=fun n q=>Zc G ((jw _).mem_iff.mp q)
 have aw:(eG w L0 L1).length < 60:=e6 (ao G.bJ bE) (ai rfl)
 induction w with
 |false=>exact XY L (ai rfl) G.gO.oy aw ok h
 |true=>exact XY L (ai rfl) G.gO.oy aw ok h
theorem Zd {ws:J (J am)}:mV (kC hp) (ws.map .V) (ws.map .V)=af:=by
 induction ws with
 |nil=>rfl
 |cons w ws az=>
  show(kC hp (.V w) (.V w)&&mV (kC hp) (ws.map .V) (ws.map .V))=af
  exact az.symm▸((IH _).trans H0)
theorem H6 (e:mV (kC hp) a b=af)(h:F ae):eg .NotEq (.aP a) (.aP b) hp F:=by
 induction b with
 |nil=>
  induction a with
  |nil=>exact cf (a:=[]) (o:=gB hp (.aP [])) (F:=fun l=>F !l.isEmpty) rfl h
  |cons x a=>exact nb e
 |cons y b=>exact ak e h
theorem Ze (e:mV (kC hp) a b=af)(h:F af):eg .Eq (.aP a) (.aP b) hp F:=by
 induction b with
 |nil=>
  induction a with
  |nil=>exact cf (a:=[]) (o:=gB hp (.aP [])) (F:=fun l=>F l.isEmpty) rfl h
  |cons x a=>exact nb e
 |cons y b=>exact ak e h
end
section
variable {K:a0}{R:a0}{call:ah→ah→J D→J ap→a0→(J ap→Prop)→Prop}
noncomputable def lp (w:aZ)(L0 L1:cn):J (J am):=eV (e4 (eG w L0 L1))
noncomputable def w7 (w:aZ)(L0 L1:cn):D:=.aP (((lp w L0 L1).flatMap (ng (dT w L0 L1))).map .V)
noncomputable def pa (w:aZ)(L0 L1:cn)(n:J am):D:=(d7 (dT w L0 L1) n).getD .aK
theorem anr (e:hp[i]?=B (.bv m))(b:n8 m)(aw:m.length≤1000)(h:K (.aP ((e4 m).map .V)) hp):j5 ae .br [.bb i] hp K:=by
 have z:m.map (fun p=>p.1.d)=(e4 m).map .V:=by
  have y:=bl (Jg bf.d) (H5 b)
  rw[vh,vh] at y;exact y
 show bS (fK hp (.bb i)) (fun l=>l.length≤1000∧hX ae (.br (l.map fun p=>p.1.d)) (.aP (l.map fun p=>p.1.d)) hp K) _
 exact Y (uS e) (ak aw (z▸h))
theorem ans (hc:∀{aU f ds hp K X},aU≤l+7→bx aU f ds hp K X→call aU f ds hp K X)(H:hm hp L0 L1)(G:cU (dZ s w) t (eG w L0 L1))(bE:t≤10)(h:Q (i5 s w (B (.bb (h6 w))) dt cJ cb cg (B (w7 w L0 L1)) hP (B (eD s w))) hp):
  f6 ⟨l+7,call,b6,b5⟩ 52 (.bW 8 (.bp 51 [(.aa 0),(.aa 2),(.bi ae .br [(.aa 3)])])) (fun I=>bt) (i5 s w (B (.bb (h6 w))) dt cJ cb cg hn hP (B (eD s w))) hp Q (fun d hp=>R d hp) Kc:=by
 have aw:(eG w L0 L1).length≤10:=ao G.bJ bE
 o_norm
 exact anr H.gO G.gO (ao aw (ai rfl)) (hc (a8 _) (YK (l:=l+4) H (fun n q=>Zc G q) (e6 (ao (pj ..) aw) (ai rfl)) h))
theorem ant (hc:∀{aU f ds hp K X},aU≤l+7→bx aU f ds hp K X→call aU f ds hp K X)(H:hm hp L0 L1)(G:cU (dZ s w) t (eG w L0 L1))(bE:t≤10)(h:Q (i5 s w eM dt cJ cb cg (B (w7 w L0 L1)) hP (B (eD s w))) hp):
  f6 ⟨l+7,call,b6,b5⟩ 51 (.a7 (.aH .NotEq (.bp 26 [(.aa 11)]) (.aa 8)) [.bO (B (.ag (.be ae)))] []) (fun I=>bt) (i5 s w eM dt cJ cb cg (B (w7 w L0 L1)) hP (B (eD s w))) hp Q (fun d hp=>R d hp) Kc:=by
 refine o9 (v:=ae) (fun anu g=>?_) nb fun I=>h
 o_norm
 exact hc (a8 _) (anq (l:=l+3) H G bE (H6 Zd g))
theorem anv {f:J am→J (J am)}(ns:J (J am))(h:∀n∈ns,(f n).length≤60):(ns.flatMap f).length≤60 *ns.length:=by
 induction ns with
 |nil=>exact a8 _
 |cons n ns az=>
  exact Y (rO ..) (Y (cG ..) (Y (iO ..) (Y (tu ..) (Y (fQ ..) (eZ (az fun x q=>h x (.tail _ q)) (h n (.head _)))))))
theorem Dr (G:cU (dZ s w) t (eG w L0 L1))(h:n∈lp w L0 L1):cB (eG w L0 L1) (.V n)=B (pa w L0 L1 n)∧Do (dZ s w) t n (pa w L0 L1 n):=by
 refine(Zb G ((jw _).mem_iff.mp h)).elim fun d x=>?_
 have e:pa w L0 L1 n=d:=by rw[pa,x.2.1];rfl
 exact Y e (⟨x.1,x.2.2⟩)
theorem Zf (G:cU (dZ s w) t (eG w L0 L1)):(lp w L0 L1).Nodup:=(jw _).nodup_iff.mpr ((Eg.mp (H5 G.gO▸G.bY:((e4 (eG w L0 L1)).map bf.V).Nodup)).imp fun h e=>h (bl bf.V e))
theorem O7 (G:cU (dZ s w) t (eG w L0 L1))(bE:t≤10):(lp w L0 L1).length≤10:=ao (eT (jw _).length_eq) (ao (pj ..) (ao G.bJ bE))
noncomputable abbrev rF (hp:J ap)(w:aZ)(L0 L1:cn)(bg:J (J am)):J ap:=el hp (Dq (pa w L0 L1) (lp w L0 L1)) bg
theorem anw (hc:∀{aU f ds hp K X},aU≤l+7→bx aU f ds hp K X→call aU f ds hp K X)(G:cU (dZ s w) t (eG w L0 L1))(bE:t≤10)(h:∀bg,Q (i5 s w eM dt cJ cb cg (B (w7 w L0 L1)) (B (cx (dZ s w) .aK hp.length)) (B (eD s w))) (rF hp w L0 L1 bg)):
  f6 ⟨l+7,call,b6,b5⟩ 50 (.bW 9 (.bp 52 [(.aa 1),(.a7 (.aH .Eq (.aa 2) (.ag (.ac 0))) (.ag (.aF "window")) (.bh (.aa 0) (.ag (.aF "scope")))),(.aa 8)])) (fun I=>bt) (i5 s w eM dt cJ cb cg (B (w7 w L0 L1)) hP (B (eD s w))) hp Q (fun d hp=>R d hp) Kc:=by
 have go:call (l+7) 52 [.a5 eB,.aF (dZ s w).s,w7 w L0 L1] hp (fun d hp=>Q (i5 s w eM dt cJ cb cg (B (w7 w L0 L1)) (B d) (B (eD s w))) hp) fun I=>bt:=
  hc (a8 _) (anf (l:=l) (val:=pa w L0 L1) (ns:=lp w L0 L1) bE (fun n q=>(Dr G q).2) (Zf G) (ao (O7 G bE) (ai rfl)) (ao (anv _ fun n q=>HD (Dr G q).2.ua.C8) (ao (hR 60 (O7 G bE)) (ai rfl)):((lp w L0 L1).flatMap fun n=>iJ n (pa w L0 L1 n)).length≤5000) h)
 o_norm
 induction w with
 |false=>exact oZ (cI rfl go)
 |true=>
  exact oZ (cW rfl (X5 go))
theorem anx {val:J am→D}(ns:J (J am)):∀M:cn,ns.Nodup→(∀n∈ns,cB (ns.foldl (fun M n=>cC M (.V n) (lm (val n))) M) (.V n)=B (lm (val n)))∧∀n,n∉ns→cB (ns.foldl (fun M n=>cC M (.V n) (lm (val n))) M) (.V n)=cB M (.V n):=by
 induction ns with
 |nil=>exact fun M I=>⟨(fun I=>dz),fun I I=>rfl⟩
 |cons x ns az=>
  intro M bY
  have bY:=mG.mp bY
  have z:=az (cC M (.V x) (lm (val x))) bY.2
  refine⟨fun n q=>?_,fun n q=>?_⟩
  ·cases q with
   |head=>exact(z.2 x bY.1).trans (Y sZ (Y (b3 rfl) rfl))
   |tail _ q=>exact z.1 n q
  ·exact(z.2 n fun y=>q (.tail _ y)).trans (Y sZ (Y (bL fun e=>q (by exact Y (bf.V.inj e) (.head _))) rfl))
theorem anz (ns:J (J am))(h:∀n∈ns,kC hp (f n) (g n)=af):mV (kC hp) (ns.map f) (ns.map g)=af:=by
 induction ns with
 |nil=>rfl
 |cons n ns az=>
  show(kC hp (f n) (g n)&&mV (kC hp) (ns.map f) (ns.map g))=af
  refine Y (h n (.head _)) (Y (az fun x q=>h x (.tail _ q)) ?_);rfl
theorem anA (hc:∀{aU f ds hp K X},aU≤l+7→bx aU f ds hp K X→call aU f ds hp K X)(H:hm hp L0 L1)(G:cU (dZ s w) t (eG w L0 L1))(bE:t≤10)(h:Q (i5 s w (B (.bb (h6 w))) dt cJ cb cg hn (B (cx (dZ s w) .aK hp.length)) (B (eD s w))) (rF hp w L0 L1 bg)):
  f6 ⟨l+7,call,b6,b5⟩ 49 (.a7 (.aH .NotEq (.lc (.fJ (.aa 1) 14 [(.aa 0)]) [0] (.c0 (.bi ae .fS [(.aa 3)])) [] [ab,B 9]) (.lc (.bh (.aa 1) (.aa 0)) [0] (.c0 (.bi ae .fS [(.aa 3)])) [] [ab,B 3])) [.bO (B (.ag (.be ae)))] []) (fun I=>bt) (i5 s w (B (.bb (h6 w))) dt cJ cb cg hn (B (cx (dZ s w) .aK hp.length)) (B (eD s w))) (rF hp w L0 L1 bg) Q (fun d hp=>R d hp) Kc:=by
 have o6:(e4 (eG w L0 L1)).length < 64:=e6 (ao (pj ..) (ao G.bJ bE)) (ai rfl)
 have O8:(rF hp w L0 L1 bg)[h6 w]?=B (.bv (eG w L0 L1)):=(H.app.app).gO
 have O2:((lp w L0 L1).map D.V).length≤1000000:=(cH ..).symm▸ao (O7 G bE) (ai rfl)
 refine o9 (v:=ae) (fun anu g=>?_) nb fun I=>h
 o_norm
 refine wQ (uS O8) G.gO.oy o6 (ak O2 ?_)
 refine lf (σ:=J (J am)×ax D) D.V (fun t=>t.1.map fun n=>lm (pa w L0 L1 n)) (fun t=>[t.2,B (cx (dZ s w) .aK hp.length)]) (fun I=>rF hp w L0 L1 bg) (fun r t=>(∀n∈r,n∈lp w L0 L1)∧t.1++r=lp w L0 L1) (fun t i=>?_) (fun n r t i P bI=>?_) (lp w L0 L1) ([],ab) ⟨fun I=>id,rfl⟩
 ·have i:=(en _).symm.trans i.2
  refine Y i ?_
  refine wQ (uS O8) G.gO.oy o6 (ak O2 ?_)
  refine lf (σ:=J (J am)×ax D) D.V (fun t=>t.1.map fun n=>pa w L0 L1 n) (fun t=>[t.2,B (.bb (h6 w))]) (fun I=>rF hp w L0 L1 bg) (fun r t=>(∀n∈r,n∈lp w L0 L1)∧t.1++r=lp w L0 L1) (fun t i=>?_) (fun n r t i P bI=>?_) (lp w L0 L1) ([],ab) ⟨fun I=>id,rfl⟩
  ·have i:=(en _).symm.trans i.2
   refine Y i ?_
   refine H6 ?_ g
   exact anz _ fun n q=>anh (Dr G q).2.ua
  ·have bI:=bI (t.1++[n],B (.V n)) ⟨fun x q=>i.1 x (.tail _ q),(dE ..).trans i.2⟩
   rw[eS] at bI
   o_norm
   exact wI O8 rfl (Dr G (i.1 n (.head _))).1 bI
 ·have bI:=bI (t.1++[n],B (.V n)) ⟨fun x q=>i.1 x (.tail _ q),(dE ..).trans i.2⟩
  rw[eS] at bI
  have A:=(Dr G (i.1 n (.head _))).2
  o_norm
  refine ak rfl (hc (a8 _) (zu (l:=l+4) (.dN rfl YT .fj:hj (rF hp w L0 L1 bg) (cx (dZ s w) .aK hp.length) [Dq (pa w L0 L1) (lp w L0 L1)]) (ai rfl) (CU (Dp n (og A.nm)) (H1 n (og A.nm))) ?_ bI))
  rw[d7,firstO_c]
  show bS (bS (cB (Dq (pa w L0 L1) (lp w L0 L1)) (.V n)) B _) B _=_
  rw[Dq,((anx (val:=pa w L0 L1) (lp w L0 L1) [] (Zf G)).1 n (i.1 n (.head _)))];rfl
end
section
variable {R:a0}{call:ah→ah→J D→J ap→a0→(J ap→Prop)→Prop}
theorem H7:∀n∈kn,(eL n).isSome=af:=by decide
theorem anB (hc:∀{aU f ds hp K X},aU≤l+7→bx aU f ds hp K X→call aU f ds hp K X)(H:hm hp L0 L1)(c8:cU .dH t L0)(dm:cU s t L1)(h:∀dt cJ cb cg,Q (i5 s w (B (.bb (h6 w))) dt cJ cb cg hn hP (B (eD s w))) hp):
  f6 ⟨l+7,call,b6,b5⟩ 56 (.gS [4] (.c0 (.bi ae .fS [(.bh (.aa 0) (.ag (.aF "table")))])) [.a7 (.jI (.e1 (.bp 44 [(.aa 0),(.aa 2),(.aa 4)]))) [.yi] [],.ig [5,6] [(.bp 43 [(.aa 0),(.aa 2),(.aa 4)]),(.fJ (.aa 11) 14 [(.aa 4)])],.a7 (.cA ae [(.aH .NotEq (.aa 6) (.aa 5)),(.aH .NotEq (.ji (.aa 6) 2) (.ji (.aa 5) 2))]) [.bO (B (.ag (.be ae)))] [],.bW 7 (.cA ae [(.aH .In (.aa 4) (.aa 3)),(.cA af [(.aH .Eq (.aa 2) (.ag (.ac 1))),(.aH .In (.aa 4) (.bh (.bh (.aa 0) (.ag (.aF "books"))) (.ag (.ac 0))))])]),.a7 (.aH .NotEq (.bp 21 [(.aa 11),(.aa 4)]) (.aa 7)) [.bO (B (.ag (.be ae)))] []]) (fun I=>bt) (i5 s w (B (.bb (h6 w))) dt cJ cb cg hn hP (B (eD s w))) hp Q (fun d hp=>R d hp) Kc:=by
 refine HV fun F kq=>?_
 o_norm
 refine s9 (wQ rfl Yk (ai rfl) (ak (ai rfl) ?_))
 refine lb (σ:=ax D×ax D×ax D×ax D) D.V (fun t=>i5 s w (B (.bb (h6 w))) t.1 t.2.1 t.2.2.1 t.2.2.2 hn hP (B (eD s w))) (fun I=>hp) (fun r I=>∀n∈r,n∈kn) (fun t I=>h _ _ _ _) (fun n r t i P bI=>?_) (eV (e4 ll)) (dt,cJ,cb,cg) (fun n q=>(jw _).mem_iff.mp q)
 have z:=H7 n (i n (.head _))
 exact kq _ _ _ _ (anj (R:=R) hc H c8 dm (.inl z) z fun cJ cb cg=>bI (B (.V n),cJ,cb,cg) fun x q=>i x (.tail _ q))
theorem Zg (hc:∀{aU f ds hp K X},aU≤l+7→bx aU f ds hp K X→call aU f ds hp K X)(H:hm hp L0 L1)(c8:cU .dH t L0)(dm:cU s t L1)(bE:t≤10)(h:∀eM dt cJ cb cg hn hP rE bg,P (i5 s w eM dt cJ cb cg hn hP rE) (rF hp w L0 L1 bg)):
  dX ⟨l+7,call,b6,b5⟩ 58 [.ig [11,3] [(.bh (.bh (.aa 0) (.ag (.aF "scopes"))) (.aa 2)),(.bh (.bh (.aa 0) (.ag (.aF "books"))) (.aa 2))],.gS [4] (.c0 (.bi ae .fS [(.bh (.aa 0) (.ag (.aF "table")))])) [.a7 (.jI (.e1 (.bp 44 [(.aa 0),(.aa 2),(.aa 4)]))) [.yi] [],.ig [5,6] [(.bp 43 [(.aa 0),(.aa 2),(.aa 4)]),(.fJ (.aa 11) 14 [(.aa 4)])],.a7 (.cA ae [(.aH .NotEq (.aa 6) (.aa 5)),(.aH .NotEq (.ji (.aa 6) 2) (.ji (.aa 5) 2))]) [.bO (B (.ag (.be ae)))] [],.bW 7 (.cA ae [(.aH .In (.aa 4) (.aa 3)),(.cA af [(.aH .Eq (.aa 2) (.ag (.ac 1))),(.aH .In (.aa 4) (.bh (.bh (.aa 0) (.ag (.aF "books"))) (.ag (.ac 0))))])]),.a7 (.aH .NotEq (.bp 21 [(.aa 11),(.aa 4)]) (.aa 7)) [.bO (B (.ag (.be ae)))] []],.bW 5 (.bp 43 [(.aa 0),(.aa 2),(.ag (.V [64,120]))]),.a7 (.aH .NotEq (.jj (.fJ (.aa 0) 14 [(.ag (.V [64,120]))]) [B 11]) (.aH .IsNot (.aa 5) (.ag .aK))) [.bO (B (.ag (.be ae)))] [],.a7 (.cA af [(.aH .IsNot (.aa 5) (.ag .aK)),(.aH .NotEq (.fJ (.aa 11) 14 [(.ag (.V [64,120]))]) (.aa 5))]) [.bO (B (.ag (.be ae)))] [],.bW 8 (.bp 51 [(.aa 0),(.aa 2),(.bi ae .br [(.aa 3)])]),.a7 (.aH .NotEq (.bp 26 [(.aa 11)]) (.aa 8)) [.bO (B (.ag (.be ae)))] [],.bW 9 (.bp 52 [(.aa 1),(.a7 (.aH .Eq (.aa 2) (.ag (.ac 0))) (.ag (.aF "window")) (.bh (.aa 0) (.ag (.aF "scope")))),(.aa 8)]),.a7 (.aH .NotEq (.lc (.fJ (.aa 1) 14 [(.aa 0)]) [0] (.c0 (.bi ae .fS [(.aa 3)])) [] [ab,B 9]) (.lc (.bh (.aa 1) (.aa 0)) [0] (.c0 (.bi ae .fS [(.aa 3)])) [] [ab,B 3])) [.bO (B (.ag (.be ae)))] []] (fun I=>bt) (i5 s w eM dt cJ cb cg hn hP rE) hp P (fun d hp=>R d hp) P:=by
 have G:=Dg (w:=w) c8 dm
 refine nr fun Q dJ=>?_
 o_norm
 refine Yl (HJ (ak (ai rfl) (ak rfl (dJ _ _ (nr fun Q dJ=>anB hc H c8 dm fun dt cJ cb cg=>dJ _ _ (nr fun Q dJ=>?_))))))
 o_norm
 exact hc (a8 _) (HG (l:=l+6) H (dJ _ _ (nr fun Q dJ=>anl hc H c8 dm (dJ _ _ (nr fun Q dJ=>anm hc H c8 dm (dJ _ _ (nr fun Q dJ=>ans hc H G bE (dJ _ _ (nr fun Q dJ=>ant hc H G bE (dJ _ _ (nr fun Q dJ=>anw hc G bE fun bg=>dJ _ _ (nr fun Q dJ=>anA hc H G bE (dJ _ _ (h _ _ _ _ _ _ _ _ bg))))))))))))))
theorem anC (h:ns.Perm ms):eV ns=eV ms:=List.Perm.eq_of_pairwise (le:=(·≤·)) (fun a b I I x y=>I2 x y) (Nc ns) (Nc ms) ((jw ns).trans (h.trans (jw ms).symm))
theorem Zh (b:n8 m):n∈e4 m↔d2 m (.V n)=af:=by
 have e:n∈e4 m↔bf.V n∈m.map (·.1):=by
  exact Y (H5 b) (⟨fun q=>xs q,fun q=>(h9.mp q).elim fun x z=>bf.V.inj z.2▸z.1⟩)
 rw[e]
 exact⟨fun q=>(h9.mp q).elim fun p z=>qu.mpr ⟨p,z.1,eO z.2⟩,Oa⟩
theorem Zi (ns:J (J am)):∀m,d2 (ns.foldl n7 m) (.V n)=(d2 m (.V n)||decide (n∈ns)):=by
 induction ns with
 |nil=>exact fun m=>(xo _).symm
 |cons x ns az=>
  intro m
  rw[tp,az,n7,i4,sZ,i4]
  by_cases e:n=x
  ·subst e
   refine Y (b3 rfl) (Y (eO (Qn ..)) (Y (va ..) ?_));rfl
  ·refine Y (bL fun q=>e (bf.V.inj q)) ?_
   refine bl (_||·) (x8.mpr ⟨fun q=>.tail _ q,fun q=>(cV.mp q).resolve_left e⟩)
theorem Zj (ns:J (J am)):∀m,iL m→iL (ns.foldl n7 m):=by
 induction ns with
 |nil=>exact fun m h=>h
 |cons x ns az=>exact fun m h=>az _ (C7 h)
noncomputable def rG (L0:cn):J (J am):=kn++bD (d2 L0 (.V e5)) [e5] []
theorem anD (G:cU .dH t L0):(e4 (nh L0)).Perm (rG L0):=by
 have gO:n8 (nh L0):=(HE kn _ (HE (eV (e4 L0)) [] (fun I=>dz)).1).1
 have jM:(rG L0).Nodup:=by rw[rG];cases d2 L0 (.V e5)<;>decide
 refine(List.perm_ext_iff_of_nodup ((Eg.mp (H5 gO▸(Zj _ _ (Zj _ _ .nil):iL (nh L0)):((e4 (nh L0)).map bf.V).Nodup)).imp fun h e=>h (bl bf.V e):(e4 (nh L0)).Nodup) jM).mpr fun n=>?_
 rw[Zh gO,nh,Zi,Zi,rG,fE]
 have O9:n∈eV (e4 L0)↔d2 L0 (.V n)=af:=(jw _).mem_iff.trans (Zh G.gO)
 refine⟨fun h=>?_,fun h=>?_⟩
 ·by_cases a:n∈kn
  ·exact .inl a
  ·rw[jZ a,xo] at h
   have q:=O9.mp (dg h)
   rw[i4] at q
   refine(iR.mp q).elim fun d e=>?_
   have cv:n=e5:=((G.at e).1).resolve_left fun z=>a (by
    exact(iR.mp z).elim fun k f=>xs (f:=(·.1)) (HF f))
   subst cv
   exact Y i4 (Y q (.inr (.head _)))
 ·induction h with
  |inl h=>exact Y (eO h) (Y (va ..) rfl)
  |inr h=>
   induction f:d2 L0 (.V e5)with
   |false=>rw[f] at h;exact dz h
   |true=>
    rw[f] at h
    rw[df.mp h] at O9⊢
    refine Y (eO (O9.mpr f)) ?_;rfl
end
section
variable {K:a0}
theorem Zk (c8:cU .dH t L0)(dm:cU s t L1)(h:n∈rG L0):rx (dT ae L0 L1) n:=by
 have go:gW n→(d7 (dT ae L0 L1) n).isSome=af→rx (dT ae L0 L1) n:=fun aA q=>by
  exact(iR.mp q).elim fun d e=>.mk (CU (Dp n (og aA)) (H1 n (og aA))) e ((zM (w:=ae) c8 dm aA).w2 d e).C8
 induction fE.mp h with
 |inl h=>exact go (.inl (H7 n h)) ((zM (w:=ae) c8 dm (.inl (H7 n h))).ON (H7 n h))
 |inr h=>
  induction f:d2 L0 (.V e5)with
  |false=>rw[f] at h;exact dz h
  |true=>
   rw[f] at h
   have e:=df.mp h
   subst e
   refine go H4 ?_
   rw[i4] at f
   refine(iR.mp f).elim fun d e=>?_
   rw[d7,dT,bD,firstO_c,e];rfl
theorem anE (H:hm hp L0 L1)(c8:cU .dH t L0)(dm:cU s t L1)(bE:t≤10)(h:K (.be af) hp):bx (l+8) 53 [dY s,.a5 eB] hp K X:=
 cZ rfl (full:=[dY s,.a5 eB]) rfl (loc:=[B (dY s),B (.a5 eB),ab,ab,ab,ab,ab,ab,ab,ab,ab,ab]) rfl fun call R aM hc r y=>by
  have tail:∀ex gw eM dt cJ cb cg hn hP rE,S ⟨l+7,call,b6,b5⟩ aM R Lk 1 59 [B (dY s),B (.a5 eB),gw,eM,dt,cJ,cb,cg,hn,hP,ab,rE] (hp++ex):=fun ex gw eM dt cJ cb cg hn hP rE=>by
   have jq:hm (hp++ex) L0 L1:=H.app
   have dq:(rG L0).length < 64:=by rw[rG];cases d2 L0 (.V e5)<;>exact ai rfl
   have gH:eV (e4 (nh L0))=eV (rG L0):=anC (anD c8)
   have ok:∀n∈eV (e4 (nh L0)),rx (dT ae L0 L1) n:=fun n q=>Zk c8 dm ((jw _).mem_iff.mp (gH▸q))
   refine a6 rfl ?_
   o_norm
   refine s9 (ak (ai rfl) (ak (ai rfl) ?_))
   refine zD ?_
   refine f9 (i:=0) rfl (ai rfl) ?_
   refine o3 (x:=.V e5) jq.pD rfl ?_
   have zS:S ⟨l+7,call,b6,b5⟩ aM R Lk 2 58 [B (dY s),B (.a5 eB),gw,eM,dt,cJ,cb,cg,hn,hP,B (.aP ((rG L0).map .V)),rE] (hp++ex):=by
    refine a6 rfl ?_
    o_norm
    refine X6 ?_
    refine f9 (i:=0) rfl (ai rfl) ?_
    refine hc (a8 _) (ald (l:=l+3) (vs:=[]) (.dN rfl jq.v0 .fj) (ai rfl) c8.gO (ao c8.bJ (ao bE (ai rfl))) ok ?_)
    refine hc (a8 _) (YK (l:=l+4) (w:=ae) jq (fun n q=>Zk c8 dm q) dq ?_)
    rw[gH]
    exact Ze Zd (r (wA cy h))
   rw[rG] at zS
   revert zS
   induction d2 L0 (.V e5)with
   |true=>exact fun zS=>ak ⟨by decide,by decide,ai rfl⟩ (ak (ai rfl) zS)
   |false=>exact fun zS=>ak ⟨by decide,by decide,ai rfl⟩ (ak (ai rfl) zS)
  refine a6 rfl (HV fun F kq=>?_)
  refine ak ⟨by decide,by decide⟩ ?_
  refine C2 (kq _ _ _ _ ?_)
  refine Zg (w:=ae) (R:=R) (P:=fun loc hp=>gk F [.ac 1] loc hp _) hc H c8 dm bE fun eM dt cJ cb cg hn hP rE bg=>?_
  refine C2 (kq _ _ _ _ ?_)
  refine Zg (w:=af) (R:=R) hc H.app.app c8 dm bE fun eM dt cJ cb cg hn hP rE rD=>?_
  show S _ _ _ _ _ _ _ _
  rw[rF,el,rF,el,dE,dE,dE]
  exact tail _ _ _ _ _ _ _ _ _ _
end
noncomputable def u2 (f:ah):aZ:=a9 (f < 3072)&&(f / 16 % 2==0)
structure fD (c:aq)(b:J am):Prop where
 v:o2 c b
 l:c < 33554432
inductive kR (M:ah):f8→Prop
 |mk {f:ah}{a b c:aq}{ba eQ bc:J am}(hf:f < M)(fB:fD a ba)(gL:fD b eQ)(gM:fD c bc):kR M ⟨f,.ac a,.ac b,.ac c,.ac 0⟩
section
variable {K:a0}{cells:J aq}
theorem H8 (bU:h≤890)(cL:cells.length≤100)(k:∀c b,fD c b→K (.ac c) (.br [.ac (h+2:ah)]::t)):bx (l+2) 54 [.aP (cells.map .ac),.bb 0] (.br [.ac h]::t) K X:=
 cZ rfl (full:=[.aP (cells.map .ac),.bb 0]) rfl (loc:=[B (.aP (cells.map .ac)),B (.bb 0),ab,ab]) rfl fun call R aM hc r y=>by
  have k:∀c b,fD c b→R (.ac c) (.br [.ac (h+2:ah)]::t):=fun c b v=>r (.inl (k c b v))
  refine a6 rfl ?_
  o_norm
  refine hc (a8 _) (jU (l:=l) (n:=3) (ao bU (ai rfl)) rfl cL fun w hw=>?_)
  refine ak ⟨by decide,by decide,by decide⟩ ?_
  refine hc (a8 _) (jU (l:=l) (n:=16777216) (ao (d8 bU) (ai rfl)) rfl cL fun n aA=>?_)
  refine ak (ai rfl) (ak rfl ?_)
  refine a6 (k:=1) rfl ?_
  o_norm
  refine ak (by decide) (ak (ai rfl) ?_)
  cases w with
  |zero=>exact f9 (i:=0) rfl (ai rfl) (k _ _ ⟨.no,by decide⟩)
  |succ w=>induction w with
   |zero=>
    refine f9 (i:=1) rfl (ai rfl) ?_
    have e:(n:aq).fmod 256=((n % 256:ah):aq):=zn (k:=256)
    exact e▸(k _ _ ⟨.jy (jW _ (by decide)),h7.mpr (l3 (jW _ (by decide)) (ai rfl))⟩)
   |succ w=>induction w with
    |zero=>exact f9 (i:=2) rfl (ai rfl) (k ((16777216+n:ah):aq) _ ⟨.CP (ed ..),h7.mpr (Jm aA 16777216)⟩)
    |succ w=>exact cr hw (mI.mpr (kt 3 w))
theorem anF:∀r,r < 512→∀u,u < 6→u2 (r - r / 16 % 2 *16+512 *u)=af:=by decide+kernel
theorem Zl (bU:h≤880)(cL:cells.length≤100)(k:∀f a b c ba eQ bc,u2 f=af→fD a ba→fD b eQ→fD c bc→K (f8.d ⟨(f:ah),.ac a,.ac b,.ac c,.ac 0⟩) (.br [.ac (h+8:ah)]::t)):bx (l+3) 55 [.aP (cells.map .ac),.bb 0] (.br [.ac h]::t) K X:=
 cZ rfl (full:=[.aP (cells.map .ac),.bb 0]) rfl (loc:=[B (.aP (cells.map .ac)),B (.bb 0),ab]) rfl fun call R aM hc r y=>by
  have hk:∀j,j≤10→h+j≤890:=fun j q=>eZ bU q
  refine a6 rfl ?_
  o_norm
  refine hc (a8 _) (jU (l:=l+1) (n:=512) (ao bU (ai rfl)) rfl cL fun f hf=>?_)
  refine a6 (k:=1) rfl ?_
  o_norm
  refine ak ⟨by decide,ai rfl⟩ ?_
  refine Y (CJ (k:=16):(f:aq).fdiv 16=((f / 16:ah):aq)) ?_
  have aN:((f / 16:ah):aq).fmod 2=((f / 16 % 2:ah):aq):=zn (k:=2)
  refine ak (by decide) ?_
  refine Y aN ?_
  refine ak ⟨l3 (jW _ (by decide):f / 16 % 2 < 2) (ai rfl),jy rfl⟩ (sT ?_)
  refine hc (a8 _) (jU (l:=l+1) (n:=6) (ao (hk 1 (ai rfl)) (ai rfl)) rfl cL fun u bP=>?_)
  refine ak ⟨jy rfl,l3 bP (ai rfl)⟩ (nq ?_)
  have dK:(f:aq) - ((f / 16 % 2:ah):aq) *16+512 *(u:aq)=((f - f / 16 % 2 *16+512 *u:ah):aq):=by
   have a:f / 16 % 2 *16≤f:=ao (Jl 16 (QT _ _)) (Nat.div_mul_le_self f 16)
   refine Y (DQ ..) (Y (DR a) (Y (z8 ..) (Y (z8 ..) ?_)));rfl
  refine Y dK ?_
  refine a6 (k:=2) rfl ?_
  o_norm
  exact hc (a8 _) (H8 (l:=l) (hk 2 (ai rfl)) cL fun a ba fB=>hc (a8 _) (H8 (l:=l) (hk 4 (ai rfl)) cL fun b eQ gL=>hc (a8 _) (H8 (l:=l) (hk 6 (ai rfl)) cL fun c bc gM=>ak (ai rfl) (r (.inl (k _ _ _ _ _ _ _ (anF f hf u bP) fB gL gM))))))
end
theorem zT {d:D}(h:d.eK=B i):d=.ac i:=by
 cases d with
 |ac j=>exact bl D.ac (bo h)
 |_=>exact nn h
theorem anG:∀n,n < 256→(iq (wD n)).eK=B (n:aq):=by decide+kernel
theorem anH:∀n,n < 16→(hx (hd n)).eK=B (n:aq):=by decide+kernel
theorem zU (h:n < 16):hx (hd n)=.ac n:=zT (anH n h)
theorem Pa (k:ah)(h:b < 2 ^ k):jE ((2 ^ k *a:ah):aq) (b:ah)=((2 ^ k *a+b:ah):aq):=by
 rw[bitOr_and,Jy (gY _) (gY _),ol,ol]
 have s:=Q3 (2 ^ k *a) b
 rw[←(Nat.two_pow_add_eq_or_of_lt h a)] at s
 exact(Nat.add_left_cancel (s.trans (QR _).symm):(2 ^ k *a)&&& b=0)▸(Int.sub_zero _)
theorem anI (aY:16777216≤n)(bu:n < 33554432):(16777216:aq)+jE (jE ((16 *(n / 65536 % 256 / 16:ah)+(n / 65536 % 256 % 16:ah)) *65536) ((16 *(n / 256 % 256 / 16:ah)+(n / 256 % 256 % 16:ah)) *256)) (16 *(n % 256 / 16:ah)+(n % 256 % 16:ah))=n:=by
 have q:∀x:ah,(16:aq) *(x / 16:ah)+(x % 16:ah)=(x:ah):=fun x=>by
  have:=QQ x 16
  show((16 *(x / 16)+x % 16:ah):aq)=_
  exact this.symm▸rfl
 rw[q,q,q]
 have a:((n / 65536 % 256:ah):aq) *65536=((2 ^ 16 *(n / 65536 % 256):ah):aq):=by rw[z8,z9];rfl
 have b:((n / 256 % 256:ah):aq) *256=((2 ^ 8 *(n / 256 % 256):ah):aq):=by rw[z8,z9];rfl
 rw[a,b,Pa 16 (ts (Nat.mul_lt_mul_of_pos_left (jW _ (by decide):n / 256 % 256 < 256) (by decide)) (ai rfl))]
 have c:2 ^ 16 *(n / 65536 % 256)+2 ^ 8 *(n / 256 % 256)=2 ^ 8 *(256 *(n / 65536 % 256)+n / 256 % 256):=by rw[Nat.mul_add,←Nat.mul_assoc]
 rw[c,Pa 8 (jW _ (by decide))]
 have d:2 ^ 8 *(256 *(n / 65536 % 256)+n / 256 % 256)+n % 256=n - 16777216:=by
  have e:256 *(n / 65536 % 256)+n / 256 % 256=n / 256 % (256 *256):=by rw[QS,Nat.div_div_eq_div_mul,fQ]
  rw[e,fQ]
  exact(QS (a:=256) (b:=65536)).symm.trans ((Nat.mod_eq_sub_mod aY).trans (Jr (Nat.sub_lt_right_of_lt_add aY bu)))
 rw[d,DR aY,Int.add_comm];exact Int.sub_add_cancel ..
theorem Zm (v:fD c b):iq b=.ac c:=by
 induction v with|mk v l=>
 induction v with
 |no=>rfl
 |@jy n h=>exact zT (anG n h)
 |@CP n h=>
  have rH:∀x:ah,x % 256 / 16 < 16:=fun x=>xB (jW x (by decide))
  have rI:∀x:ah,x % 16 < 16:=fun x=>jW x (by decide)
  have z:∀x0 nQ pS w8 w9 xa:am,iq (35::[x0,nQ,pS,w8,w9,xa])=bS (dF D.eK [hx x0,hx nQ,hx pS,hx w8,hx w9,hx xa]) NI .aK:=fun I I I I I I=>rfl
  rw[z,zU (rH _),zU (rI _),zU (rH _),zU (rI _),zU (rH _),zU (rI _)]
  exact bl D.ac (anI h (h7.mp l:n < 33554432))
structure jV (w:J am)(q:J am×D):Prop where
 pt:lR w=sY q
 ok:Hk q.1
 G9:m8 w
 ne:w≠[]
 Pb:w.contains 44=ae
 Pc:w.contains 32=ae
 bJ:w.length≤24
noncomputable def tg (w:J am):aZ:=HM w&&(eA [61] w 0).isNone&&(Hi (NS w)||(c7 w CM||c7 w sV))&&(kP w||(fY fh (h5 w)||fY ej (h5 w)))&&!w.contains 44&&!w.contains 32&&a9 (w≠[])&&a9 (w.length≤24)
noncomputable def gx (b:J am):J am:=[110,111]++b
section
variable {w b pre:J am}{f:ah}
theorem u3 (h:(!x)=af):x=ae:=(l2.mp h:_=!af)
theorem u4 (h:tg w=af):jV w (w,.aK):=by
 have h:=ct.mp h
 have l:=dg h.2
 have h:=ct.mp h.1
 have ne:=dg h.2
 have h:=ct.mp h.1
 have Pc:=u3 h.2
 have h:=ct.mp h.1
 have Pb:=u3 h.2
 have h:=ct.mp h.1
 have c3:=h.2
 have h:=ct.mp h.1
 have gX:=h.2
 have h:=ct.mp h.1
 refine⟨?_,⟨ao l (ai rfl),fun s=>?_⟩,Yt h.1,ne,Pb,Pc,l⟩
 ·rw[lR,l4.mp h.2,bS,Hj,gX];rfl
 ·rw[s,DN] at c3;exact th.mp c3
theorem Zn (h:kP w=ae):uG base p (w,d)=⟨iF p.f w,p.a,p.b,p.c,p.z⟩:=by
 have h:=lq.mp h
 have aY:=lq.mp h.2
 have bu:=lq.mp aY.2
 rw[uG,h.1,aY.1,bu.1,((l2.mp bu.2:_=!ae):(!c7 w CL&&!c7 w sV)=af)];rfl
theorem anJ:(kQ.all fun b=>tg b&&tg (gx b)&&!kP b&&!kP (gx b)&&!lS b&&lS (gx b)&&h5 (gx b)==b&&h5 b==b&&!fY fh b&&a9 (0≤eN ej b∧eN ej b < 512))=af:=by decide+kernel
theorem anK:(iG.all fun b=>tg b&&tg (gx b)&&!kP b&&!kP (gx b)&&!lS b&&lS (gx b)&&h5 (gx b)==b&&h5 b==b&&fY fh b&&a9 (0≤eN fh b∧eN fh b < 6))=af:=by decide+kernel
structure zV (L:J (J am×aq))(u:aZ)(m:aq)(b:J am):Prop where
 iM:jV b (b,.aK)
 w3:jV (gx b) (gx b,.aK)
 s1:kP b=ae
 s2:kP (gx b)=ae
 f1:lS b=ae
 f2:lS (gx b)=af
 lO:h5 (gx b)=b
 jf:h5 b=b
 un:fY fh b=u
 v0:0≤eN L b
 v1:eN L b < m
theorem Zo (h:(tg b&&tg (gx b)&&!kP b&&!kP (gx b)&&!lS b&&lS (gx b)&&h5 (gx b)==b&&h5 b==b&&u&&a9 (0≤eN L b∧eN L b < m))=af):∃x:tg b=af∧tg (gx b)=af∧kP b=ae∧kP (gx b)=ae∧lS b=ae∧lS (gx b)=af∧h5 (gx b)=b∧h5 b=b∧u=af,0≤eN L b∧eN L b < m:=by
 have h:=ct.mp h
 have v:=dg h.2
 have h:=ct.mp h.1
 have u:=h.2
 have h:=ct.mp h.1
 have jf:=c9 h.2
 have h:=ct.mp h.1
 have lO:=c9 h.2
 have h:=ct.mp h.1
 have f2:=h.2
 have h:=ct.mp h.1
 have f1:=u3 h.2
 have h:=ct.mp h.1
 have s2:=u3 h.2
 have h:=ct.mp h.1
 have s1:=u3 h.2
 have h:=ct.mp h.1
 exact⟨⟨h.1,h.2,s1,s2,f1,f2,lO,jf,u⟩,v⟩
theorem Zp (h:b∈kQ):zV ej ae 512 b:=(Zo (u:=!fY fh b) (gy.mp anJ b h)).elim fun x v=>⟨u4 x.1,u4 x.2.1,x.2.2.1,x.2.2.2.1,x.2.2.2.2.1,x.2.2.2.2.2.1,x.2.2.2.2.2.2.1,x.2.2.2.2.2.2.2.1,u3 x.2.2.2.2.2.2.2.2,v.1,v.2⟩
theorem Zq (h:b∈iG):zV fh af 6 b:=(Zo (u:=fY fh b) (gy.mp anK b h)).elim fun x v=>⟨u4 x.1,u4 x.2.1,x.2.2.1,x.2.2.2.1,x.2.2.2.2.1,x.2.2.2.2.2.1,x.2.2.2.2.2.2.1,x.2.2.2.2.2.2.2.1,x.2.2.2.2.2.2.2.2,v.1,v.2⟩
theorem anL:∀f,f < 4096→hE (f:ah) (qE 3584)=((f % 512:ah):aq):=by decide+kernel
theorem anM (hf:f < 4096)(bQ:zV ej ae 512 b):(∃g:ah,g < 4096∧iF f b=g)∧(∃g:ah,g < 4096∧iF f (gx b)=g)∧iF f b=f - hE f (eN ej b)+eN ej b∧iF f (gx b)=f - hE f (eN ej b):=by
 have aT:iF f b=jE f (eN ej b):=by rw[iF,bQ.jf,bQ.un,bQ.f1];rfl
 have aN:iF f (gx b)=hE f (qE (eN ej b)):=by rw[iF,bQ.lO,bQ.un,bQ.f2];rfl
 refine Y aT (Y aN (Y (bitOr_and ..) (Y (bitAnd_not ..) ?_)))
 refine(IK bQ.v0).elim fun v ev=>?_
 have v1:=bQ.v1
 rw[ev] at v1⊢
 refine Y (Jy (gY _) (gY _)) (Y (ol ..) (Y (ol ..) ?_))
 refine⟨⟨f|||v,(Nat.or_lt_two_pow hf (l3 (h7.mp v1:v < 512) (by decide)):f|||v < 2 ^ 12),?_⟩,⟨f - (f&&& v),e6 (xF ..) hf,(DR Nat.and_le_left).symm⟩,?_,rfl⟩
 ·have ar:((f|||v:ah):aq)+(f&&& v:ah)=f+v:=by exact cN (DQ ..) (cN (DQ ..) (Y (Q3 f v) rfl))
  lia
 ·lia
theorem Zr (hf:f < 4096)(bQ:zV fh af 6 b):(∃g:ah,g < 4096∧iF f b=g)∧iF f b=f+512 *(eN fh b - (f / 512 % 8:ah))∧iF f (gx b)=f - 512 *(f / 512 % 8:ah):=by
 have aT:iF f b=jE (hE f (qE 3584)) (eN fh b *512):=by rw[iF,bQ.jf,bQ.un,bQ.f1];rfl
 have aN:iF f (gx b)=jE (hE f (qE 3584)) (0 *512):=by rw[iF,bQ.lO,bQ.un,bQ.f2];rfl
 refine Y aT (Y aN (Y (anL f hf) ?_))
 refine(IK bQ.v0).elim fun v ev=>?_
 have v1:=bQ.v1
 rw[ev] at v1⊢
 have aqZ:v < 6:=h7.mp v1
 have o:∀v:ah,jE ((f % 512:ah):aq) ((v:aq) *512)=((2 ^ 9 *v+f % 512:ah):aq):=fun v=>by
  refine Y (bitOr_comm ..) (Y (show((v:aq) *512)=((2 ^ 9 *v:ah):aq) by refine Y (z8 ..) (Y (z9 ..) ?_);rfl) ?_)
  exact Pa 9 (jW _ (by decide))
 rw[o v,show((0:aq) *512)=((0:ah):aq) *512 from rfl,(o 0)]
 have aq0:=QQ f 512
 refine Y (Jr (xB hf):f / 512 % 8=f / 512) ?_
 have aq1:f % 512 < 512:=jW _ (by decide)
 exact⟨⟨_,by lia,rfl⟩,by lia,by lia⟩
end
noncomputable def H9 (b:J am):aZ:=(a9 (b.length≤14)&&!b.contains 44)&&!b.contains 32
theorem anN:∀n,n < 256→H9 (wD n)=af:=by decide+kernel
theorem anO:∀n,n < 16→((44==hd n)||(32==hd n))=ae:=by decide+kernel
theorem anP (l:b.length≤14)(h:b.contains 44=ae)(aj:b.contains 32=ae):H9 b=af:=by rw[H9,h,aj,eO l];rfl
theorem pb (h:n < 16):(44==hd n)=ae∧(32==hd n)=ae:=lq.mp (anO n h)
theorem Zs (v:fD c b):H9 b=af:=by
 induction v with|mk v l=>
 induction v with
 |no=>rfl
 |@jy n h=>exact anN n h
 |@CP n h=>
  have rH:∀x:ah,x % 256 / 16 < 16:=fun x=>xB (jW x (by decide))
  have rI:∀x:ah,x % 16 < 16:=fun x=>jW x (by decide)
  have z:∀x0 nQ pS w8 w9 xa:am,∀k:am,(k==35)=ae→(k==x0)=ae→(k==nQ)=ae→(k==pS)=ae→(k==w8)=ae→(k==w9)=ae→(k==xa)=ae→List.contains (35::[x0,nQ,pS,w8,w9,xa]) k=ae:=fun x0 nQ pS w8 w9 xa k h r9 a1 a2 AW KU KV=>by
   show((k==35)||((k==x0)||((k==nQ)||((k==pS)||((k==w8)||((k==w9)||((k==xa)||false)))))))=ae
   refine Y h (Y r9 (Y a1 (Y a2 (Y AW (Y KU (Y KV ?_))))));rfl
  exact anP (ai rfl) (z _ _ _ _ _ _ 44 rfl (pb (rH _)).1 (pb (rI _)).1 (pb (rH _)).1 (pb (rI _)).1 (pb (rH _)).1 (pb (rI _)).1) (z _ _ _ _ _ _ 32 rfl (pb (rH _)).2 (pb (rI _)).2 (pb (rH _)).2 (pb (rI _)).2 (pb (rH _)).2 (pb (rI _)).2)
theorem Zt (b:J am):c1 (x::y::61::b) ab (B (2:ah))=[x,y]:=by
 show(vj (ia _ _) _).drop 0=_
 refine(HZ (n:=(x::y::61::b).length) (show 2≤b.length+3 from kt 2 (b.length+1))).symm▸?_;rfl
theorem anQ (b:J am):c1 (x::y::61::b) (B (3:ah)) ab=b:=by
 show(vj (tr _) _).drop (ia _ _)=_
 refine(HZ (n:=(x::y::61::b).length) (show 3≤b.length+3 from kt 3 b.length)).symm▸I3.symm▸?_;rfl
theorem zW (v:fD c b)(k:∀b,eA [61] (x::y::61::b) 0=B 2)(f:c7 [x,y] sU=af)(s:kP [x,y]=af)(h:((44==x)||((44==y)||(44==61)))=ae)(aj:((32==x)||((32==y)||(32==61)))=ae):jV (x::y::61::b) ([x,y],.ac c):=by
 have gG:=ct.mp (Zs v)
 have kJ:=ct.mp gG.1
 have l:=dg kJ.1
 refine⟨?_,⟨ai rfl,fun z=>cr (s.symm.trans z) (by decide)⟩,?_,tn _ _,?_,?_,ao (dR l 3) (ai rfl)⟩
 ·rw[lR,k]
  show NR (c1 _ ab (B (2:ah))) (iq (c1 _ (B (3:ah)) ab))=_
  refine Y (Zt ..) (Y (anQ ..) (Y (Zm v) ?_));rfl
 ·rw[m8,k]
  exact ak (ao (dR l 3) (ai rfl)) (Y (Zt ..) f)
 ·show((44==x)||((44==y)||((44==61)||b.contains 44)))=ae
  rw[u3 kJ.2,xo];exact h
 ·show((32==x)||((32==y)||((32==61)||b.contains 32)))=ae
  rw[u3 gG.2,xo];exact aj
noncomputable def Ds:J (J am):=[[102,103,61],[98,103,61],[117,115,61]]
noncomputable def rA:ah→f8→D→f8
 |0,p,v=>⟨p.f,v,p.b,p.c,p.z⟩
 |1,p,v=>⟨p.f,p.a,v,p.c,p.z⟩
 |_,p,v=>⟨p.f,p.a,p.b,v,p.z⟩
def xb (base p:f8)(w:J am)(d5:f8):Prop:=∃q,jV w q∧uG base p q=d5
theorem anR (v:fD c b)(i:ah)(h:i < 3):xb base p (Ds.getD i []++b) (rA i p (.ac c)):=by
 induction i with
 |zero=>exact⟨_,zW v (fun I=>rfl) (by decide) (by decide) (by decide) (by decide),rfl⟩
 |succ i=>induction i with
  |zero=>exact⟨_,zW v (fun I=>rfl) (by decide) (by decide) (by decide) (by decide),rfl⟩
  |succ i=>induction i with
   |zero=>exact⟨_,zW v (fun I=>rfl) (by decide) (by decide) (by decide) (by decide),rfl⟩
   |succ i=>exact cr h (mI.mpr (kt 3 i))
theorem anS (i:ah)(h:i < 2):xb base p (CO.getD i []) ⟨0,p.a,p.b,p.c,p.z⟩:=by
 induction i with
 |zero=>exact⟨_,u4 (by decide+kernel),rfl⟩
 |succ i=>induction i with
  |zero=>exact⟨_,u4 (by decide+kernel),rfl⟩
  |succ i=>exact cr h (mI.mpr (kt 2 i))
theorem anT:xb base p uF base:=⟨_,u4 (by decide+kernel),rfl⟩
theorem Ia (P:jV w (w,.aK))(h:kP w=ae)(e:iF p.f w=g):xb base p w ⟨g,p.a,p.b,p.c,p.z⟩:=⟨_,P,e▸Zn h⟩
section
variable {cells:J aq}{a b c:aq}{R:a0}{call:ah→ah→J D→J ap→a0→(J ap→Prop)→Prop}
theorem Zu {α:Type}{L:J α}(h:r < L.length):∃v,L[r]?=B v:=⟨_,hQ h⟩
theorem anU:∀v∈kQ,fY ej v=af:=by decide+kernel
noncomputable def zX:ax D:=B (.a5 (gK ej))
noncomputable def zY:ax D:=B (.a5 (gK fh))
theorem anV {w:ah}(e:((w:aq)==0)=af):(w==0)=af:=qH.mpr (vb.mp (qH.mp e))
theorem anW {w:ah}(e:((w:aq)==0)=ae):(w==0)=ae:=jY.mpr fun q=>jY.mp e (bl IN q)
theorem anX:∀v∈kQ,v.length≤24:=by decide+kernel
theorem zZ {w d a b c:D}(k:R (.aW [w,.aW [d,a,b,c,.ac 0]]) hp):[d].length≤1000∧Fo (.aW [.ac f,a,b,c,.ac 0]) (B (.ac 1)) ab hp fun b hp=>pM ae .Add (.aW [d]) b hp fun d hp=>[w,d].length≤1000∧R (.aW [w,d]) hp:=
 ak (ai rfl) (ak (ai rfl) (ak (ai rfl) (ak (ai rfl) k)))
theorem anY (hc:∀{aU f ds hp K X},aU≤l+2→bx aU f ds hp K X→call aU f ds hp K X){w f:ah}{a b c u:D}(bU:h≤890)(cL:cells.length≤100)(hw:w < 2)
  (k:∀r v g,r < 9→kQ[r]?=B v→g=(f:aq) - hE f (eN ej v)→R (.aW [.V (bD (w==0) v (gx v)),.aW [.ac (bD (w==0) (g+eN ej v) g),a,b,c,.ac 0]]) (.br [.ac (h+1:ah)]::t)):
  S ⟨l+2,call,b6,b5⟩ aM R vV 2 58 [B (.aP (cells.map .ac)),B (.bb 0),B (.aW [.ac f,a,b,c,.ac 0]),B u,zX,zY,B (.ac w),B (.ac (f / 512 % 8:ah)),ab,ab,ab,ab,ab,ab] (.br [.ac h]::t):=by
 refine a6 (k:=2) rfl ?_
 o_norm
 refine mz (cI (eO (h7.mpr hw)) ?_)
 refine cf (a:=.a5 (gK ej)) rfl ?_
 refine Xl ?_
 refine cf (a:=.a5 (gK ej)) rfl ?_
 refine ak (ai rfl) ?_
 refine hc (a8 _) (jU (l:=l+1) (n:=9) (ao bU (ai rfl)) rfl cL fun r aL=>?_)
 refine(Zu (L:=kQ) aL).elim fun v ev=>?_
 have m4:fY ej v=af:=anU v (gZ ev)
 refine f9 (i:=r) (a:=.V v) (by refine gP▸ev▸?_;rfl) (ai rfl) ?_
 refine ak ⟨by decide,ai rfl⟩ ?_
 refine fX ?_
 refine ak ⟨by decide,ai rfl⟩ ?_
 refine fX ?_
 refine cf (a:=.a5 (gK ej)) rfl ?_
 refine rr m4 ?_
 refine N2 ?_
 refine sT ?_
 have k:=k r v _ aL ev rfl
 refine n5 (eW (fun e=>?_) fun e=>?_)
 ·rw[anV e] at k
  exact cf (a:=.a5 (gK ej)) rfl (rr m4 (nq (zZ k)))
 ·rw[anW e] at k
  exact ak (ao (eH (anX v (gZ ev)) 2) (ai rfl)) (zZ k)
end
section
variable {l h w f:ah}{cells:J aq}{call:ah→ah→J D→J ap→a0→(J ap→Prop)→Prop}
theorem Zv:∀v∈iG,fY fh v=af:=by decide+kernel
theorem anZ:∀v∈iG,v.length≤24:=by decide+kernel
theorem an0:∀v∈iG,∀k,k < 8→xG ((eN fh v - (k:ah)).natAbs+1) 18446744073709551616=af:=by decide+kernel
theorem Zw (h:F (!q.isEmpty)):eg .NotEq (.aP q) (.aP []) hp F:=cf (a:=q) (o:=gB hp (.aP q)) (F:=fun l=>F !l.isEmpty) rfl h
theorem Zx (hc:∀{aU f ds hp K X},aU≤l+2→bx aU f ds hp K X→call aU f ds hp K X)(bU:h≤890)(cL:cells.length≤100)(hw:a9 ((w:aq) < (4:ah))=af)
  (k:∀v∈iG,R (.aW [.V v,.aW [.ac (f+512 *(eN fh v - (f / 512 % 8:ah))),a,b,c,.ac 0]]) (.br [.ac (h+1:ah)]::t)):
  S ⟨l+2,call,b6,b5⟩ aM R vV 4 56 [B (.aP (cells.map .ac)),B (.bb 0),B (.aW [.ac f,a,b,c,.ac 0]),B u,zX,zY,B (.ac w),B (.ac (f / 512 % 8:ah)),ab,ab,o10,ab,ab,ab] (.br [.ac h]::t):=by
 refine a6 (k:=4) rfl ?_
 o_norm
 refine mz (cI hw ?_)
 refine cf (a:=.a5 (gK fh)) rfl ?_
 refine N1 ?_
 refine cf (a:=.a5 (gK fh)) rfl ?_
 refine ak (ai rfl) ?_
 refine hc (a8 _) (jU (l:=l+1) (n:=5) (ao bU (ai rfl)) rfl cL fun r aL=>?_)
 refine(Zu (L:=iG) aL).elim fun v ev=>?_
 have m:=gZ ev
 refine f9 (i:=r) (a:=.V v) (by refine gP▸ev▸?_;rfl) (ai rfl) ?_
 exact ak ⟨by decide,ai rfl⟩ (fX (cf (a:=.a5 (gK fh)) rfl (rr (Zv v m) (sT (ak ⟨jy rfl,jy (an0 v m _ (jW _ (ai rfl)))⟩ (nq (zZ (k v m))))))))
theorem an1 (hc:∀{aU f ds hp K X},aU≤l+2→bx aU f ds hp K X→call aU f ds hp K X)(bU:h≤890)(cL:cells.length≤100)
  (gq:∀v∈iG,R (.aW [.V (gx v),.aW [.ac (f - 512 *(f / 512 % 8:ah)),a,b,c,.ac 0]]) (.br [.ac (h:ah)]::t))
  (k:∀v∈iG,R (.aW [.V v,.aW [.ac (f+512 *(eN fh v - (f / 512 % 8:ah))),a,b,c,.ac 0]]) (.br [.ac (h+1:ah)]::t)):
  S ⟨l+2,call,b6,b5⟩ aM R vV 3 57 [B (.aP (cells.map .ac)),B (.bb 0),B (.aW [.ac f,a,b,c,.ac 0]),B u,zX,zY,B (.ac (3:ah)),B (.ac (f / 512 % 8:ah)),ab,ab,ab,ab,ab,ab] (.br [.ac h]::t):=by
 refine a6 (k:=3) rfl ?_
 o_norm
 refine n5 (cI rfl ?_)
 refine cf (a:=.a5 (gK fh)) rfl ?_
 refine N1 ?_
 refine ak (ai rfl) ?_
 refine lf (σ:=J (J am)×ax D) D.V (fun s=>s.1.map D.V) (fun s=>[s.2,B (.ac (f / 512 % 8:ah)),B (.a5 (gK fh))]) (fun I=>.br [.ac h]::t) (fun r s=>(∀w∈r,w∈iG)∧(∀w∈s.1,w∈iG)∧s.1.length+r.length≤5) (fun s i=>?_) (fun w r s i P bI=>?_) iG ([],ab) ⟨fun I m=>m,fun I m=>cr m mF,ai rfl⟩
 ·refine ak (ai rfl) ?_
  induction s with|mk us o=>
  induction us with
  |nil=>
   exact Zw (cW rfl (Zx (w:=3) (hw:=rfl) hc bU cL k))
  |cons v us=>
   have m:=i.2.1 v (.head _)
   exact Zw (cI rfl (f9 (i:=0) (a:=.V v) rfl (ao (eT (cH ..)) (ao i.2.2 (ai rfl))) (ak (ao (eH (anZ v m) 2) (ai rfl)) (ak ⟨by decide,ai rfl⟩ (fX (ak ⟨jy rfl,l3 (jW _ (ai rfl)) (ai rfl)⟩ (sT (zZ (gq v m)))))))))
 ·have hw:=i.1 w (.head _)
  o_norm
  refine rr (Zv w hw) ?_
  refine n5 ?_
  refine kN (fun a=>?_) fun a=>?_
  ·have bI:=bI (s.1++[w],B (.V w)) ⟨fun v m=>i.1 v (.tail _ m),fun v m=>(fE.mp m).elim (i.2.1 v) fun m=>df.mp m▸hw,Y (cG ..) (Y (gd ..) (Y (fQ 1 r.length) i.2.2))⟩
   rw[eS] at bI;exact bI
  ·exact bI (s.1,B (.V w)) ⟨fun v m=>i.1 v (.tail _ m),i.2.1,ao (eH (iQ _) _) i.2.2⟩
end
section
variable {l h w f:ah}{K:a0}{cells:J aq}{R:a0}{call:ah→ah→J D→J ap→a0→(J ap→Prop)→Prop}
theorem Zy {c:aq}{b:J am}(v:fD c b):b.length≤14:=dg (ct.mp (ct.mp (Zs v)).1).1
theorem an2 (h:K (.bb hp.length) (hp++[o])):hX af o x hp K:=h
noncomputable def f8.li (p:f8):J D:=[.ac p.f,p.a,p.b,p.c,p.z]
theorem an3 (bH:q.length≤1000)(h:K (.aW q) (hp++[.br q])):j5 ae .nH [.bb hp.length] (hp++[.br q]) K:=cf (a:=q) Hm (ak bH h)
noncomputable def an4:D:=.aP [.V [102,103,61],.V [98,103,61],.V [117,115,61]]
theorem an5:∀i,i < 3→(f8.li p).set (1+i) d=f8.li (rA i p d)
 |0,_=>rfl
 |1,_=>rfl
 |2,_=>rfl
theorem an6:∀i,i < 3→[D.V [102,103,61],.V [98,103,61],.V [117,115,61]][i]?=B (.V (Ds.getD i []))
 |0,_=>rfl
 |1,_=>rfl
 |2,_=>rfl
theorem an7:∀i,i < 3→(Ds.getD i []).length=3:=by decide
theorem an8 {i:ah}(hi:i < q.length)(bH:q.length≤1000)(h:P (hp++[.br (q.set i x)])):tT (.bb hp.length) (.ac i) x (hp++[ap.br q]) P:=
 cf (a:=ap.br q) hg (cf (a:=(i:aq)) rfl (ak ⟨gY i,hi,bH⟩ (Y sS h)))
theorem an9 (hc:∀{aU f ds hp K X},aU≤l+2→bx aU f ds hp K X→call aU f ds hp K X)(hi:i < 3)(cX:fD n v)(k:R (.aW [.V (Ds.getD i []++v),(rA i p (.ac n)).d]) (hp++[.br (f8.li (rA i p (.ac n)))])):
  tT (.bb hp.length) (.ac (1+i)) (.ac n) (hp++[.br (f8.li p)]) fun bH=>3≤1000∧g9 bH (fun a bH=>call (l+2) 29 [.ac n] bH (fun b bH=>pM ae .Add a b bH fun w bH=>j5 ae .nH [.bb hp.length] bH fun d bH=>[w,d].length≤1000∧R (.aW [w,d]) bH) aM) an4 (.ac i):=by
 refine Y (show(1+(i:aq))=((1+i:ah):aq) from rfl) ?_
 refine an8 (Jm (ts hi (ai rfl)) 1:1+i < 1+4) (ai rfl) ?_
 refine Y (an5 i hi) ?_
 refine ak (ai rfl) ?_
 refine f9 (i:=i) (an6 i hi) (ai rfl) ?_
 refine hc (a8 _) (NX cX.v ?_)
 refine ak (by refine(an7 i hi)▸?_;exact ao (eH (Zy cX) 3) (ai rfl)) ?_
 exact an3 (ai rfl) (ak (ai rfl) k)
theorem aoa (hc:∀{aU f ds hp K X},aU≤l+2→bx aU f ds hp K X→call aU f ds hp K X)(bU:h≤885)(cL:cells.length≤100)
  (k:∀i n v,i < 3→fD n v→R (.aW [.V (Ds.getD i []++v),(rA i p (.ac n)).d]) ((.br [.ac (h+1+2:ah)]::t)++[.br (f8.li (rA i p (.ac n)))])):
  S ⟨l+2,call,b6,b5⟩ aM R vV 3 57 [B (.aP (cells.map .ac)),B (.bb 0),B p.d,B u,zX,zY,B (.ac (4:ah)),B (.ac (f / 512 % 8:ah)),ab,ab,ab,ab,ab,ab] (.br [.ac h]::t):=by
 refine a6 (k:=3) rfl ?_
 o_norm
 refine n5 (cW rfl ?_)
 refine a6 (k:=4) rfl ?_
 o_norm
 refine mz (cW rfl ?_)
 refine a6 (k:=5) rfl ?_
 o_norm
 exact n5 (cI rfl (hc (a8 _) (jU (l:=l+1) (n:=3) (ao bU (ai rfl)) rfl cL fun i hi=>hc (a8 _) (H8 (l:=l) (ao (d8 bU) (ai rfl)) cL fun n v cX=>ak (ai rfl) (ak rfl (ak (ai rfl) (an2 (nq (an9 hc hi cX (k i n v hi cX))))))))))
theorem aob (hc:∀{aU f ds hp K X},aU≤l+2→bx aU f ds hp K X→call aU f ds hp K X)(bU:h≤885)(cL:cells.length≤100)
  (k:∀i,i < 2→R (.aW [.V (CO.getD i []),.aW [.ac 0,a,b,c,.ac 0]]) (.br [.ac (h+1:ah)]::t)):
  S ⟨l+2,call,b6,b5⟩ aM R vV 3 57 [B (.aP (cells.map .ac)),B (.bb 0),B (.aW [.ac f,a,b,c,.ac 0]),B u,zX,zY,B (.ac (5:ah)),B (.ac (f / 512 % 8:ah)),ab,ab,ab,ab,ab,ab] (.br [.ac h]::t):=by
 refine a6 (k:=3) rfl ?_
 o_norm
 refine n5 (cW rfl ?_)
 refine a6 (k:=4) rfl ?_
 o_norm
 refine mz (cW rfl ?_)
 refine a6 (k:=5) rfl ?_
 o_norm
 refine n5 (cW rfl ?_)
 refine a6 (k:=6) rfl ?_
 o_norm
 refine n5 (cI rfl ?_)
 refine ak (ai rfl) ?_
 refine hc (a8 _) (jU (l:=l+1) (n:=2) (ao bU (ai rfl)) rfl cL fun i hi=>?_)
 have k:=k i hi
 induction i with
 |zero=>exact f9 (i:=0) rfl (ai rfl) (zZ k)
 |succ i=>induction i with
  |zero=>exact f9 (i:=1) rfl (ai rfl) (zZ k)
  |succ i=>exact cr hi (mI.mpr (kt 2 i))
theorem aoc (k:R (.aW [.V uF,u]) hp):
  S ⟨l+2,call,b6,b5⟩ aM R vV 3 57 [D0,B r,D2,B u,zX,zY,B (.ac (6:ah)),D7,ab,ab,ab,ab,ab,ab] hp:=by
 refine a6 (k:=3) rfl ?_
 o_norm
 refine n5 (cW rfl ?_)
 refine a6 (k:=4) rfl ?_
 o_norm
 refine mz (cW rfl ?_)
 refine a6 (k:=5) rfl ?_
 o_norm
 refine n5 (cW rfl ?_)
 refine a6 (k:=6) rfl ?_
 o_norm
 refine n5 (cW rfl ?_)
 refine a6 (k:=7) rfl ?_
 o_norm
 exact ak (ai rfl) k
end
section
variable {K:a0}{cells:J aq}{a b c x:aq}
theorem Ib (e:∃g:ah,g < 4096∧x=g)(fB:fD a ba)(gL:fD b eQ)(gM:fD c bc):kR 4096 ⟨x,.ac a,.ac b,.ac c,.ac 0⟩:=e.elim fun g q=>Y q.2 (.mk q.1 fB gL gM)
theorem aod (P:kR 4096 p)(cX:fD n v):∀i,i < 3→kR 4096 (rA i p (.ac n)):=by
 induction P with|mk hf fB gL gM=>
 intro i hi
 induction i with
 |zero=>exact .mk hf cX gL gM
 |succ i=>induction i with
  |zero=>exact .mk hf fB cX gM
  |succ i=>exact .mk hf fB gL cX
theorem aoe:∀w,w < 7→w < 2∨w=2∨w=3∨w=4∨w=5∨w=6:=by decide
theorem aof (bU:h≤880)(cL:cells.length≤100)(P:kR 4096 p)(bQ:kR 4096 base)(k:∀w d5 j ex,j≤4→xb base p w d5→kR 4096 d5→K (.aW [.V w,d5.d]) (.br [.ac (h+j:ah)]::(t++ex))):bx (l+3) 56 [.aP (cells.map .ac),.bb 0,p.d,base.d] (.br [.ac h]::t) K X:=
 cZ rfl (full:=[.aP (cells.map .ac),.bb 0,p.d,base.d]) rfl (loc:=[B (.aP (cells.map .ac)),B (.bb 0),B p.d,B base.d,ab,ab,ab,ab,ab,ab,ab,ab,ab,ab]) rfl fun call R aM hc r y=>by
  have k:∀w d5 j ex,j≤4→xb base p w d5→kR 4096 d5→R (.aW [.V w,d5.d]) (.br [.ac (h+j:ah)]::(t++ex)):=fun w d5 j ex a b c=>r (.inl (k w d5 j ex a b c))
  have gq:∀w d5 j,j≤4→xb base p w d5→kR 4096 d5→R (.aW [.V w,d5.d]) (.br [.ac (h+j:ah)]::t):=fun w d5 j a b c=>(en t)▸k w d5 j [] a b c
  refine a6 rfl ?_
  o_norm
  refine hc (a8 _) (CF ?_)
  refine hc (a8 _) (zk ?_)
  refine hc (a8 _) (jU (l:=l+1) (n:=7) (ao bU (ai rfl)) rfl cL fun w hw=>?_)
  refine ak (ai rfl) (ak rfl ?_)
  refine a6 (k:=1) rfl ?_
  o_norm
  have aY:h+1≤890:=ao (d8 bU) (ai rfl)
  induction P with|@mk f a b c ba eQ bc hf fB gL gM=>
  refine ak ⟨by decide,ai rfl⟩ ?_
  refine fX ?_
  refine ak ⟨by decide,ai rfl⟩ ?_
  refine Y (CJ (k:=512):(f:aq).fdiv 512=((f / 512:ah):aq)) ?_
  refine ak (by decide) ?_
  refine(zn (k:=8):((f / 512:ah):aq).fmod 8=((f / 512 % 8:ah):aq))▸?_
  have kb:∀v∈kQ,zV ej ae 512 v:=fun v m=>Zp m
  have z0:∀v∈iG,zV fh af 6 v:=fun v m=>Zq m
  by_cases Pd:w < 2
  ·refine anY hc aY cL Pd fun r v g aL ev aog=>?_
   have m:=gZ ev
   have z:=anM hf (kb v m)
   subst aog
   induction HQ:w==0 with
   |true=>exact gq v _ 2 (ai rfl) (Ia (kb v m).iM (kb v m).s1 z.2.2.1) (Ib (z.2.2.1▸z.1) fB gL gM)
   |false=>exact gq (gx v) _ 2 (ai rfl) (Ia (kb v m).w3 (kb v m).s2 z.2.2.2) (Ib (z.2.2.2▸z.2.1) fB gL gM)
  ·refine a6 (k:=2) rfl ?_
   o_norm
   refine mz (cW (jZ fun q=>Pd (h7.mp q)) ?_)
   have un:∀v∈iG,R (.aW [.V v,.aW [.ac (f+512 *(eN fh v - (f / 512 % 8:ah))),.ac a,.ac b,.ac c,.ac 0]]) (.br [.ac (h+1+1:ah)]::t):=fun v m=>by
    have z:=Zr hf (z0 v m)
    exact gq v _ 2 (ai rfl) (Ia (z0 v m).iM (z0 v m).s1 z.2.1) (Ib (z.2.1▸z.1) fB gL gM)
   have aoh:∀v∈iG,R (.aW [.V (gx v),.aW [.ac (f - 512 *(f / 512 % 8:ah)),.ac a,.ac b,.ac c,.ac 0]]) (.br [.ac (h+1:ah)]::t):=fun v m=>by
    exact gq (gx v) _ 1 (ai rfl) (Ia (z0 v m).w3 (z0 v m).s2 (Zr hf (z0 v m)).2.2) (Ib ⟨_,e6 (xF ..) hf,(DR (ao (hR 512 (QT _ _)) (Nat.mul_div_le f 512):512 *(f / 512 % 8)≤f)).symm⟩ fB gL gM)
   by_cases Zz:w=2
   ·refine a6 (k:=3) rfl ?_
    subst Zz
    o_norm
    exact n5 (cW rfl (Zx (w:=2) (hw:=rfl) hc aY cL un))
   by_cases ZA:w=3
   ·subst ZA
    exact an1 hc aY cL aoh un
   by_cases ZB:w=4
   ·subst ZB
    exact aoa (p:=⟨f,.ac a,.ac b,.ac c,.ac 0⟩) hc (ao (d8 bU) (ai rfl)) cL fun i n v hi cX=>k _ _ 4 _ (ai rfl) (anR cX i hi) (aod (.mk hf fB gL gM) cX i hi)
   by_cases CN:w=5
   ·subst CN
    exact aob hc (ao (d8 bU) (ai rfl)) cL fun i hi=>gq _ _ 2 (ai rfl) (anS i hi) (.mk (f:=0) (ai rfl) fB gL gM)
   have aoi:w=6:=(((((aoe w hw).resolve_left Pd).resolve_left Zz).resolve_left ZA).resolve_left ZB).resolve_left CN
   subst aoi
   exact aoc (gq _ _ 1 (ai rfl) anT bQ)
end
section
variable {base z1 p d5:f8}{n:ah}{T w:J am}
noncomputable def u5 (b:J am):J am:=b.map fun c=>if c==32 then 44 else c
theorem aoj (h:w.contains 32=ae):u5 w=w:=by
 induction w with
 |nil=>rfl
 |cons a w az=>
  have h:=lq.mp ((vf ..).symm.trans h)
  have e:(a==32)=ae:=Ky fun e=>jY.mp h.1 e.symm
  show(if(a==32)=af then(44:am)else a)::u5 w=_
  refine Y (az h.2) (Y e ?_);rfl
theorem Ic (P:jV w q):fA w=[w]:=by
 show dC 44 (u5 w)=_
 exact(aoj P.Pc).symm▸(Dj w P.Pb).symm▸rfl
theorem ZC (h:s=44∨s=32):fA (T++[s]++w)=fA T++fA w:=by
 show dC 44 (u5 (T++[s]++w))=_
 have e:u5 (T++[s]++w)=u5 T++[44]++u5 w:=by
  rw[u5,eS,eS]
  induction h with
  |inl h=>subst h;rfl
  |inr h=>subst h;rfl
 refine Y e (Y (OJ ..) ?_);rfl
noncomputable abbrev rJ:=J am×(J am×D)
structure z2 (base z1:f8)(n:ah)(T:J am)(p:f8)(l:J rJ):Prop where
 iI:l.length=n
 iM:∀x∈l,jV x.1 x.2
 lL:kO base (l.map (·.2)) z1=p
 st:l≠[]→fA T=l.map (·.1)
 z:l=[]↔T=[]
 bJ:T.length≤25 *n
theorem aok:z2 base z1 0 [] z1 []:=⟨rfl,fun I m=>cr m mF,rfl,fun h=>cr rfl h,⟨fun I=>rfl,fun I=>rfl⟩,ai rfl⟩
noncomputable def Pe (n:ah)(s:am):J am:=bD (n==0) [] [s]
theorem aol (X:z2 base z1 n T p l)(P:jV w q)(e:uG base p q=d5)(h:s=44∨s=32):z2 base z1 (n+1) (T++Pe n s++w) d5 (l++[(w,q)]):=by
 refine⟨by refine cG▸X.iI▸?_;rfl,fun x m=>(fE.mp m).elim (X.iM x) fun m=>(df.mp m).symm▸P,?_,fun I=>?_,⟨fun h=>cr h (IQ _ (tn _ _)),fun h=>cr h (IQ _ P.ne)⟩,?_⟩
 ·rw[eS,kO,Qr]
  have o:=X.lL
  rw[kO] at o
  exact Y o e
 ·refine Y eS ?_
  induction n with
  |zero=>
   have ln:=P9 X.iI
   exact Y ln (Y (X.z.mp ln) (Ic P))
  |succ n=>
   show fA (T++[s]++w)=_
   refine Y (ZC h) (Y (X.st (fun q=>by rw[q] at X;exact Nat.noConfusion X.iI)) (Y (Ic P) ?_));rfl
 ·have ch:(Pe n s).length≤1:=by induction n with|zero=>exact jD _|succ n=>exact a8 _
  exact Y (cG ..) (Y (cG ..) (Y (tu ..) (Y (gd ..) (eZ X.bJ (ao (eZ ch P.bJ) (ai rfl))))))
theorem aom {l:J rJ}(h:∀x∈l,jV x.1 x.2):hM (l.map (·.1))=B ((l.map (·.2)).map sY):=by
 induction l with
 |nil=>rfl
 |cons x l az=>
  show bD (x.1 !=[]) (qh (lR x.1) (hM (l.map (·.1)))) _=_
  refine Y (r3.mpr (h x (.head _)).ne:(x.1 !=[])=af) (Y ((h x (.head _)).pt) (Y (az fun y m=>h y (.tail _ m)) ?_));rfl
end
noncomputable def aon (f:ah):aq:=(lT f kQ 0++wG f iG).foldl iF 0
theorem aoo:∀f,f < 3072→(!u2 f||aon f==(f:ah))=af:=by decide+kernel
section
variable {f:ah}{l:J rJ}
noncomputable def mD:f8:=⟨0,.ac (-1),.ac (-1),.ac (-1),.ac 0⟩
theorem aop (h:∀x∈l,jV x.1 x.2)(ne:l≠[]):fA (kZ [44] (l.map (·.1)))=l.map (·.1):=by
 induction l with
 |nil=>exact cr rfl ne
 |cons x l az=>
  induction l with
  |nil=>exact Ic (h x (.head _))
  |cons y l=>
   refine Y (ZC (.inl rfl)) (Y (Ic (h x (.head _))) (Y (az (fun z m=>h z (.tail _ m)) (tn _ _)) ?_));rfl
theorem aoq (h:∀x∈l,jV x.1 x.2):(kZ [44] (l.map (·.1))).length≤25 *l.length:=by
 induction l with
 |nil=>exact jD _
 |cons x l az=>
  refine Y (iO ..) (Y (tu ..) ?_)
  induction l with
  |nil=>exact ao (h x (.head _)).bJ (ai rfl)
  |cons y l=>
   show(x.1++([44]:J am)++kZ [44] ((y::l).map lr)).length≤_
   exact Y (cG ..) (Y (cG ..) (Y (fQ ..) (eZ (az fun z m=>h z (.tail _ m)) (dR (h x (.head _)).bJ 1))))
theorem ZD:∀(ws:J (J am)) (k:aq),(∀w∈lT f ws k,w∈ws)∧(lT f ws k).length≤ws.length:=by
 intro ws
 induction ws with
 |nil=>exact fun I=>⟨fun I m=>m,ai rfl⟩
 |cons v ws az=>
  intro k
  rw[bitW_c]
  induction(hE (f:aq) (eN ej v) !=0&& !(hE k (eN ej v) !=0))with
  |true=>
   have z:=az (jE k (eN ej v))
   exact⟨fun w m=>(cV.mp m).elim (fun e=>e▸.head _) fun m=>.tail _ (z.1 w m),d8 z.2⟩
  |false=>exact⟨fun w m=>.tail _ ((az k).1 w m),mH (az k).2⟩
noncomputable def Ie (w:J am):rJ:=(w,(w,.aK))
noncomputable def l0 (pre:J am)(c:aq)(b:J am):J rJ:=bD (c != -1) [(pre++[61]++b,(pre,.ac c))] []
noncomputable def xc (f:ah):J (J am):=lT f kQ 0++wG f iG
theorem ZE:∀w∈xc f,jV w (w,.aK)∧kP w=ae:=fun w m=>(fE.mp m).elim (fun m=>have bQ:=Zp ((ZD kQ 0).1 w m);⟨bQ.iM,bQ.s1⟩) fun m=>have bQ:=Zq (tq.mp m).1;⟨bQ.iM,bQ.s1⟩
theorem aor:(xc f).length≤14:=by
 rw[xc,cG]
 exact eZ (ZD kQ 0).2 (pk ..)
theorem aos {L:J (J am)}(h:∀w∈L,kP w=ae):∀p:f8,kO mD ((L.map Ie).map (·.2)) p=⟨L.foldl iF p.f,p.a,p.b,p.c,p.z⟩:=by
 induction L with
 |nil=>exact fun I=>rfl
 |cons w L az=>
  intro p
  show kO mD ((L.map Ie).map (·.2)) (uG mD p (w,.aK))=_
  rw[Zn (h w (.head _)),az fun v m=>h v (.tail _ m)];rfl
theorem Pf (v:fD c b)(k:∀c b,fD c b→jV (pre++[61]++b) (pre,.ac c)):∀x∈l0 pre c b,jV x.1 x.2:=by
 rw[l0]
 induction(c != -1)with
 |true=>exact fun x m=>(df.mp m).symm▸k c b v
 |false=>exact fun x m=>cr m mF
end
section
variable {a b c:aq}{l m:J rJ}
noncomputable def u6 (f:ah)(a b c:aq)(ba eQ bc:J am):J rJ:=l0 [102,103] a ba++l0 [98,103] b eQ++l0 [117,115] c bc++(xc f).map Ie
theorem Pg {b:J am}:(l0 pre c b).map lr=lh pre c b:=by
 rw[l0,lh];cases(c != -1)<;>rfl
theorem aot (L:J (J am)):(L.map Ie).map lr=L:=by
 induction L with
 |nil=>rfl
 |cons w L az=>exact bl (w::·) az
theorem aou:(u6 f a b c ba eQ bc).map lr=zq f a b c ba eQ bc:=by
 rw[u6,eS,eS,eS,Pg,Pg,Pg,aot,xc,←dE];rfl
theorem Ph:kO q ((l++m).map i7) p=kO q (m.map i7) (kO q (l.map i7) p):=by
 rw[kO,eS,Qr];rfl
theorem aov:kO mD ((l0 [102,103] a ba).map i7) ⟨F,.ac (-1),bQ,C,z⟩=⟨F,.ac a,bQ,C,z⟩:=by
 rw[l0]
 induction e:a != -1 with
 |true=>rfl
 |false=>refine Y (qG.mp e) ?_;rfl
theorem aow:kO mD ((l0 [98,103] a ba).map i7) ⟨F,A,.ac (-1),C,z⟩=⟨F,A,.ac a,C,z⟩:=by
 rw[l0]
 induction e:a != -1 with
 |true=>rfl
 |false=>refine Y (qG.mp e) ?_;rfl
theorem aox:kO mD ((l0 [117,115] a ba).map i7) ⟨F,A,bQ,.ac (-1),z⟩=⟨F,A,bQ,.ac a,z⟩:=by
 rw[l0]
 induction e:a != -1 with
 |true=>rfl
 |false=>refine Y (qG.mp e) ?_;rfl
theorem aoy (h:u2 f=af):(xc f).foldl iF 0=f:=by
 have z:=aoo f (dg (ct.mp h).1:f < 3072)
 have z:=h▸z
 exact c9 z
theorem aoz (h:u2 f=af):kO mD ((u6 f a b c ba eQ bc).map i7) mD=⟨f,.ac a,.ac b,.ac c,.ac 0⟩:=by
 have jL:kO mD ((l0 [102,103] a ba).map i7) mD=⟨0,.ac a,.ac (-1),.ac (-1),.ac 0⟩:=aov
 rw[u6,Ph,Ph,Ph,jL,aow,aox]
 exact((aoy h)▸(aos (L:=xc f) (fun w m=>(ZE w m).2) ⟨0,.ac a,.ac b,.ac c,.ac 0⟩))
theorem aoA (fB:fD a ba)(gL:fD b eQ)(gM:fD c bc):∀x∈u6 f a b c ba eQ bc,jV x.1 x.2:=by
 intro x m
 refine(fE.mp m).elim (fun m=>(fE.mp m).elim (fun m=>(fE.mp m).elim (fun m=>?_) fun m=>?_) fun m=>?_) fun m=>?_
 ·exact Pf fB (fun c b v=>zW v (fun I=>rfl) (by decide) (by decide) (by decide) (by decide)) x m
 ·exact Pf gL (fun c b v=>zW v (fun I=>rfl) (by decide) (by decide) (by decide) (by decide)) x m
 ·exact Pf gM (fun c b v=>zW v (fun I=>rfl) (by decide) (by decide) (by decide) (by decide)) x m
 ·exact(h9.mp m).elim fun w z=>cN z.2 ((ZE w z.1).1)
theorem Pj {b:J am}:(l0 pre c b).length≤1:=by
 rw[l0];induction(c != -1)with|true=>exact ai rfl|false=>exact ai rfl
theorem aoB:(u6 f a b c ba eQ bc).length≤17:=by
 rw[u6,cG,cG,cG,cH]
 exact eZ (eZ (eZ Pj Pj) Pj) aor
theorem aoC (h:u2 f=af)(fB:fD a ba)(gL:fD b eQ)(gM:fD c bc):∃l:J rJ,(∀x∈l,jV x.1 x.2)∧fA (zp (zq f a b c ba eQ bc))=l.map lr∧kO mD (l.map i7) mD=⟨f,.ac a,.ac b,.ac c,.ac 0⟩∧(zp (zq f a b c ba eQ bc)).length≤900:=by
 have iM:=aoA (f:=f) fB gL gM
 have lL:=aoz (a:=a) (b:=b) (c:=c) (ba:=ba) (eQ:=eQ) (bc:=bc) h
 have ln:=aoB (f:=f) (a:=a) (b:=b) (c:=c) (ba:=ba) (eQ:=eQ) (bc:=bc)
 refine cN (aou (f:=f) (a:=a) (b:=b) (c:=c) (ba:=ba) (eQ:=eQ) (bc:=bc)) ?_
 revert iM lL ln
 generalize u6 f a b c ba eQ bc=l
 intro iM lL ln
 induction l with
 |nil=>exact⟨[(uF,(uF,.aK))],fun x m=>(df.mp m).symm▸u4 (by decide+kernel),rfl,lL,ai rfl⟩
 |cons x l=>exact⟨x::l,iM,aop iM (tn _ _),lL,ao (aoq iM) (ao (hR 25 ln) (ai rfl))⟩
end
section
variable {l h:ah}{t:J ap}{cells:J aq}{call:ah→ah→J D→J ap→a0→(J ap→Prop)→Prop}{p base:f8}
theorem aoD (h:ah):h+1+5 *4≤h+21:=a8 _
structure SL where
 k:ah
 T:J am
 p:f8
 L:J rJ
 h:ah
 t:J ap
 cb:ax D
 cg:ax D
theorem aoE (hc:∀{aU f ds hp K X},aU≤l+4→bx aU f ds hp K X→call aU f ds hp K X)(bU:h≤800)(cL:cells.length≤100)(P:kR 4096 p)(bQ:kR 4096 base)
  (k:∀n T d5 L aj t' cb cg,n≤4→aj≤h+21→z2 base p n T d5 L∧kR 4096 d5→S ⟨l+4,call,b6,b5⟩ aM R k2 3 57 [B (.aP (cells.map .ac)),B (.bb 0),B d5.d,B base.d,B p.d,B (.V T),cb,cg,ab,ab,ab] (.br [.ac (aj:ah)]::t')):
  S ⟨l+4,call,b6,b5⟩ aM R k2 2 58 [B (.aP (cells.map .ac)),B (.bb 0),B p.d,B base.d,B p.d,B (.V []),ab,ab,ab,ab,ab] (.br [.ac h]::t):=by
 refine a6 (k:=2) rfl ?_
 o_norm
 refine hc (a8 _) (jU (l:=l+3) (n:=5) (ao bU (ai rfl)) rfl cL fun n aA=>?_)
 refine ak ⟨gY n,xq.mpr (ao (ir aA) (ai rfl))⟩ ?_
 refine lb (σ:=SL) (fun k:ah=>D.ac k) (fun s=>[B (.aP (cells.map .ac)),B (.bb 0),B s.p.d,B base.d,B p.d,B (.V s.T),s.cb,s.cg,ab,ab,ab]) (fun s=>.br [.ac (s.h:ah)]::s.t) (fun r s=>(r=vi s.k r.length∧s.h+5 *r.length≤h+21∧s.k+r.length≤4)∧z2 base p s.k s.T s.p s.L∧kR 4096 s.p) (fun s i=>?_) (fun a r s i P bI=>?_) (g0 n) ⟨0,[],p,[],h+1,t,ab,ab⟩ ⟨⟨by refine Y rN ?_;exact IV,by refine Y rN ?_;exact ao (eH (hR 5 (Al aA)) (h+1)) (aoD h),Y rN (ao (eT (iP n)) (Al aA))⟩,aok,P⟩
 ·exact k s.k s.T s.p s.L s.h s.t s.cb s.cg i.1.2.2 i.1.2.1 i.2
 ·have e:=xA i.1.1
  have ay:=i.1.2.1
  rw[iO,tu] at ay
  have oQ:s.h≤830:=ao (ao (ed _ 5) (ao (eH (kt ..) _) ay:s.h+5≤h+21)) (ao (dR bU 21) (ai rfl))
  o_norm
  refine hc (a8 _) (aof (l:=l+1) (ao oQ (ai rfl)) cL i.2.2 bQ fun w d5 j ex da ZF aoF=>?_)
  refine cf (a:=[.V w,d5.d]) rfl ?_
  refine ak rfl ?_
  o_norm
  refine He ?_
  have go:∀c3 y7,c3=44∨c3=32→y7≤5→P [B (.aP (cells.map .ac)),B (.bb 0),B d5.d,B base.d,B p.d,B (.V (s.T++Pe s.k c3++w)),B (.ac a),B (.V w),ab,ab,ab] (.br [.ac (s.h+y7:ah)]::(s.t++ex)):=fun c3 y7 aG aoG=>by
   exact ZF.elim fun q z=>bI ⟨s.k+1,_,d5,_,s.h+y7,s.t++ex,B (.ac a),B (.V w)⟩ ⟨⟨e.2,ao (by rw[gd,fQ (5 *r.length)];exact eH (dR aoG _) _) ay,by rw[gd,fQ 1];exact i.1.2.2⟩,aol i.2.1 z.1 z.2 aG,aoF⟩
  refine ZF.elim fun q z=>?_
  have Tl:s.T.length≤100:=ao i.2.1.bJ (hR 25 (ao (ed _ _) i.1.2.2))
  have Pk:=z.1.bJ
  rw[←e.1] at go
  induction a with
  |zero=>
   refine cW rfl ?_
   exact ak (ao Tl (ai rfl)) (ak (ao (eZ (ao (eT (cG ..)) Tl) Pk) (ai rfl)) (go 44 j (.inl rfl) (mH da)))
  |succ a=>
   refine cI (eO (h7.mpr (tt a))) ?_
   refine ak (ai rfl) ?_
   refine hc (a8 _) (jU (l:=l+3) (n:=2) (ao (eZ oQ da) (ai rfl)) rfl cL fun d hd=>?_)
   have ZG:∀c:am,(s.T++[c]).length≤101:=fun c=>by refine Y cG ?_;exact d8 Tl
   induction d with
   |zero=>exact f9 (i:=0) rfl (ai rfl) (ak (ao (d8 Tl) (ai rfl)) (ak (ao (eZ (ZG 44) Pk) (ai rfl)) (go 44 (j+1) (.inl rfl) (d8 da))))
   |succ d=>induction d with
    |zero=>exact f9 (i:=1) rfl (ai rfl) (ak (ao (d8 Tl) (ai rfl)) (ak (ao (eZ (ZG 32) Pk) (ai rfl)) (go 32 (j+1) (.inr rfl) (d8 da))))
    |succ d=>exact cr hd (mI.mpr (kt 2 d))
end
section
variable {call:ah→ah→J D→J ap→a0→(J ap→Prop)→Prop}{T:J am}{L:J rJ}
theorem pc:hY (.ac x) (.ac x)=af:=show a9 (bf.ac x=bf.ac x)=af from eO rfl
theorem Pl (P:kR M p)(h:F ae):eg .NotEq p.d p.d hp F:=by
 induction P with|@mk f a b c ba eQ bc hf fB gL gM=>
 refine ak ?_ h
 show(hY (.ac f) (.ac f)&&(hY (.ac a) (.ac a)&&(hY (.ac b) (.ac b)&&(hY (.ac c) (.ac c)&&(hY (.ac 0) (.ac 0)&&af)))))=af
 refine Y pc (Y pc (Y pc (Y pc (Y pc ?_))));rfl
theorem ZH (di:∀x∈L,jV x.1 x.2)(e:fA T=L.map lr):rp T=.aP ((L.map i7).map sY):=by
 rw[rp,e,aom di];rfl
theorem ZI (e:fA T=L.map lr)(aw:T.length≤900):(L.map i7).length≤1000:=Y (cH ..) (cN (cH (f:=lr)) (cN e (ao (sP _ _).1 (ao (d8 ((cH ..).symm▸aw)) (ai rfl)))))
theorem ZJ (di:∀x∈L,jV x.1 x.2):∀x∈L.map i7,Hk x.1:=fun x m=>by
 exact(h9.mp m).elim fun y z=>z.2▸(di y z.1).ok
theorem ZK (di:∀x∈L,jV x.1 x.2)(e:fA T=L.map lr):∀w∈fA T,w≠[]→m8 w:=fun w m I=>by
 rw[e] at m
 exact(h9.mp m).elim fun y z=>cN z.2 ((di y z.1).G9)
theorem aoH (hc:∀{aU f ds hp K X},aU≤l+4→bx aU f ds hp K X→call aU f ds hp K X)(A:z2 base p n T d5 L)(aA:n≤4)(vI:kR M d5)
  (k:S ⟨l+4,call,b6,b5⟩ aM R k2 4 56 [D0,D1,B d5.d,B base.d,B p.d,B (.V T),cb,cg,ab,ab,ab] hp):
  S ⟨l+4,call,b6,b5⟩ aM R k2 3 57 [D0,D1,B d5.d,B base.d,B p.d,B (.V T),cb,cg,ab,ab,ab] hp:=by
 have Tl:T.length≤100:=ao A.bJ (hR 25 aA)
 refine a6 (k:=3) rfl ?_
 o_norm
 refine uH ?_
 refine eW (fun e=>?_) fun e=>?_
 ·refine ak (ai rfl) ?_
  refine hc (a8 _) (NW (l:=l+1) (p:=p) (base:=base) (q₀:=[]) rfl (ai rfl) (fun x m=>cr m mF) ?_)
  have o:=A.lL
  rw[(A.z.mpr (c9 e))] at o
  subst o
  exact Pl vI (cW rfl k)
 ·have st:=A.st (fun q=>jY.mp e (A.z.mp q):L≠[])
  exact hc (a8 _) (NT (l:=l) (ao Tl (ai rfl)) (ZK A.iM st) (Y (ZH A.iM st) (hc (a8 _) (NW (l:=l+1) (p:=p) (base:=base) (q₀:=L.map i7) rfl (ZI st (ao Tl (ai rfl))) (ZJ A.iM) (Y (show kO base (L.map i7) p=d5 from A.lL) (Pl vI (cW rfl k)))))))
theorem aoI (hc:∀{aU f ds hp K X},aU≤l+4→bx aU f ds hp K X→call aU f ds hp K X)(ur:u2 f=af)(fB:fD a ba)(gL:fD b eQ)(gM:fD c bc)(k:S ⟨l+4,call,b6,b5⟩ aM R k2 5 55 [D0,D1,D2,B (.aW [.ac f,.ac a,.ac b,.ac c,.ac 0]),D4,D5,cb,cg,ab,ab,ab] hp):
  S ⟨l+4,call,b6,b5⟩ aM R k2 4 56 [D0,D1,D2,B (.aW [.ac f,.ac a,.ac b,.ac c,.ac 0]),D4,D5,cb,cg,ab,ab,ab] hp:=by
 refine a6 (k:=4) rfl ?_
 o_norm
 exact hc (a8 _) (Xp (l:=l+1) fB.v gL.v gM.v ((aoC ur fB gL gM).elim fun L z=>hc (a8 _) (NT (l:=l) z.2.2.2 (ZK z.1 z.2.1) ((ZH z.1 z.2.1)▸(hc (a8 _) (NW (l:=l+1) (p:=mD) (base:=mD) (q₀:=L.map i7) rfl (ZI z.2.1 z.2.2.2) (ZJ z.1) (z.2.2.1▸(Pl (kR.mk (l3 (dg (ct.mp ur).1) (ai rfl):f < 4096) fB gL gM) (cW rfl k)))))))))
end
section
variable {K:a0}{cells:J aq}{call:ah→ah→J D→J ap→a0→(J ap→Prop)→Prop}
theorem aoJ:∀i,i < 8→(iq (m7 i)).eK=B (i:aq):=by decide+kernel
theorem aoK:∀n,n < 256→(iq ([99,111,108,111,117,114]++hh n)).eK=B (n:aq):=by decide+kernel
theorem Pm {d:D}(h:d.no=af):d=.aK:=by cases d<;>first|rfl|exact nb h
theorem Pn {α:Type}{F:D→J ap→a0→Prop}{aQ:J D→cD→J ap→Prop}(f g:α→D)(r:J α)(turn:∀a∈r,∀K:a0,K (g a) hp→F (f a) hp K):∀(acc:J D) (x:ax D),(∀x,aQ (acc++r.map g) [x] hp)→
  mh (fun d acc loc hp K=>bF (QG loc 0 (B d))[0]?.join fun CA=>F CA hp fun e hp=>K (acc++[e]) (QG loc 0 (B d)) hp) (r.map f) acc [x] hp aQ:=by
 induction r with
 |nil=>intro acc x h;have z:=h x;rw[Jd,en] at z;exact z
 |cons a r az=>
  intro acc x h
  exact turn a (.head _) _ (az (fun b m=>turn b (.tail _ m)) (acc++[g a]) (B (f a)) fun x=>Y (dE ..) (h x))
noncomputable def Dt:ax D:=B (.aP (mB.map .V))
theorem aoL:∀i,i < 8→(mB.map D.V)[i]?=B (.V (m7 i)):=fun i hi=>by
 rw[gP,m7,xr,hQ (show i < mB.length from hi)];rfl
theorem aoM:∀n,n < 256→([99,111,108,111,117,114]++hh n:J am).length≤18:=by decide+kernel
theorem aoN:∀n,n < 256→(hh n).length≤12:=by decide+kernel
theorem aoO (h:K x hp):hX ae o x hp K:=h
theorem aoP:∀b∈[[99,111,108,111,117,114,50,53,54],[114,101,100,100,105,115,104],[35,48,48,102,102,55]],(b:J am).length≤18:=by decide
theorem aoQ {α:Type}{P:α→Prop}{a b c d:α}(aY:P a)(bu:P b)(cu:P c)(fg:P d):∀x∈[a,b,c,d],P x:=fa.mpr ⟨aY,NV bu cu fg⟩
theorem aoR (hi:i < 8)(hx:x.length≤18)(m:b∈[m7 i,x,[100,101,102,97,117,108,116],[35,48,48,102,102,55,102]]):b.length≤18:=aoQ (P:=fun b=>b.length≤18) (ao (Hh i hi) (ai rfl)) hx (ai rfl) (ai rfl) b m
theorem aoS (hc:∀{aU f ds hp K X},aU≤l+4→bx aU f ds hp K X→call aU f ds hp K X)(bU:h≤880)(cL:cells.length≤100)
  (k:∀n,n < 256→S ⟨l+4,call,b6,b5⟩ aM R k2 7 53 [B (.aP (cells.map .ac)),B (.bb 0),D2,D3,D4,D5,cb,cg,B (.ac (n:ah)),Dt,ab] (.br [.ac (h+1:ah)]::t)):
  S ⟨l+4,call,b6,b5⟩ aM R k2 5 55 [B (.aP (cells.map .ac)),B (.bb 0),D2,D3,D4,D5,cb,cg,ab,ab,ab] (.br [.ac h]::t):=by
 refine a6 (k:=5) rfl ?_
 o_norm
 refine hc (a8 _) (jU (l:=l+3) (n:=256) (ao bU (ai rfl)) rfl cL fun n aA=>?_)
 refine a6 (k:=6) rfl ?_
 o_norm
 exact ak (ai rfl) (k n aA)
theorem aoT (hc:∀{aU f ds hp K X},aU≤l+4→bx aU f ds hp K X→call aU f ds hp K X)(aA:n < 256)
  (k:S ⟨l+4,call,b6,b5⟩ aM R k2 8 52 [D0,D1,D2,D3,D4,D5,cb,cg,B (.ac (n:ah)),Dt,B (.aP [.ac (n % 8:ah),.ac n,.ac (-1),.ac 16842623])] hp):
  S ⟨l+4,call,b6,b5⟩ aM R k2 7 53 [D0,D1,D2,D3,D4,D5,cb,cg,B (.ac (n:ah)),Dt,ab] hp:=by
 refine a6 (k:=7) rfl ?_
 o_norm
 refine cf (a:=.aP (mB.map .V)) rfl ?_
 have aN:(n:aq).fmod 8=((n % 8:ah):aq):=zn (k:=8)
 refine ak (by decide) ?_
 refine Y aN ?_
 have Po:n % 8 < 8:=jW _ (ai rfl)
 refine f9 (i:=n % 8) (a:=.V (m7 (n % 8))) (aoL _ Po) (ai rfl) ?_
 refine hc (a8 _) (HB (l:=l+3) aA ?_)
 refine ak (ao (eH (aoN n aA) 6) (ai rfl)) ?_
 refine ak (ai rfl) ?_
 refine ak (ai rfl) ?_
 refine Pn (F:=fun d hp K=>call (l+4) 28 [d] hp K fun I=>bt) D.V iq [m7 (n % 8),[99,111,108,111,117,114]++hh n,[100,101,102,97,117,108,116],[35,48,48,102,102,55,102]] (fun b m K k=>hc (a8 _) (CI (l:=l+2) ?_ k)) [] ab fun x=>?_
 ·revert m b;exact fun b m I=>aoR Po (aoM n aA:([99,111,108,111,117,114]++hh n:J am).length≤18) m
 ·show S _ aM R k2 8 52 [_,_,_,_,_,_,_,_,_,_,B (.aP [iq (m7 (n % 8)),iq ([99,111,108,111,117,114]++hh n),iq [100,101,102,97,117,108,116],iq [35,48,48,102,102,55,102]])] hp
  exact Y (zT (aoJ _ Po)) (Y (zT (aoK n aA)) (Y (zT (d:=iq [100,101,102,97,117,108,116]) (i:= -1) (by decide+kernel)) (Y (zT (d:=iq [35,48,48,102,102,55,102]) (i:=16842623) (by decide+kernel)) k)))
theorem aoU (hc:∀{aU f ds hp K X},aU≤l+4→bx aU f ds hp K X→call aU f ds hp K X)
  (k:S ⟨l+4,call,b6,b5⟩ aM R k2 9 51 [D0,D1,D2,D3,D4,D5,cb,cg,B (.ac (n:ah)),Dt,B (.aP [.ac (n % 8:ah),.ac n,.ac (-1),.ac 16842623])] hp):
  S ⟨l+4,call,b6,b5⟩ aM R k2 8 52 [D0,D1,D2,D3,D4,D5,cb,cg,B (.ac (n:ah)),Dt,B (.aP [.ac (n % 8:ah),.ac n,.ac (-1),.ac 16842623])] hp:=by
 refine a6 (k:=8) rfl ?_
 o_norm
 have aN:(n:aq).fmod 8=((n % 8:ah):aq):=zn (k:=8)
 refine ak (by decide) ?_
 refine Y aN ?_
 refine fX ?_
 refine cf (a:=.ac 16777216) rfl ?_
 refine nq ?_
 refine ak (ai rfl) ?_
 refine H6 ?_ ?_
 ·show(hY (.ac (n % 8:ah)) (.ac (n % 8:ah))&&(hY (.ac n) (.ac n)&&(hY (.ac (-1)) (.ac (-1))&&(hY (.ac 16842623) (.ac 16842623)&&af))))=af
  rw[pc,pc,pc,pc];rfl
 exact cI rfl (cf (a:=mD.d) rfl (hc (a8 _) (Xp (l:=l+1) (f:=0) .no .no .no (rq (Y (show(zp (zq 0 (-1) (-1) (-1) [100,101,102,97,117,108,116] [100,101,102,97,117,108,116] [100,101,102,97,117,108,116]) !=[100,101,102,97,117,108,116])=ae by decide+kernel) (cI rfl k))))))
theorem aoV (hc:∀{aU f ds hp K X},aU≤l+4→bx aU f ds hp K X→call aU f ds hp K X)(k:S ⟨l+4,call,b6,b5⟩ aM R k2 10 50 [D0,D1,D2,D3,D4,D5,cb,cg,D8,D9,D10] hp):
  S ⟨l+4,call,b6,b5⟩ aM R k2 9 51 [D0,D1,D2,D3,D4,D5,cb,cg,D8,D9,D10] hp:=by
 refine a6 (k:=9) rfl ?_
 o_norm
 refine ak (ai rfl) ?_
 refine ak (ai rfl) ?_
 refine Pn (F:=fun d hp K=>call (l+4) 28 [d] hp K fun I=>bt) D.V iq [[99,111,108,111,117,114,50,53,54],[114,101,100,100,105,115,104],[35,48,48,102,102,55]] (fun b m K k=>hc (a8 _) (CI (l:=l+2) ?_ k)) [] ab fun x=>?_
 ·revert m b;exact fun b m I=>aoP b m
 refine ak (ai rfl) ?_
 refine ak ⟨by decide,by decide,ai rfl⟩ ?_
 refine H6 ?_ (cW rfl k)
 refine Y (Pm (d:=iq [99,111,108,111,117,114,50,53,54]) (by decide+kernel)) (Y (Pm (d:=iq [114,101,100,100,105,115,104]) (by decide+kernel)) (Y (Pm (d:=iq [35,48,48,102,102,55]) (by decide+kernel)) ?_))
 rfl
theorem aoW (hc:∀{aU f ds hp K X},aU≤l+4→bx aU f ds hp K X→call aU f ds hp K X)(fB:fD a ba)(gL:fD b eQ)(gM:fD c bc)(k:R (.be af) hp):
  S ⟨l+4,call,b6,b5⟩ aM R k2 10 50 [D0,D1,D2,B (.aW [.ac f,.ac a,.ac b,.ac c,.ac 0]),D4,D5,cb,cg,D8,D9,D10] hp:=by
 refine a6 (k:=10) rfl ?_
 o_norm
 refine ak (ai rfl) ?_
 refine ak (ai rfl) ?_
 refine Pn (F:=fun d hp K=>call (l+4) 29 [d] hp (fun d hp=>call (l+4) 28 [d] hp K fun I=>bt) fun I=>bt) (fun x:aq×J am=>.ac x.1) (fun x=>.ac x.1) [(a,ba),(b,eQ),(c,bc)] (fun x m K k=>?_) [] ab fun x=>?_
 ·have cX:fD x.1 x.2:=NV (P:=fun x:aq×J am=>fD x.1 x.2) fB gL gM x m
  exact hc (a8 _) (NX (l:=l+2) cX.v (hc (a8 _) (CI (l:=l+2) (ao (Zy cX) (ai rfl)) (Y (Zm cX) k))))
 refine ak (ai rfl) ?_
 refine ak (ai rfl) ?_
 refine aoO ?_
 refine Ze (F:=fun v=>R (.be v) hp) ?_ k
 show(hY (.ac a) (.ac a)&&(hY (.ac b) (.ac b)&&(hY (.ac c) (.ac c)&&af)))=af
 refine Y pc (Y pc (Y pc ?_));rfl
end
section
variable {l h:ah}{K:a0}{cells:J aq}
theorem aoX (bU:h≤780)(cL:cells.length≤100)(k:∀hp,K (.be af) hp):bx (l+5) 57 [.aP (cells.map .ac),.bb 0] (.br [.ac h]::t) K X:=
 cZ rfl (full:=[.aP (cells.map .ac),.bb 0]) rfl (loc:=[B (.aP (cells.map .ac)),B (.bb 0),ab,ab,ab,ab,ab,ab,ab,ab,ab]) rfl fun call R aM hc r y=>by
  refine a6 rfl ?_
  o_norm
  refine hc (a8 _) (Zl (l:=l+1) (ao bU (ai rfl)) cL fun f a b c ba eQ bc ur fB gL gM=>?_)
  refine hc (a8 _) (Zl (l:=l+1) (ao (dR bU 8) (ai rfl)) cL fun ZL hA yC dh aq2 aq3 aq4 ZM Pp Pq Pr=>?_)
  refine ak (ai rfl) (ak rfl ?_)
  refine a6 (k:=1) rfl ?_
  o_norm
  refine ak (ai rfl) (ak rfl ?_)
  have f4:∀f:ah,u2 f=af→f < 4096:=fun f ur=>l3 (dg (ct.mp ur).1) (ai rfl)
  exact aoE (l:=l) (p:=⟨f,.ac a,.ac b,.ac c,.ac 0⟩) (base:=⟨ZL,.ac hA,.ac yC,.ac dh,.ac 0⟩) hc (ao (dR bU 16) (ai rfl)) cL (kR.mk (M:=4096) (f4 f ur) fB gL gM) (kR.mk (M:=4096) (f4 ZL ZM) Pp Pq Pr) fun n T d5 L aj t' cb cg aA ay A=>aoH hc A.1 aA A.2 (aoI hc ZM Pp Pq Pr (aoS hc (ao ay (ao (dR bU 37) (ai rfl))) cL fun n aA=>aoT hc aA (aoU hc (aoV hc (aoW hc Pp Pq Pr (r (.inl (k _))))))))
end
section
variable {K:a0}{call:ah→ah→J D→J ap→a0→(J ap→Prop)→Prop}
theorem aoY:∀x∈my,eL x.1=B x.2:=
 fa.mpr ⟨rfl,fa.mpr ⟨rfl,fa.mpr ⟨rfl,fa.mpr ⟨rfl,fa.mpr ⟨rfl,fa.mpr ⟨rfl,fa.mpr ⟨rfl,fa.mpr ⟨rfl,fa.mpr ⟨rfl,fun x m=>cr m mF⟩⟩⟩⟩⟩⟩⟩⟩⟩
noncomputable def Ps (x:J am×d4):D:=.aW [.V x.1,x.2.d]
theorem Ig (m:x∈my)(h:K (C0 x.2) hp):g9 hp K (.a5 ll) (.V x.1):=
 cf (a:=C0 x.2) (zC.trans (by refine(aoY x m)▸?_;rfl)) h
theorem Ih {i:ah}(e:[D.aF k.bk.s,zg k.e3,k.km,k.hz][i]?=B a)(h:K a hp):g9 hp K (C0 k) (.ac i):=
 ak ⟨gY i,ai rfl⟩ (cf e h)
theorem aoZ (e:m5 4 [.aW []] ds=B full)(h:K (.cO 0 full) hp):b6 lv 0 ds hp K X:=cf e h
theorem ZN (e:m5 3 [.aK] ds=B full)(h:K (.cO 1 (full++[.bb hp.length])) (hp++[.bv []])):b6 lv 1 ds hp K X:=cf e h
theorem ao0:jk [] eB=eB:=rfl
theorem ao1 (h:K (.a5 eB) hp):j5 ae .bv [.aP (my.map Ps)] hp K:=
 show bF (B (my.map Ps)) fun l=>bF (dF vP l) fun aI=>aI.length≤1000∧K (.a5 (jk [] aI)) hp from cf rfl (cf (a:=eB) rfl (ak (ai rfl) (ao0.symm▸h)))
theorem ao2 {lo hi:ax aq}:c1 (s.map D.ac) lo hi=(c1 s lo hi).map D.ac:=by
 rw[c1,c1,cH,←List.map_take,←List.map_drop]
theorem ao3 {lo hi:ax aq}:(c1 s lo hi).length≤s.length:=by
 rw[c1,xv,vg];exact ao (xF ..) (Jq ..)
theorem ao4 {s:J aq}(aG:s.length≤63)(k:∀cells:J aq,cells.length≤100→S ⟨l,call,b6,b5⟩ aM R pQ 1 59 [B (.aP (s.map .ac)),B (.aP (cells.map .ac)),B (.bb 0),ab,ab,ab,ab,ab,ab] [.br [.ac 0]]):
  S ⟨l,call,b6,b5⟩ aM R pQ 0 60 [B (.aP (s.map .ac)),ab,ab,ab,ab,ab,ab,ab,ab] []:=by
 refine a6 (k:=0) rfl ?_
 o_norm
 refine ak (ao (eT (cH ..)) (ao aG (ai rfl))) ?_
 have cl:(c1 s ab (B 48)).length≤100:=ao ao3 (ao aG (ai rfl))
 refine Y ao2 ?_
 revert cl
 generalize c1 s ab (B 48)=q
 intro cl
 refine ak (ao (eT (cH ..)) (ao cl (ai rfl))) ?_
 refine lf (σ:=J aq×ax D) D.ac (fun s=>s.1.map D.ac) (fun s=>[s.2]) (fun I=>[]) (fun r s=>s.1.length+r.length≤100) (fun s i=>?_) (fun x r s i P bI=>?_) q ([],ab) (ao (eT (iP _)) cl)
 ·exact ak (ai rfl) (ak (ai rfl) (ak rfl (k s.1 i)))
 ·have bI:=bI (s.1++[x.fmod (10 ^ 9)],B (.ac x)) (Y (cG ..) (Y (gd ..) (Y (fQ 1 r.length) i)))
  rw[eS] at bI
  o_norm
  exact ak ⟨by decide,by decide,by decide⟩ (ak (by decide) bI)
theorem ao5 (k:S ⟨l,call,b6,b5⟩ aM R pQ 3 57 [D0,D1,D2,B (.a5 ll),B (.a5 eB),ab,ab,ab,ab] hp):
  S ⟨l,call,b6,b5⟩ aM R pQ 2 58 [D0,D1,D2,B (.a5 ll),ab,ab,ab,ab,ab] hp:=by
 refine a6 (k:=2) rfl ?_
 o_norm
 refine ak (ai rfl) ?_
 refine lf (σ:=J (J am×d4)×ax D) (fun x:J am×d4=>D.V x.1) (fun s=>s.1.map Ps) (fun s=>[s.2,B (.a5 ll)]) (fun I=>hp) (fun r s=>s.1++r=my) (fun s i=>?_) (fun x r s i P bI=>?_) my ([],ab) rfl
 ·rw[en] at i
  exact Y i (ao1 k)
 ·have m:x∈my:=i▸ho _ (.head _)
  have bI:=bI (s.1++[x],B (.V x.1)) (Y (dE ..) i)
  rw[eS] at bI
  o_norm
  exact Ig m (Ih (i:=0) rfl (Ig m (Ih (i:=1) rfl (Ig m (Ih (i:=2) rfl (Ig m (Ih (i:=3) rfl (aoZ (full:=[.aF x.2.bk.s,zg x.2.e3,x.2.km,x.2.hz]) rfl (ak (ai rfl) bI)))))))))
end
section
variable {K:a0}{cells:J aq}{call:ah→ah→J D→J ap→a0→(J ap→Prop)→Prop}
theorem ao6 (hc:∀{aU f ds hp K X},aU≤l+9→bx aU f ds hp K X→call aU f ds hp K X)(cL:cells.length≤100)
  (k:∀s,S ⟨l+9,call,b6,b5⟩ aM R pQ 6 54 [D0,B (.aP (cells.map .ac)),B (.bb 0),D3,B (.a5 eB),B (.aF s.s),B n9,B (dY s),ab] (hD 1 [] [])):
  S ⟨l+9,call,b6,b5⟩ aM R pQ 3 57 [D0,B (.aP (cells.map .ac)),B (.bb 0),D3,B (.a5 eB),ab,ab,ab,ab] [.br [.ac 0]]:=by
 refine a6 (k:=3) rfl ?_
 o_norm
 refine ak (ai rfl) ?_
 refine hc (a8 _) (jU (l:=l+8) (h:=0) (n:=2) (ai rfl) rfl cL fun d hd=>?_)
 have go:∀s:Sc,S ⟨l+9,call,b6,b5⟩ aM R pQ 4 56 [D0,B (.aP (cells.map .ac)),B (.bb 0),D3,B (.a5 eB),B (.aF s.s),ab,ab,ab] [.br [.ac (0+1:ah)]]:=fun s=>by
  refine a6 (k:=4) rfl ?_
  o_norm
  refine ZN (full:=[.a5 eB,.aF Sc.dH.s,.aK]) rfl ?_
  refine a6 (k:=5) rfl ?_
  o_norm
  exact hc (a8 _) (X3 (ZN (full:=[.a5 eB,.aF s.s,n9]) rfl (ak (ai rfl) (cf (a:=[]) rfl (ak (ai rfl) (cf (a:=[]) rfl (ak (ai rfl) (ak (ai rfl) (cf (a:=zB s) rfl (ak (ai rfl) (k s)))))))))))
 induction d with
 |zero=>exact f9 (i:=0) rfl (ai rfl) (go .iD)
 |succ d=>induction d with
  |zero=>exact f9 (i:=1) rfl (ai rfl) (go .dH)
  |succ d=>exact cr hd (mI.mpr (kt 2 d))
theorem ao7 (hc:∀{aU f ds hp K X},aU≤l+9→bx aU f ds hp K X→call aU f ds hp K X)(cL:cells.length≤100)(k:∀t h L0 L1 hn,t≤6→h≤100→cU .dH t L0→cU s t L1→S ⟨l+9,call,b6,b5⟩ aM R pQ 7 53 [D0,B (.aP (cells.map .ac)),B (.bb 0),D3,B (.a5 eB),B (.aF s.s),B n9,B (dY s),hn] (hD h L0 L1)):
  S ⟨l+9,call,b6,b5⟩ aM R pQ 6 54 [D0,B (.aP (cells.map .ac)),B (.bb 0),D3,B (.a5 eB),B (.aF s.s),B n9,B (dY s),ab] (hD 1 [] []):=by
 refine a6 (k:=6) rfl ?_
 o_norm
 refine hc (a8 _) (jU (l:=l+8) (h:=1) (n:=7) (ai rfl) rfl cL fun n aA=>?_)
 refine ak ⟨gY n,xq.mpr (ao (ir aA) (ai rfl))⟩ ?_
 refine lb (σ:=(ah×ah)×(cn×cn)×ax D) (fun k:ah=>D.ac k) (fun q=>[D0,B (.aP (cells.map .ac)),B (.bb 0),D3,B (.a5 eB),B (.aF s.s),B n9,B (dY s),q.2.2]) (fun q=>hD q.1.2 q.2.1.1 q.2.1.2) (fun r q=>(q.1.1+r.length≤6∧q.1.2+6 *r.length≤100)∧cU .dH q.1.1 q.2.1.1∧cU s q.1.1 q.2.1.2) (fun q i=>?_) (fun a r q i P bI=>?_) (g0 n) ((0,2),([],[]),ab) ⟨⟨by rw[rN];exact ao (eT (iP n)) (Al aA),by rw[rN];exact ao (eH (hR 6 (Al aA)) 2) (ai rfl)⟩,?_,?_⟩
 ·exact k q.1.1 q.1.2 q.2.1.1 q.2.1.2 q.2.2 (ao (ed ..) i.1.1) (ao (ed ..) i.1.2) i.2.1 i.2.2
 ·o_norm
  exact hc (a8 _) (amz (l:=l) i.2.1 i.2.2 (ao (ao (ed ..) i.1.1) (ai rfl):q.1.1≤9) (ao (ao (ed ..) i.1.2) (ai rfl):q.1.2≤890) cL fun ko kp ao8 g1=>fu (cW rfl (bI ((q.1.1+1,q.1.2+6),(ko,kp),B (.ac a)) ⟨⟨by rw[gd,fQ 1];exact i.1.1,by rw[gd,fQ 6];exact i.1.2⟩,ao8,g1⟩)))
 ·exact⟨Ek,fun p m=>cr m mF,ai rfl⟩
 ·exact⟨Ek,fun p m=>cr m mF,ai rfl⟩
theorem ao9 (hc:∀{aU f ds hp K X},aU≤l+9→bx aU f ds hp K X→call aU f ds hp K X)(cL:cells.length≤100)(bE:t≤6)(bU:h≤100)(c8:cU .dH t L0)(dm:cU s t L1)(k:∀hp,R (.be af) hp):
  S ⟨l+9,call,b6,b5⟩ aM R pQ 7 53 [D0,B (.aP (cells.map .ac)),B (.bb 0),D3,B (.a5 eB),B (.aF s.s),B n9,B (dY s),hn] (hD h L0 L1):=by
 refine a6 (k:=7) rfl ?_
 o_norm
 exact hc (a8 _) (anE (l:=l+1) (⟨rfl,rfl,rfl,rfl⟩:hm (hD h L0 L1) L0 L1) c8 dm (ao bE (ai rfl)) (fu (cI rfl (hc (a8 _) (aoX (l:=l+4) (ao bU (ai rfl)) cL k)))))
theorem apa {s:J aq}(aG:s.length≤63)(k:∀hp,K (.be af) hp):bx (l+10) 58 [.aP (s.map .ac)] [] K X:=
 cZ rfl (full:=[.aP (s.map .ac)]) rfl (loc:=[B (.aP (s.map .ac)),ab,ab,ab,ab,ab,ab,ab,ab]) rfl fun call R aM hc r y=>by
  refine ao4 aG fun cells cL=>?_
  refine a6 (k:=1) rfl ?_
  o_norm
  exact hc (a8 _) (X3 (l:=l+8) (ao5 (ao6 hc cL fun s=>ao7 hc cL fun t h L0 L1 hn bE bU c8 dm=>ao9 hc cL bE bU c8 dm fun hp=>r (.inl (k hp)))))
end
noncomputable def Ii (st:ow→xW→ax (ow×xW))(xd:ah)(ann:ax au):ah→ow→xW→ax ow
 |0,_,_=>ab
 |n+1,s,t=>match through t with
  |true=>B s
  |false=>match stepOk xd ann t with
   |false=>ab
   |true=>match st s t with
    |some (ar,t')=>Ii st xd ann n ar t'
    |none=>ab
theorem ZO:∀{n:ah} {s r:ow} {t:xW},Ii (AM (rY xe) p w) xd ann n s t=B r→topRun xe p w xd ann n s.abs t=B r.abs
 |0,_,_,_,h=>nn h
 |n+1,s,r,t,h=>by
  have h:(match through t with|true=>B s|false=>match stepOk xd ann t with|false=>ab|true=>match AM (rY xe) p w s t with|some (ar,t')=>Ii (AM (rY xe) p w) xd ann n ar t'|none=>ab)=B r:=h
  unfold topRun
  cases bE:through t with
  |true=>have h:=bE▸h;have h2:=bo h;subst h2;rfl
  |false=>
   have h:=bE▸h
   cases hk:stepOk xd ann t with
   |false=>have h:=hk▸h;exact nn h
   |true=>
    have h:=hk▸h
    cases aG:AM (rY xe) p w s t with
    |none=>have h:=aG▸h;exact nn h
    |some x=>obtain⟨c6,aq5⟩:=x;have h:=aG▸h;exact Y (stepT_spec aG) (ZO h)
noncomputable def Ij:J ee→BT→ah→ax (BT×ah)
 | [],t,n=>B (t,n)
 |o::l,t,n=>match((t.ins n o).get n).isSome with
  |true=>Ij l (t.ins n o) (n+1)
  |false=>ab
theorem ZP:∀{l:J ee} {t t':BT} {n gm:ah},Ij l t n=B (t',gm)→(AK t' gm life).objs.toList=(AK t n life).objs.toList++l
 | [],t,t',n,gm,h=>by have h2:=Aq (bo h);have Of:=h2.1;have wq:=h2.2;subst Of;subst wq;exact Y (en ..) rfl
 |o::l,t,t',n,gm,h=>by
  have h:(match((t.ins n o).get n).isSome with|true=>Ij l (t.ins n o) (n+1)|false=>ab)=B (t',gm):=h
  cases e:((t.ins n o).get n).isSome with
  |false=>rw[e] at h;exact nn h
  |true=>
   rw[e] at h
   refine Y (ZP h) (Y (absHeap_ins e) ?_)
   show((AK t n life).objs.push o).toList++l=_
   refine Y (IB ..) (Y (dE ..) ?_);rfl
noncomputable def ZQ (s:a3):ax ow:=(Ij s.heap.objs.toList .nil 0).map fun x=>⟨x.1,x.2,s.heap.life,s.gens,s.drawn,s.toks,s.os⟩
theorem apb (h:ZQ s=B t):t.abs=s:=by
 obtain⟨⟨T,n⟩,e,rfl⟩:=iu.mp h
 have z:=ZP (life:=s.heap.life) e
 obtain⟨⟨objs,life⟩,g,d,k,os⟩:=s
 have:(AK T n life)=⟨objs,life⟩:=by
  exact bl (fun x=>Heap.mk x life) (PV.mp z)
 exact this.symm▸rfl
noncomputable def Pt (st:ow→xW→ax (ow×xW))(imp:ax a3)(p:mM)(de:ah):ax ow:=
 (imp.bind (fenceModules? p)).bind fun iN=>(ZQ iN).bind fun t₀=>bD (iN.heap.isNs i8&&iN.gens.size==0)
  ((Ii st iN.heap.objs.size (iN.heap.nsMap i8 "__annotations__") de t₀ (topStub p)).bind fun qp=>
   bD (staticsOk (JF p.main.body) iN.heap qp.abs.heap&&namesBound p qp.abs.heap&&gensDone qp.abs&&laidKept iN.heap qp.abs.heap) (B qp) ab) ab
theorem ZR {α:Type}{o:ax α}{x:α}(h:bD b o ab=B x):b=af∧o=B x:=by
 cases b with
 |true=>exact⟨rfl,h⟩
 |false=>exact nn h
theorem apc (h:Pt (AM (rY xe) p w) (importEnds xe (x4 p) w de (start (x4 p)).1 (start (x4 p)).2) p de=B t):openEnds xe p w de=B t.abs:=by
 unfold Pt at h
 obtain⟨iN,rh,h⟩:=i6.mp h
 obtain⟨t₀,aT,h⟩:=i6.mp h
 have h:=ZR h
 have aN:=h.1
 obtain⟨qp,dK,h⟩:=i6.mp h.2
 have h:=ZR h
 have fN:=h.1
 have p5:=bo h.2
 clear h
 subst p5
 have e:=ZO dK
 rw[apb aT] at e
 unfold openEnds fencedOpening topFrom
 refine Y rh ?_
 show(match iN.heap.isNs i8&&iN.gens.size==0 with|true=>_|false=>ab)=_
 refine Y aN ?_
 dsimp only
 refine Y e ?_
 show(match staticsOk (JF p.main.body) iN.heap qp.abs.heap&&namesBound p qp.abs.heap&&gensDone qp.abs&&laidKept iN.heap qp.abs.heap with|true=>B qp.abs|false=>ab)=_
 exact Y fN rfl
noncomputable def Pu (t:ow)(a:aC):ax ee:=match Jt a t.n with
 |true=>(match t.tree.get a with|some o=>alive o|none=>alive tj)
 |false=>ab
theorem apd (t:ow):t.abs.heap.get?=Pu t:=by
 funext a
 unfold Pu
 cases e:Jt a t.n with
 |false=>exact abs_get_none fun q=>by rw[show Jt a t.n=af from Nat.ble_eq_true_of_le q] at e;exact iV e
 |true=>
  have lt:a < t.n:=Ep e
  cases g:t.tree.get a with
  |some o=>exact abs_get lt g
  |none=>
   show(AK t.tree t.n t.life).get? a=_
   unfold Heap.get?
   refine Y (absHeap_at ..) (Y (b3 lt) (Y g ?_))
   rfl
theorem ZS {aI:J aO}(bY:aI.Nodup):∀{vs:J au} {n:aO} {i:ah} {v:au},aI[i]?=B n→vs[i]?=B v→(aI.zip vs).lookup n=B v:=by
 induction aI with
 |nil=>exact fun e I=>nn e
 |cons a aI az=>
  intro vs n i v aT aN
  induction vs with
  |nil=>exact nn aN
  |cons u vs=>
   induction i with
   |zero=>have h2:=bo aT;subst h2;have h2:=bo aN;subst h2;exact Y Ec (Y IU rfl)
   |succ i=>
    have ne:n≠a:=fun q=>(mG.mp bY).1 (q▸gZ aT)
    exact Y Ec (Y qv (Y (jY.mpr ne) (az (mG.mp bY).2 aT aN)))
theorem ape {aI:J aO}(bY:aI.Nodup){vs:J au}(aw:vs.length=aI.length):aI.filterMap (fun n=>((aI.zip vs).lookup n).map (n,·))=aI.zip vs:=by
 have go:∀(qs:J aO) (us:J au),us.length=qs.length→(∀(i:ah) (n:aO) (v:au),qs[i]?=B n→us[i]?=B v→(aI.zip vs).lookup n=B v)→qs.filterMap (fun n=>((aI.zip vs).lookup n).map (n,·))=qs.zip us:=fun qs=>by
  induction qs with
  |nil=>exact fun I I I=>rfl
  |cons q qs az=>
   intro us bP h
   induction us with
   |nil=>exact nomatch bP
   |cons u us=>
    exact Y vd (Y (h 0 q u rfl rfl) (bl ((q,u)::·) (az us (qx bP) fun i n v a b=>h (i+1) n v a b)))
 exact go aI vs aw fun i n v a b=>ZS bY a b
theorem apf {aI:J aO}(bY:aI.Nodup){vs:J au}(e:aI[i]?=B n)(aw:i < vs.length):(((aI.zip vs).lookup n).isNone)=ae:=by
 rw[ZS bY e (hQ aw)];rfl
theorem apg {aI:J aO}(m:n∉aI):∀{vs:J au},(aI.zip vs).lookup n=ab:=by
 induction aI with
 |nil=>exact rfl
 |cons a aI az=>
  intro vs
  induction vs with
  |nil=>rfl
  |cons u vs=>exact Y Ec (Y qv (Y (jY.mpr fun q:n=a=>m (q▸.head _)) (az fun q=>m (.tail _ q))))
structure u7 (fd:i9)(aI:J aO):Prop where
 po:fd.params.posonlyargs=[]
 dd:fd.params.args.map (·.arg)=aI
 oe:fd.params.kwonlyargs=[]
 fB:fd.params.vararg=ab
 j4:fd.params.kwarg=ab
theorem ZT [Decidable c](h:¬ c)(k:bM M A b Q E s):bM M A (if c then a else b) Q E s:=(bL h:(if c then a else b)=b).symm▸k
theorem aph {aI qs:J aO}{us:J (aO×au)}(h:∀n∈qs,(us.lookup n).isNone=ae)(e:aI=qs):¬ (!(aI.filter fun n=>(us.lookup n).isNone).isEmpty)=af:=by
 refine Y e (Y (List.filter_eq_nil_iff.mpr fun n m=>by refine Y (h n m) ?_;exact xn) ?_);exact xn
theorem Ik {aI:J aO}(bY:aI.Nodup){vs:J au}(aw:aI.length≤vs.length)(n:aO)(m:n∈aI):((aI.zip vs).lookup n).isNone=ae:=(Qc.mp m).elim fun i e=>apf bY e (ts (gc.mp e).1 aw)
theorem api {us:J au}{o:ax Arg}(e:qs=aI)(h:us.length≤aI.length):¬ (a9 (us.length > (([]:J aO)++qs).length)&&o.isNone)=af:=fun z=>
 mI.mpr h (e▸dg (ct.mp z).1)
theorem apj (e:t=t')(k:bM M A t' Q E s):bM M A t Q E s:=e▸k
noncomputable def z3 (x:aO×au)(z:J (aO×au)):dM (ForInStep (J (aO×au))):=if(z.lookup x.1).isNone=af then bV (.yield (z++[(x.1,x.2)]))else bV (.yield z)
theorem ZU {its:J au}(h:its.length≤n):its.drop (its.length - n)=its:=by refine(Jk h)▸?_;rfl
theorem Pw (P:u7 fd aI)(bY:aI.Nodup)(aG:∀{M:vv} {A:dc} {Q:ax (dn au)→a3→Prop} {E:au→a3→Prop},Q r s→bM M A (seqItems? fd.defaults) Q E s)(aL:(r.getD #[]).toList=its)(hi:its.length≤aI.length)(aY:vs.length≤aI.length)(bu:∀n∈aI.take (aI.length - its.length),((aI.zip vs).lookup n).isNone=ae)(hf:ti ((aI.drop (aI.length - its.length)).zip its) (aI.zip vs) z3=bV (aI.zip us))(bP:us.length=aI.length):qB s fd ⟨vs,[]⟩ (aI.zip us):=by
 intro M A E Q q
 subst aL
 have lC:Q ((aI++[]).filterMap fun n=>((aI.zip us).lookup n).map (n,·)) s:=by rw[en,ape bY bP];exact q
 obtain⟨nm,qn,⟨po,dd,fB,oe,kd,j4,apk⟩,b,sc,gl,cl,fU,qq⟩:=fd
 cases P.po;cases P.oe;cases P.fB;cases P.j4;cases P.dd
 refine aX (m:=ti [] _ _) (cq (aX (aG ?_)))
 refine ZT (api rfl aY) (ZT (aph bu ?_) (aX (apj (t':=bV ((dd.map (·.arg)).zip us)) ?_ (cq (aX (cq (cq ?_)))))))
 ·exact bl (fun l:J au=>vj ((dd.map (·.arg)).length - l.length) (dd.map (·.arg))) (ZU hi)
 ·exact(bl (fun l:J au=>ti (List.zip (QD ((dd.map (·.arg)).length - l.length) (dd.map (·.arg))) l) ((dd.map (·.arg)).zip vs) z3) (ZU hi)).trans hf
 ·exact lC
theorem apl (P:u7 fd aI)(bY:aI.Nodup)(hd:fd.defaults=.none)(aw:vs.length=aI.length):qB s fd ⟨vs,[]⟩ (aI.zip vs):=
 Pw (r:=ab) (its:=[]) P bY (fun q=>hd.symm▸cq q) rfl (jD _) (eT aw) (fun n m=>Ik bY (eT aw.symm) n (DZ m)) (by refine Y List.zip_nil_right ?_;rfl) aw
theorem apm {T:aC}(P:u7 fd (qs++[x]))(bY:(qs++[x]).Nodup)(hd:fd.defaults=.ref T)(bC:s.heap.get? T=B o)(aG:o.data=.seq #[d] k)(h:vs.length=qs.length):
  qB s fd ⟨vs,[]⟩ ((qs++[x]).zip (vs++[d])):=by
 have cv:x∉qs:=(Ae.mp bY).2.2 |> fun h m=>h x m x (.head _) rfl
 have dq:(qs++[x]).length=qs.length+1:=cG
 have rh:(qs++[x]).zip vs=qs.zip vs:=by
  have:(qs++[x]).zip (vs++[])=qs.zip vs++[x].zip []:=Qw h.symm
  rw[en] at this;rw[this];exact en _
 refine Pw (r:=B #[d]) (its:=[d]) P bY (fun q=>hd.symm▸xK bC aG q) rfl (dq▸kt _ _) (dq▸h▸iQ _) (fun n m=>?_) ?_ (by rw[cG,dq,h];rfl)
 ·rw[dq] at m;exact rh▸Ik (Ae.mp bY).1 (eT h.symm) n ((List.take_left:(qs++[x]).take qs.length=qs)▸m)
 ·rw[dq,rh]
  show ti (((qs++[x]).drop qs.length).zip [d]) _ _=_
  rw[Qz,(Qw h.symm:(qs++[x]).zip (vs++[d])=qs.zip vs++[(x,d)])]
  show(z3 (x,d) (qs.zip vs)>>=_)=_
  rw[z3,apg cv];rfl
theorem ZV {T:aC}(P:u7 fd (qs++[x]))(bY:(qs++[x]).Nodup)(hd:fd.defaults=.ref T)(bC:s.heap.get? T=B o)(aG:o.data=.seq #[d] k)(h:vs.length=(qs++[x]).length):
  qB s fd ⟨vs,[]⟩ ((qs++[x]).zip vs):=by
 have dq:(qs++[x]).length=qs.length+1:=cG
 refine Pw (r:=B #[d]) (its:=[d]) P bY (fun q=>hd.symm▸xK bC aG q) rfl (dq▸kt _ _) (eT h) (fun n m=>Ik bY (eT h.symm) n (DZ m)) ?_ h
 rw[dq]
 show ti (((qs++[x]).drop qs.length).zip [d]) _ _=_
 rw[Qz]
 show(z3 (x,d) ((qs++[x]).zip vs)>>=_)=_
 rw[z3,Ik bY (eT h.symm) x (ho _ (.head _))];rfl
noncomputable abbrev GT:=aC→ax ee
noncomputable def xf (v:au):ax aC:=match v with| .ref a=>B a|_=>ab
noncomputable def Px (v:au):ax aO:=match v with| .str x _=>B x|_=>ab
noncomputable def ZW (d:Data):ax i9:=match d with| .func f=>B f|_=>ab
noncomputable def ZX (d:Data):ax (dn au):=match d with| .fields f=>B f|_=>ab
noncomputable def Py (d:Data):ax (dn au):=match d with| .seq f _=>B f|_=>ab
noncomputable def Pz (d:Data):ax (dn iS):=match d with| .dict f _=>B f|_=>ab
noncomputable def oh (d:JZ):ax (J gQ):=match d with| .stmts l=>B l|_=>ab
noncomputable def z4 (G:GT)(a:aC):ax i9:=(G a).bind fun o=>if o.cls=.type "function" then ZW o.data else ab
noncomputable def dI (G:GT)(a:aC):i9:=(z4 G a).getD tj
noncomputable def z5 (b:JZ):J gQ:=(oh b).getD []
noncomputable def nt (G:GT)(a:aC)(x:aO):ax au:=((G a).bind fun o=>Pz o.data).bind fun es=>tC es x
noncomputable def Du (G:GT)(a:aC):aZ:=((G a).bind fun o=>Pz o.data).any fun es=>es.toList.all fun e=>(Px e.key).isSome
noncomputable def jB (G:GT):kx:=(g0 220).filterMap fun a=>(G a).map (a,·)
noncomputable def Il (p:vq):aZ:=p.posonlyargs.isEmpty&&p.kwonlyargs.isEmpty&&p.vararg.isNone&&p.kwarg.isNone
noncomputable def apn (G:GT)(c:aC):ax aO:=((G c).bind fun o=>ZX o.data).bind fun vs=>vs[1]?.bind Px
noncomputable def PA (G:GT)(cd:au)(q:aO):aZ:=(xf cd).any fun c=>!gh.contains c&&apn G c==B q
noncomputable def Im:au→ax D
 | .none=>B .aK| .bool b=>B (.be b)| .int i _=>B (.ac i)| .bytes b _=>B (.V b.toList)|_=>ab
noncomputable def ZY (o:ee):aZ:=o.cls==.type "tuple"&&o.dict.isNone&&o.slots.isEmpty
noncomputable def apo (G:GT)(p:aC):ax D:=(G p).bind fun o=>if ZY o=af then(Py o.data).bind fun vs=>(dF Im vs.toList).map .aW else ab
noncomputable def z6 (G:GT)(v:au):ax D:=bS (xf v) (fun p=>if l9.contains p then ab else apo G p) (Im v)
noncomputable def pe (G:GT)(v:au):ax (J D):=bS (xf v) (fun T=>if gh.contains T then ab else((G T).bind fun o=>Py o.data).bind fun vs=>(dW vs.toList).bind fun u=>(z6 G u).map ([·])) (if v=.none then B [] else ab)
noncomputable def l1 (fd:i9):J aO:=fd.params.args.map (·.arg)
noncomputable def PB (G:GT)(a:aC)(fd:i9):aZ:=(z4 G a).isSome&&!gh.contains a&&Vn fd.scope (l1 fd)&&Il fd.params&&a9 (l1 fd).Nodup&&(oh fd.body).isSome&&fd.closure.isEmpty&&fd.globals==i8&&fd.builtins==lu&&
 (!gC fd.scope kE||fd.code==.ref 425||fd.code==.ref 456)&&PA G fd.code fd.qualname&&(fd.defaults==.none|| !(l1 fd).isEmpty)
section
variable {G:GT}{a:aC}{h:b8}{d:D}{v:au}
theorem Io (e:xf v=B a):v=.ref a:=by cases v<;>first|exact gz e|exact bl hr (bo e)
theorem ZZ (e:Px v=B s):∃t,v=.str s t:=by cases v<;>first|exact gz e|exact⟨_,bl (x3 · _) (bo e)⟩
theorem apq (e:ZW x=B fd):x=.func fd:=by cases x<;>first|exact gz e|exact bl Data.func (bo e)
theorem apr (e:ZX x=B y):x=.fields y:=by cases x<;>first|exact gz e|exact bl Data.fields (bo e)
theorem Z0 (e:Py x=B y):∃n,x=.seq y n:=by cases x<;>first|exact gz e|exact⟨_,bl (RS · _) (bo e)⟩
theorem aps (e:Pz x=B y):∃n,x=.dict y n:=by cases x<;>first|exact gz e|exact⟨_,bl (Data.dict · _) (bo e)⟩
theorem PC (e:oh x=B l):x=.stmts l:=by induction x with|stmts l=>exact bl FuncBody.stmts (bo e)|expr=>exact gz e
theorem apt (e:(oh x).isSome=af):x=.stmts (z5 x):=by
 refine(iR.mp e).elim fun l e=>?_;rw[z5,e];exact PC e
theorem apu (e:z4 G a=B fd):∃o,G a=B o∧o.cls=.type "function"∧o.data=.func fd:=
 (i6.mp e).imp fun I z=>⟨z.1,(rS.mp z.2).1,apq (rS.mp z.2).2⟩
theorem Ip (e:(z4 G a).isSome=af):∃o,G a=B o∧o.cls=.type "function"∧o.data=.func (dI G a):=by
 refine(iR.mp e).elim fun l e=>?_;rw[dI,e];exact apu e
theorem Iq (e:Du G a=af)(k:∀a o,G a=B o→h.get? a=B o):h.Ns a (nt G a):=((Jv ..).mp e).elim fun es z=>(i6.mp z.1).elim fun o y=>(aps y.2).elim fun n q=>⟨o,es,n,k _ _ y.1,q,fun x m=>(iR.mp (gy.mp z.2 x (Array.mem_toList_iff.mpr m))).imp fun I e=>ZZ e,fun x=>(bl (fun o=>o.bind fun es=>tC es x) z.1).symm⟩
theorem Z1 {α:Type}{o:α}{l:J (aC×α)}(z:a≠b):((b,o)::l).lookup a=l.lookup a:=Y qv (Y (jY.mpr z:(a==b)=ae) rfl)
theorem Z2 (G:GT)(l:J aC)(e:(l.filterMap fun a=>(G a).map (a,·)).lookup a=B o):G a=B o:=by
 induction l with
 |nil=>exact gz e
 |cons b l az=>
  rw[vd] at e
  induction q:G b with
  |none=>have e:=q▸e;exact az e
  |some o'=>
   rw[q] at e
   by_cases z:a=b
   ·rw[z] at e⊢;exact q.trans (IU.symm.trans e)
   ·exact az ((Z1 z).symm.trans e)
theorem apv (G:GT)(l:J aC)(m:a∈l)(e:G a=B o):(l.filterMap fun a=>(G a).map (a,·)).lookup a=B o:=by
 induction l with
 |nil=>exact dz m
 |cons b l az=>
  refine Y vd ?_
  by_cases z:a=b
  ·exact cN z (Y e IU)
  ·have az:=az ((cV.mp m).resolve_left z)
   induction G b with
   |none=>exact az
   |some o=>exact(Z1 z).trans az
theorem Dv (l:a < 220)(e:G a=B o):(jB G).lookup a=B o:=apv G _ (xy.mpr l) e
theorem apw (k:∀a o,G a=B o→h.get? a=B o):(jB G).In h:=fun a o e=>k a o (Z2 G _ e)
inductive Z3 (G:GT)(v:au)(q:aO):Prop
 |mk {ki:aC}{iA:ee}{sJ:dn au}{y1:dv}(e:v=.ref ki)(n:ki∉gh)(h:G ki=B iA)(d:iA.data=.fields sJ)(t:sJ[1]?=B (.str q y1)):Z3 G v q
theorem PD {l:J aC}(e:(!l.contains c)=af):c∉l:=fun m=>by have e:=(DW.mpr m)▸e;exact xn e
theorem Z4 (e:PA G v q=af):Z3 G v q:=by
 refine((Jv ..).mp e).elim fun c z=>?_
 have y:=ct.mp z.2
 exact(i6.mp (c9 y.2)).elim fun vs x=>(i6.mp x.1).elim fun o u=>(i6.mp x.2).elim fun w t=>(ZZ t.2).elim fun y1 e=>.mk (Io z.1) (PD y.1) u.1 (apr u.2) (e▸t.1)
theorem Z5 (e:Im v=B d):aE g h N O d v:=by cases v<;>first|exact gz e|exact bo e▸.mk ()|exact cN (bo e) (.mk _)
theorem apx:∀{vs:J au} {l:J D},dF Im vs=B l→cp g h N O l vs:=by
 intro vs
 induction vs with
 |nil=>exact fun e=>bo e▸.mk
 |cons v vs az=>
  intro l e
  exact(i6.mp e).elim fun b e=>(iu.mp e.2).elim fun m cR=>cN cR.2 (.mk (Z5 e.1) (az cR.1))
end
section
variable {G:GT}{a:aC}{o:ee}{d:D}{v:au}
theorem apy (t:ZY o=af)(e:o.data=.seq vs n):o=hU "tuple" vs.toList n:=by
 cases o with|mk c qN y3 ch=>
 have t1:=ct.mp t
 have sb:=ct.mp t1.1
 rw[show c=.type "tuple" from c9 sb.1,show qN=ab from l4.mp sb.2,show ch= #[] from Array.isEmpty_iff.mp t1.2,show y3=.seq vs n from e]
theorem Z6 (k:∀a o,G a=B o→g.b.get? a=B o)(e:z6 G v=B d)(H:aR g h N O hp):aE g h N O d v:=by
 rw[z6] at e
 cases q:xf v with
 |none=>rw[q] at e;exact Z5 e
 |some p=>
  rw[q] at e
  have e:=QU.mp e
  cases i6.mp e.2 with|intro o z=>
  have y:=rS.mp z.2
  cases i6.mp y.2 with|intro us x=>
  cases iu.mp x.2 with|intro l w=>
  cases Z0 x.1 with|intro n s=>
  have b:=k _ _ z.1
  have m:p∉l9:=fun m=>e.1 (DW.mpr m)
  have b:=(apy y.1 s)▸b
  exact(Io q)▸w.2▸(.mk ⟨fun m=>fb (H.lo p m).1 b,fun m=>fb (H.gi p m).1 b,m⟩ (.mk (H.cw _ _ b fun z=>m (vK z)) (apx w.1)))
theorem apz (e:dW l=B u):l=[u]:=by
 cases l with
 |nil=>exact gz e
 |cons a l=>cases l with
  |nil=>exact bl (fun x=>[x]) (bo e)
  |cons=>exact gz e
inductive Z7 (G:GT)(v:au)(l:J D):Prop
 |no (e:v=.none)(l:l=[])
 |dW {T:aC}{o:ee}{u:au}{k:ah}{d:D}(e:v=.ref T)(iV:T∉gh)(bC:G T=B o)(hd:o.data=.seq #[u] k)(r:z6 G u=B d)(l:l=[d])
theorem PE (e:pe G v=B fU):Z7 G v fU:=by
 rw[pe] at e
 cases q:xf v with
 |none=>
  rw[q] at e
  have e:=rS.mp e
  exact .no e.1 (bo e.2).symm
 |some p=>
  rw[q] at e
  have e:=QU.mp e
  cases i6.mp e.2 with|intro us z=>
  cases i6.mp z.1 with|intro o y=>
  cases i6.mp z.2 with|intro u x=>
  cases iu.mp x.2 with|intro d w=>
  cases Z0 y.2 with|intro n s=>
  exact .dW (Io q) (fun m=>e.1 (DW.mpr m)) y.1 (s.trans (bl (RS · n) (PV.mp (apz x.1)))) w.1 w.2.symm
def apA (g:ci)(G:GT)(fd:i9)(pre aI:J aO)(h:b8)(N O:J aC)(vs:J au)(full:J D):Prop:=
 ∃us,cp g h N O full us∧∀ar:a3,(∀T o,fd.defaults=.ref T→T∉gh→G T=B o→ar.heap.get? T=B o)→∀dp:J au,dp.length=pre.length→qB ar fd ⟨dp++vs,[]⟩ ((pre++aI).zip (dp++us))
theorem Z8 (k:∀a o,G a=B o→g.b.get? a=B o)(P:u7 fd (pre++aI))(bY:(pre++aI).Nodup)(hd:Z7 G fd.defaults fU)(ne:fU=[]∨aI≠[])(H:aR g h N O hp)(r:cp g h N O ds vs)(hf:m5 aI.length fU ds=B full):apA g G fd pre aI h N O vs full:=by
 have f:=rS.mp hf
 have lv:=r.bJ
 have CX:=fun {x y:J au} {p q:J aO} (a:x.length=p.length) (b:y.length=q.length)=>(cG.trans (a▸b▸cG.symm):(x++y).length=(p++q).length)
 cases hd with
 |no e l=>
  have f:=l▸f
  have dq:=An f.1.1 f.1.2
  have lH:=f.2
  rw[QA,en] at lH
  exact⟨vs,bo lH▸r,fun ar I dp hx=>apl P bY e (CX hx (lv.trans dq))⟩
 |@dW T o u n d e iV bC hd m3 l=>
  rw[l] at f
  have ne:=ne.resolve_left (fun q=>by rw[l] at q;exact vD q)
  have Q:aI=aI.dropLast++[aI.getLast ne]:=(List.dropLast_concat_getLast ne).symm
  generalize aI.getLast ne=x at Q
  generalize aI.dropLast=qs at Q
  subst Q
  rw[←dE] at P bY
  have dq:(qs++[x]).length=qs.length+1:=cG
  have lH:=f.2
  by_cases aw:ds.length=qs.length
  ·have lH:=aw▸(dq▸lH)
   have lH:B (ds++QD (1+qs.length - (qs.length+1)) [d])=B full:=lH
   rw[fQ,xD] at lH
   exact⟨vs++[u],bo lH▸r.app (.mk (Z6 k m3 H) .mk),fun ar kk dp hx=>dE pre qs [x]▸dE dp vs [u]▸apm P bY e (kk T o e iV bC) hd (CX hx (lv.trans aw))⟩
  ·have aw:ds.length=(qs++[x]).length:=An f.1.1 (dq▸Jn (Ji (show qs.length+1≤ds.length+1 from dq▸f.1.2):qs.length≤ds.length) fun q=>aw q.symm)
   rw[aw,Nat.add_sub_cancel] at lH
   have lH:B (ds++[])=B full:=lH
   rw[en] at lH
   exact⟨vs,bo lH▸r,fun ar kk dp hx=>by
    have z:(dp++vs).length=(pre++(qs++[x])).length:=CX hx (lv.trans aw)
    rw[←dE] at z⊢
    exact ZV P bY e (kk T o e iV bC) hd z⟩
theorem PF (e:Il fd.params=af):u7 fd (l1 fd):=
 have n:=fun {x y:aZ} (h:(x&&y)=af)=>ct.mp h
 have aT:=n (n (n e).1).1
 ⟨ks.mp aT.1,rfl,ks.mp aT.2,l4.mp (n (n e).1).2,l4.mp (n e).2⟩
theorem apB (k:∀a o,G a=B o→g.b.get? a=B o)(hc:PB G (fm.getD f 0) (dI G (fm.getD f 0))=af)(b:kF bA 60 (dI G (fm.getD f 0)).scope (z5 (dI G (fm.getD f 0)).body)=j9.bd)(hd:pe G (dI G (fm.getD f 0)).defaults=B j9.fU)(np:(l1 (dI G (fm.getD f 0))).length=j9.np)(hk:(b4 (dI G (fm.getD f 0)).scope).length - (l1 (dI G (fm.getD f 0))).length=j9.k):G7 g f j9:=by
 have n:=fun {x y:aZ} (h:(x&&y)=af)=>ct.mp h
 have nu:=n (n (n hc).1).1;have pf:=n (n (n nu.1).1).1;have xg:=n (n pf.1).1;have iW:=n (n (n xg.1).1).1
 cases Ip iW.1 with|intro o i=>
 generalize dI G (fm.getD f 0)=fd at *
 cases Z4 (n (n hc).1).2 with|mk eb gG kJ p4 sD=>
 have D:=PE hd
 have ne:j9.fU=[]∨l1 fd≠[]:=(th.mp (n hc).2).imp (fun z=>by
  cases D with
  |no _ l=>exact l
  |dW e=>exact nomatch (show fd.defaults=.none from c9 z).symm.trans e) fun z m=>by have z:=m▸z;exact nb z
 refine .mk (F:=⟨fd.scope,l1 fd,z5 fd.body,j9.fU⟩) (kk:=60) (.mk (.of (n (n xg.1).1).2) (k _ _ i.1) i.2.2 (PD iW.2) rfl (apt (n pf.1).2) (ks.mp pf.2) (c9 (n (n nu.1).1).2) (c9 (n nu.1).2) (fun z=>?_) eb (k _ _ kJ) p4 sD gG fun H r hf q=>?_) b np hk rfl
 ·have:=nu.2
  rw[show gC fd.scope kE=af from z] at this
  exact(th.mp this).imp (fun y=>c9 y) fun y=>c9 y
 ·cases Z8 (pre:=[]) k (PF (n xg.1).2) (dg xg.2) D ne H r hf with|intro us z=>
  exact z.2 _ (fun T o aT aN dK=>H.cw _ _ (k _ _ dK) aN) [] rfl _ _ _ _ (q us z.1)
end
noncomputable abbrev oi (G:GT):=nt G i8
noncomputable abbrev xh (G:GT):=nt G lu
noncomputable def Ir (G:GT):aZ:=Du G i8&&Du G lu&&Du G cStatics&&(nt G cStatics "sys.recursionlimit").isNone&&(qR.zipIdx.all fun p=> !(p.2 !=14&&p.2 !=15&&p.2 !=16)||oi G p.1==B (.ref (fm.getD p.2 0)))&&(yn.zipIdx.all fun p=>oi G p.1==B (.ref (pC p.2)))&&
 (A8.all fun p=>(oi G (.ofString p.1)).isNone&&xh G (.ofString p.1)==B (yz p.2))&&(A9.zipIdx.all fun p=>(oi G p.1).isNone&&xh G p.1==B (yA p.2))&&(([("isinstance":aO),"enumerate","range"]:J aO).all fun x=>(oi G x).isNone)&&
 xh G "isinstance"==B (.builtin "isinstance")&&xh G "enumerate"==B (.type "enumerate")&&xh G "range"==B (.type "range")&&oi G "BadOption"==B (.ref 46)&&oi G kE==B (.ref 414)
noncomputable def Dw (G:GT):J (ax D):=yo.map fun x=>(oi G x).bind (z6 G)
theorem PG {α:Type}{l:J α}{P:α×ah→aZ}(h:l.zipIdx.all P=af){x:α}(e:l[i]?=B x):P (x,i)=af:=
 gy.mp h (x,i) (List.mem_zipIdx_iff_getElem?.mpr e)
theorem an (h:(x&&y)=af):x=af∧y=af:=ct.mp h
theorem xi {α:Type}{x:ax α}(h:x.isNone=af):x=ab:=l4.mp h
theorem Dx (h:(!b)=af):b=ae:=by cases b with|false=>rfl|true=>exact nb h
section
variable {g:ci}{G:GT}
theorem apC (k:∀a o,G a=B o→g.b.get? a=B o)(h:Ir G=af)(av:Dw G=FD.map B)(hc:c.La=b5):g.b.Ns i8 (oi G)∧g.b.Ns lu (xh G)∧LC g c (oi G) (xh G):=by
 have PH:=an (an (an h).1).1;have nu:=an (an PH.1).1;have pf:=an (an (an nu.1).1).1;have xg:=an (an pf.1).1;have iW:=an (an (an xg.1).1).1
 refine⟨Iq iW.1 k,Iq iW.2 k,?_⟩
 refine⟨fun f x e z=>?_,fun f x e=>c9 (PG (an pf.1).2 e),fun b x e=>?_,fun f x e=>?_,fun x m=>xi (gy.mp (an nu.1).2 x m),c9 nu.2,c9 (an PH.1).2,c9 PH.2,fun j x e=>?_,c9 (an (an h).1).2,c9 (an h).2⟩
 ·exact c9 ((th.mp (PG xg.2 e)).resolve_left fun q=>dO ((Dx q).symm.trans z))
 ·cases iu.mp e with|intro p z=>
  have:=an (gy.mp pf.2 p (tl z.1))
  exact cN (c9 (xx z.1:):ly p.1=x) (z.2▸⟨xi this.1,c9 this.2⟩)
 ·have:=an (PG (an (an nu.1).1).2 e)
  exact⟨xi this.1,c9 this.2⟩
 ·have aT:(Dw G)[j]?=B ((oi G x).bind (z6 G)):=by rw[Dw,gP,e];rfl
  have aT:=gP▸(av▸aT)
  cases iu.mp aT with|intro d z=>
  cases i6.mp z.2.symm with|intro v y=>
  exact⟨v,d,y.1,hc▸z.1,fun h N O hp H=>Z6 k y.2 H⟩
theorem apD (k:∀a o,G a=B o→g.b.get? a=B o)(h:Ir G=af):g.b.NoLimit:=
 have z:=an (an (an (an (an (an (an (an (an (an (an h).1).1).1).1).1).1).1).1).1).1
 ⟨_,Iq (an z.1).2 k,xi z.2⟩
noncomputable def xj (G:GT)(f:aC)(fd:i9)(aI:J aO):aZ:=(z4 G f).isSome&&codeIn (jB G) fd.code fd.qualname&&(fd.scope.names.all fun x=>x.2 !=.cell)&&!fd.scope.isCoroutine&&!fd.scope.isGenerator&&fd.scope.kind==.function&&
 (aI.all fun y=>fd.scope.names.lookup y==B .local)&&E3 (jB G) (.ref f)==B (.type "function")&&Il fd.params&&l1 fd==aI&&a9 aI.Nodup&&(xf fd.defaults).any (· < 220)
noncomputable def xk (G:GT)(C f:aC)(ns:J aO):aZ:=x5 (jB G) (.ref C) "__init__"==B (B (.ref f))&&x5 (jB G) (.ref C) "__setattr__"==B (B (.builtin "object.__setattr__"))&&(ns.all fun a=>takerIn (jB G) C a==B ab)
structure Z9 (G:GT)(f:aC)(aI:J aO)(body:J gQ):Prop where
 fn:Nr (jB G) f (dI G f) body
 aa:∀y∈aI,(dI G f).scope.names.lookup y=B .local
 ww:E3 (jB G) (.ref f)=B (.type "function")
 c5:u7 (dI G f) aI
 bY:aI.Nodup
 lt:∃T,(dI G f).defaults=.ref T∧T < 220
theorem PI (hf:f < 220)(h:xj G f (dI G f) aI=af)(ay:oh (dI G f).body=B body):Z9 G f aI body:=by
 have nu:=an (an (an h).1).1;have pf:=an (an (an nu.1).1).1;have PJ:=an (an (an pf.1).1).1;have iW:=an (an PJ.1).1
 cases Ip iW.1 with|intro o i=>
 refine⟨⟨⟨o.cls,o.dict,o.slots,Dv hf (i.1.trans ?_)⟩,iW.2,PC ay,fun x m z=>?_,Dx PJ.2,Dx (an (an pf.1).1).2,c9 (an pf.1).2⟩,fun y m=>c9 (gy.mp pf.2 y m),c9 (an (an nu.1).1).2,(c9 nu.2:l1 (dI G f)=aI)▸PF (an nu.1).2,dg (an (an h).1).2,?_⟩
 ·exact bl (fun d=>B (Obj.mk o.cls o.dict d o.slots)) i.2.2
 ·exact r3.mp (gy.mp (an PJ.1).2 x m) z
 ·exact((Jv ..).mp (an h).2).imp fun T z=>⟨Io z.1,dg z.2⟩
theorem a' (k:∀a o,G a=B o→g.b.get? a=B o)(dk:Z9 G f (n1::aI) body)(hd:pe G (dI G f).defaults=B [d])(ne:aI≠[]):Nw g (jB G) (dI G f) aI [d]:=fun {h N O hp vs ds full} H r hf=>by
 cases Z8 (pre:=[n1]) k dk.c5 dk.bY (PE hd) (.inr ne) H r hf with|intro us bQ=>
 cases dk.lt with|intro T z=>
 exact⟨us,bQ.1,fun ar x X=>bQ.2 ar (fun aq6 o cR I aN=>X _ _ (Dv (tI (z.1.symm.trans cR)▸z.2) aN)) [.ref x] rfl⟩
end
noncomputable abbrev u8 (l:ah)(a:aO)(m:ah):gQ:=.Assign [.Attribute (.Name n1 ⟨l,8,l,12⟩) a ⟨l,8,l,13+m⟩] (.Name a ⟨l,16+m,l,16+2 *m⟩) ⟨l,8,l,16+2 *m⟩
noncomputable def b':J gQ:=[u8 70 "kind" 4,u8 71 "scope" 5,u8 72 "first" 5,u8 73 "bounds" 6]
noncomputable def apE:J gQ:=[u8 98 "table" 5,u8 99 "scope" 5,u8 100 "parent" 6]
noncomputable def PK:J gQ:=[u8 21 "told" 4]
noncomputable abbrev c':J gQ:=apE++[.Assign [.Attribute (.Name n1 ⟨101,8,101,12⟩) ze ⟨101,8,101,19⟩] (.Dict [] [] ⟨101,22,101,24⟩) ⟨101,8,101,24⟩]
noncomputable abbrev d':J gQ:=M6 ⟨410,8,410,12⟩ ⟨410,8,410,14⟩ ⟨410,8,410,14⟩ ⟨411,11,411,20⟩ ⟨412,15,412,20⟩ ⟨412,8,412,20⟩ ⟨411,4,412,20⟩ ⟨409,4,412,20⟩ ⟨413,11,413,15⟩ ⟨413,4,413,15⟩
noncomputable abbrev e':ee:=rV "OptionKind" "OptionKind" 132 131 [.type "object"] [.type "object"] af [] [] ae ab ab ab ab (B (.str "OptionKind" 360)) (B (.str "OptionKind" 368)) (B (.bool af)) "object.__new__"
noncomputable abbrev f':ee:=rV "Options" "Options" 209 208 [.type "object"] [.type "object"] af [] [] ae ab ab ab ab (B (.str "Options" 433)) (B (.str "Options" 441)) (B (.bool af)) "object.__new__"
noncomputable abbrev Cx:J au:=[.ref 33,.type "Exception",.type "BaseException",.type "object"]
noncomputable abbrev g':ee:=rV "BadOption" "BadOption" 46 45 [.ref 33] Cx af [] [] ae ab ab (B (.ref 37)) ab (B (.str "BadOption" 255)) (B (.str "BadOption" 263)) (B (.bool af)) "Exception.__new__"
noncomputable def Dy (G:GT)(k:ah):aZ:=Du G (sq k)&&(nt G (sq k) "__getattribute__").isNone&&(nt G (sq k) "__getattr__").isNone&&((tL k).all fun x=>(nt G (sq k) x).isNone)
noncomputable def Dz (G:GT):kx:=[425,456].filterMap fun a=>(G a).map (a,·)
noncomputable def h' (G:GT)(fd:i9):aZ:=(z4 G 414).isSome&&Il fd.params&&l1 fd==[mw]&&fd.defaults==.none&&fd.scope.kind==.function&&fd.scope.names==[(mw,.local),(Ca,.globalImplicit)]&&!fd.scope.isGenerator&&!fd.scope.isCoroutine&&fd.globals==i8&&PA G fd.code fd.qualname
abbrev BaseZ_fnsZ (G:GT):Prop:=((g0 59).all fun f=>PB G (fm.getD f 0) (dI G (fm.getD f 0)))=af
abbrev BaseZ_bds (G:GT):Prop:=((g0 59).map fun f=>kF bA 60 (dI G (fm.getD f 0)).scope (z5 (dI G (fm.getD f 0)).body))=Bc.map (·.bd)
abbrev BaseZ_rst (G:GT):Prop:=((g0 59).map fun f=>(pe G (dI G (fm.getD f 0)).defaults,(l1 (dI G (fm.getD f 0))).length,(b4 (dI G (fm.getD f 0)).scope).length - (l1 (dI G (fm.getD f 0))).length))=Bc.map fun d=>(B d.fU,d.np,d.k)
structure oj (G:GT):Prop where
 iY:Ir G=af
 fx:Dw G=FD.map B
 i':BaseZ_fnsZ G
 apF:BaseZ_bds G
 apG:BaseZ_rst G
 Fg:Dy G 0=af
 iW:Dy G 1=af
 By:nt G 208 "get"=B (.ref 191)
 iZ:nt G 208 "set"=B (.ref 199)
 v4:nt G 208 "unset"=B (.ref 206)
 t1:(jB G).lookup 421=ab
 sb:(jB G).lookup 454=ab
 gq:AJ (jB G) 132=af
 jp:AJ (jB G) 209=af
 rC:xj G 129 (dI G 129) (n1::rm)=af
 rj:xj G 184 (dI G 184) (n1::wx)=af
 jx:xj G 30 (dI G 30) [n1,"told"]=af
 apH:xk G 132 129 rm=af
 nZ:xk G 209 184 ["table","scope","parent","values"]=af
 oW:xk G 46 30 ["told"]=af
 aY:E2 (Dz G) 425 421=af
 bu:E2 (Dz G) 456 454=af
 s1:(G 1).isSome=af
 G8:h' G (dI G 414)=af
 eQ:oi G "__builtins__"=B (.ref 4)
 o0:G 132=B e'
 h4:G 209=B f'
 gw:G 46=B g'
 eM:G 421=B (vC #[])
 dt:G 454=B (vC #[])
 cJ:G 4=B ⟨.type "module",B lu,.plain, #[]⟩
 pD:oh (dI G 129).body=B b'
 jf:oh (dI G 184).body=B c'
 lO:oh (dI G 30).body=B PK
 wd:oh (dI G 414).body=B d'
 s7:pe G (dI G 129).defaults=B [.aW []]
 CA:pe G (dI G 184).defaults=B [.aK]
 yK:pe G (dI G 30).defaults=B [.aK]
theorem j' {α d0 LD:Type}{l:J α}{m:J d0}{f:α→LD}{p:d0→LD}(e:l.map f=m.map p){i:ah}{b:d0}(h:m[i]?=B b):∃a,l[i]?=B a∧f a=p b:=
 iu.mp (gP.symm.trans (e▸gP.trans (h▸rfl)))
theorem k' (e:(g0 n)[i]?=B a):a=i∧i < n:=
 (gc.mp e).elim fun h z=>⟨z.symm.trans (List.getElem_range ..),(rN (n:=n))▸h⟩
theorem oj.NA (bQ:oj G)(k:∀a o,G a=B o→g.b.get? a=B o)(f:ah)(d:t2)(e:yr f=B d):G7 g f d:=by
 cases j' bQ.apF e with|intro a z=>
 cases j' bQ.apG e with|intro b y=>
 have r:=k' z.1
 cases r.1
 cases(k' y.1).1
 have p5:=Aq y.2
 have B9:=Aq p5.2
 exact apB k (gy.mp bQ.i' f (xy.mpr r.2)) z.2 p5.1 B9.1 B9.2
section
variable {g:ci}
theorem l' (self:au)(C:aC):EH self "__setattr__" [.ref C,.type "object"]=bV ():=by kernel_rfl
theorem apI (self:au):EH self "__setattr__" (.ref 46::Cx)=bV ():=by kernel_rfl
theorem m' (jg:∀a o,G a=B o→g.b.get? a=B o)(h:Dy G k=af) {nm q sn sub pT col j9 gq jp ik lJ pU}(e:G (pC k)=B (rV nm q (pC k) (sq k) [.type "object"] [.type "object"] af sn sub pT col j9 gq jp ik lJ pU "object.__new__")):sr g.b k (nt G (sq k)):=
 have k9:=an (an h).1;have iW:=an k9.1
 .mk (jg _ _ e) (Iq iW.1 jg) (xi iW.2) (xi k9.2) fun x m=>xi (gy.mp (an h).2 x m)
theorem apJ (P:u7 fd [mw])(hd:fd.defaults=.none)(v:au):xT fd ⟨[v],[]⟩=bV [(mw,v)]:=by
 obtain⟨nm,qn,⟨po,dd,fB,oe,kd,j4,apk⟩,b,sc,gl,cl,fU,qq⟩:=fd
 cases P.po;cases P.oe;cases P.fB;cases P.j4;subst hd
 have e:dd.map (·.arg)=[mw]:=P.dd
 cases dd with
 |nil=>exact nomatch e
 |cons a dd=>
  have e:=xA e
  refine Y (List.map_eq_nil_iff.mp e.2) ?_
  cases a with|mk x an aI=>
  cases(show x=mw from e.1);rfl
theorem PL (eu:C < 220)(e:G C=B ⟨iA,od,.cls cd,ch⟩)(h:xk G C f ns=af)(q:cd.mro.isEmpty=ae∧cd.mro.contains (.type "object")=af∧cd.hasDict=af∧∀self,EH self "__setattr__" cd.mro=bV ()):
  x5 (jB G) (.ref C) "__init__"=B (B (.ref f))∧oX (jB G) C ns:=
 ⟨c9 (an (an h).1).1,⟨cd,by rw[clsIn,Dv eu e],q⟩,c9 (an (an h).1).2,fun a m=>c9 (gy.mp (an h).2 a m)⟩
theorem oj.jj (bQ:oj G)(k:∀a o,G a=B o→g.b.get? a=B o):Cc g.b:=by
 have It:=an (an bQ.G8).1;have Iu:=an (an (an It.1).1).1;have k9:=an (an (an Iu.1).1).1;have iW:=an k9.1
 cases Ip iW.1 with|intro o i=>
 cases Z4 (an bQ.G8).2 with|mk eb gG kJ p4 sD=>
 exact .mk (k _ _ i.1) i.2.2 (PC bQ.wd) (c9 (an Iu.1).2) (c9 Iu.2) (Dx (an (an It.1).1).2) (Dx (an It.1).2) (c9 It.2) eb (k _ _ kJ) p4 sD gG (apJ ((c9 k9.2:l1 (dI G 414)=[mw])▸PF iW.2) (c9 (an (an Iu.1).1).2))
theorem oj.apK (bQ:oj G)(k:∀a o,G a=B o→g.b.get? a=B o):qd g (jB G) yr b5:=by
 have Iv:=apC (c:=rn yr b5 0 0) k bQ.iY bQ.fx rfl
 have n':=m' (k:=1) k bQ.iW bQ.h4
 have X:=apw (G:=G) k
 have DA:=PI (by decide) bQ.rC bQ.pD
 have DB:=PI (by decide) bQ.rj bQ.jf
 have rb:=PI (by decide) bQ.jx bQ.lO
 have p':=PL (by decide) bQ.o0 bQ.apH ⟨rfl,rfl,rfl,fun self=>l' self _⟩
 have q':=PL (by decide) bQ.h4 bQ.nZ ⟨rfl,rfl,rfl,fun self=>l' self _⟩
 have r':=PL (by decide) bQ.gw bQ.oW ⟨rfl,rfl,rfl,fun self=>apI self⟩
 have s':(Dz G).In g.b:=fun a o e=>k a o (Z2 G _ e)
 refine⟨fun c=>?_,⟨_,_,Iv⟩,fun f x e=>?_,⟨_,n',bQ.By,bQ.iZ,bQ.v4⟩,⟨⟨X,fun t m=>?_⟩,apD k bQ.iY,p'.2,q'.2,?_,?_⟩,⟨codeHd_of_K s' bQ.aY,codeHd_of_K s' bQ.bu,⟨_,4,_,Iv.1,bQ.eQ,by decide,by decide,k _ _ bQ.cJ,rfl,rfl,rfl⟩⟩,bQ.jj k,.mk (k _ _ bQ.gw) rfl,⟨30,dI G 30,PK,?_⟩,bQ.NA k⟩
 ·cases c with
  |zero=>exact⟨_,(m' (k:=0) k bQ.Fg bQ.o0)⟩
  |succ c=>cases n' with|mk a b c d e=>exact⟨_,.mk a b c d e⟩
 ·have z:=an (an (an (an (an (an (an (an (an (an (an (gy.mp bQ.i' f (xy.mpr (gc.mp e).1))).1).1).1).1).1).1).1).1).1).1
  exact(Ip z.1).imp fun I i=>⟨_,k _ _ i.1,i.2.1,i.2.2,PD z.2⟩
 ·rcases cV.mp m with rfl|m
  ·exact bQ.t1
  ·exact df.mp m▸bQ.sb
 ·exact .mk ⟨bQ.gq,p'.1,DA.ww,DA.fn,DA.aa _ (.head _)⟩ (.dN (.dN (.dN (.dN .fj)))) (a' k DA bQ.s7 (tn _ _)) fun y m=>DA.aa y (.tail _ m)
 ·exact .mk ⟨bQ.jp,q'.1,DB.ww,DB.fn,DB.aa _ (.head _)⟩ (.dN (.dN (.dN .fj))) (a' k DB bQ.CA (tn _ _)) fun y m=>DB.aa y (.tail _ m)
 ·refine⟨⟨_,Dv (by decide) bQ.gw,.mk rfl rfl rfl⟩,r'.1,rb.ww,rb.fn,rb.aa _ (.head _),rb.aa _ (.tail _ (.head _)),.dN .fj,r'.2,fun ar x v X=>?_⟩
  cases rb.lt with|intro T z=>
  cases PE bQ.yK with
  |no e=>exact nomatch z.1.symm.trans e
  |dW cR iV bC hd m3=>exact ZV (qs:=[n1]) (x:="told") (vs:=[.ref x,v]) rb.c5 rb.bY cR (X _ _ (Dv (tI (z.1.symm.trans cR)▸z.2) bC)) hd rfl
end
section
set_option maxHeartbeats 0
noncomputable abbrev nv:=aaB
noncomputable abbrev iM:mM:=nv.row.prog
noncomputable abbrev pg:mM:=view iM [82]
theorem eY {a b:aZ}(x:a=af)(y:b=af):(a&&b)=af:=by rw[x,y];rfl
theorem u':nv.wellSaid=af:=by
 refine(KA Fast.te9446332074065402090 nv).trans ?_
 refine eY (eY (eY (eY (eY (eY (eY (eY (eY (eY (eY (eY (eY (eY (eY (eY (eY (eY ?_ ?_) ?_) ?_) ?_) ?_) ?_) ?_) ?_) ?_) ?_) ?_) ?_) ?_) ?_) ?_) ?_) ?_) ?_
 ·refine eY (eY ?_ ?_) ?_
  ·refine eY (eY (eY (eY (eY (eY (eY (eY (eY (eY (eY (eY (eY ?_ ?_) ?_) ?_) ?_) ?_) ?_) ?_) ?_) ?_) ?_) ?_) ?_) ?_
   ·refine eY (eY (eY (eY (eY ?_ ?_) ?_) ?_) ?_) ?_
    all_goals as_aux_lemma=>kernel_rfl
   all_goals as_aux_lemma=>kernel_rfl
  all_goals as_aux_lemma=>kernel_rfl
 all_goals as_aux_lemma=>kernel_rfl
theorem u9:(r1 pg "law").isSome=af:=by kernel_rfl
theorem apL:nv.row.prog.theDef nv.row.name=B (((r1 pg "law").get u9).1.params,((r1 pg "law").get u9).1.body,((r1 pg "law").get u9).1.scope):=by kernel_rfl
theorem apM:kwWritten? ((r1 pg "law").get u9).1.params.kwonlyargs ((r1 pg "law").get u9).1.params.kw_defaults=B ((r1 pg "law").get u9).2:=by kernel_rfl
theorem prom:nv.row.toRowW.promised:=⟨[ofPy (PyData.list [])],by decide+kernel,by decide+kernel⟩
theorem jH:(chainsOk pg&&opensWell nv.row.prog&&(frees nv.row.toRowW&&nv.row.within.isEmpty))=af:=by kernel_rfl
theorem apN:nv.row.prog.bare:=⟨rfl,rfl,rfl,rfl,rfl,by decide+kernel⟩
end
section
set_option maxHeartbeats 0
noncomputable abbrev v':=aZ×J (ax D)×aZ×J (J cT)×J (ax (J D)×ah×ah)×aZ×aZ×ax au×ax au×ax au×ax ee×ax ee×aZ×aZ×aZ×aZ×aZ×aZ×aZ×aZ×aZ×aZ×aZ×aZ×ax au×ax ee×ax ee×ax ee×ax ee×ax ee×ax ee×ax (J gQ)×ax (J gQ)×ax (J gQ)×ax (J gQ)×ax (J D)×ax (J D)×ax (J D)
noncomputable def DC (G:GT):v':=(Ir G,Dw G,((g0 59).all fun f=>PB G (fm.getD f 0) (dI G (fm.getD f 0))),((g0 59).map fun f=>kF bA 60 (dI G (fm.getD f 0)).scope (z5 (dI G (fm.getD f 0)).body)),((g0 59).map fun f=>(pe G (dI G (fm.getD f 0)).defaults,(l1 (dI G (fm.getD f 0))).length,(b4 (dI G (fm.getD f 0)).scope).length - (l1 (dI G (fm.getD f 0))).length)),Dy G 0,Dy G 1,nt G 208 "get",nt G 208 "set",nt G 208 "unset",(jB G).lookup 421,(jB G).lookup 454,AJ (jB G) 132,AJ (jB G) 209,xj G 129 (dI G 129) (n1::rm),xj G 184 (dI G 184) (n1::wx),xj G 30 (dI G 30) [n1,"told"],xk G 132 129 rm,xk G 209 184 ["table","scope","parent","values"],xk G 46 30 ["told"],E2 (Dz G) 425 421,E2 (Dz G) 456 454,(G 1).isSome,h' G (dI G 414),oi G "__builtins__",G 132,G 209,G 46,G 421,G 454,G 4,oh (dI G 129).body,oh (dI G 184).body,oh (dI G 30).body,oh (dI G 414).body,pe G (dI G 129).defaults,pe G (dI G 184).defaults,pe G (dI G 30).defaults)
noncomputable def Iw:v':=(af,FD.map B,af,(Bc.map (·.bd)),(Bc.map fun d=>(B d.fU,d.np,d.k)),af,af,B (.ref 191),B (.ref 199),B (.ref 206),ab,ab,af,af,af,af,af,af,af,af,af,af,af,af,B (.ref 4),B e',B f',B g',B (vC #[]),B (vC #[]),B ⟨.type "module",B lu,.plain, #[]⟩,B b',B c',B PK,B d',B [.aW []],B [.aK],B [.aK])
theorem apO {G:GT}(e:DC G=Iw):oj G:=
 ⟨bl (·.1) e,bl (·.2.1) e,bl (·.2.2.1) e,bl (·.2.2.2.1) e,bl (·.2.2.2.2.1) e,bl (·.2.2.2.2.2.1) e,bl (·.2.2.2.2.2.2.1) e,bl (·.2.2.2.2.2.2.2.1) e,bl (·.2.2.2.2.2.2.2.2.1) e,bl (·.2.2.2.2.2.2.2.2.2.1) e,bl (·.2.2.2.2.2.2.2.2.2.2.1) e,bl (·.2.2.2.2.2.2.2.2.2.2.2.1) e,bl (·.2.2.2.2.2.2.2.2.2.2.2.2.1) e,bl (·.2.2.2.2.2.2.2.2.2.2.2.2.2.1) e,bl (·.2.2.2.2.2.2.2.2.2.2.2.2.2.2.1) e,bl (·.2.2.2.2.2.2.2.2.2.2.2.2.2.2.2.1) e,bl (·.2.2.2.2.2.2.2.2.2.2.2.2.2.2.2.2.1) e,bl (·.2.2.2.2.2.2.2.2.2.2.2.2.2.2.2.2.2.1) e,bl (·.2.2.2.2.2.2.2.2.2.2.2.2.2.2.2.2.2.2.1) e,bl (·.2.2.2.2.2.2.2.2.2.2.2.2.2.2.2.2.2.2.2.1) e,bl (·.2.2.2.2.2.2.2.2.2.2.2.2.2.2.2.2.2.2.2.2.1) e,bl (·.2.2.2.2.2.2.2.2.2.2.2.2.2.2.2.2.2.2.2.2.2.1) e,bl (·.2.2.2.2.2.2.2.2.2.2.2.2.2.2.2.2.2.2.2.2.2.2.1) e,bl (·.2.2.2.2.2.2.2.2.2.2.2.2.2.2.2.2.2.2.2.2.2.2.2.1) e,bl (·.2.2.2.2.2.2.2.2.2.2.2.2.2.2.2.2.2.2.2.2.2.2.2.2.1) e,bl (·.2.2.2.2.2.2.2.2.2.2.2.2.2.2.2.2.2.2.2.2.2.2.2.2.2.1) e,bl (·.2.2.2.2.2.2.2.2.2.2.2.2.2.2.2.2.2.2.2.2.2.2.2.2.2.2.1) e,bl (·.2.2.2.2.2.2.2.2.2.2.2.2.2.2.2.2.2.2.2.2.2.2.2.2.2.2.2.1) e,bl (·.2.2.2.2.2.2.2.2.2.2.2.2.2.2.2.2.2.2.2.2.2.2.2.2.2.2.2.2.1) e,bl (·.2.2.2.2.2.2.2.2.2.2.2.2.2.2.2.2.2.2.2.2.2.2.2.2.2.2.2.2.2.1) e,bl (·.2.2.2.2.2.2.2.2.2.2.2.2.2.2.2.2.2.2.2.2.2.2.2.2.2.2.2.2.2.2.1) e,bl (·.2.2.2.2.2.2.2.2.2.2.2.2.2.2.2.2.2.2.2.2.2.2.2.2.2.2.2.2.2.2.2.1) e,bl (·.2.2.2.2.2.2.2.2.2.2.2.2.2.2.2.2.2.2.2.2.2.2.2.2.2.2.2.2.2.2.2.2.1) e,bl (·.2.2.2.2.2.2.2.2.2.2.2.2.2.2.2.2.2.2.2.2.2.2.2.2.2.2.2.2.2.2.2.2.2.1) e,bl (·.2.2.2.2.2.2.2.2.2.2.2.2.2.2.2.2.2.2.2.2.2.2.2.2.2.2.2.2.2.2.2.2.2.2.1) e,bl (·.2.2.2.2.2.2.2.2.2.2.2.2.2.2.2.2.2.2.2.2.2.2.2.2.2.2.2.2.2.2.2.2.2.2.2.1) e,bl (·.2.2.2.2.2.2.2.2.2.2.2.2.2.2.2.2.2.2.2.2.2.2.2.2.2.2.2.2.2.2.2.2.2.2.2.2.1) e,bl (·.2.2.2.2.2.2.2.2.2.2.2.2.2.2.2.2.2.2.2.2.2.2.2.2.2.2.2.2.2.2.2.2.2.2.2.2.2) e⟩
noncomputable def Ix:J aO:=yo++yn++(["TermError","BadOption",kE]:J aO)++qR.take 58
noncomputable abbrev T0:=Fast.tw14364793385576792824
noncomputable abbrev w' (w:iT):ax ow:=Pt (Fast.tw10156331382660048174 (Fast.tw11892475500146522536 T0) iM w) (Fast.tw10274390034422433532 T0 (x4 iM) w 6044 (start (x4 iM)).1 (start (x4 iM)).2) iM 6044
theorem apP (w:iT):(w' w).map (fun t=>(Fast.tw4187177175401517315 pg Ix (JF iM.main.body) (fun I=>af) af t.abs,DC (Pu t)))=B (openGood pg Ix,Iw):=by kernel_rfl
end
section
open Sem (wp)
abbrev PM (q:mM)(loose:J aO)(XP:(aO→ax au)→b8→Prop){α:Type}(xl:a3→α)(xm:iT→α)(r:RowW)(d:EU)(qq:J (aO×b7)):Prop:=
 ∀(w:iT) (iN aB:a3) (dr fM:aO→ax au),Ground q loose r.records XP w iN dr fM aB.heap→xl iN=xm w→∀(a:aC) (o:ee) (wn cd doc DD DE:au),aB.heap.get? a=B o→
  o.data=.func {docDef d.name d.params d.body d.scope wn cd doc with defaults:=DD,kwdefaults:=DE}→aB.heap.CodeRec cd d.name→Dflts dr aB.heap d.params qq DD DE→dr d.name=B (.ref a)→aB.gens= #[]→
  ∀(args:J WData) (vals:J au) (as:J aC),Laid r.records w iN aB args vals as→r.claim.pre args=af→Sp args=af→ReadsAllW r.records (AD iN.heap) aB.heap vals args as→WellAll w.params aB.heap vals args→(∀a∈as,(a==Ax)=ae)→
   bK (bB r.prog w) callerA (cY (.ref a) vals) (fun v ar=>GoodWG r.claim (AD iN.heap) (J9 iN.heap) args aB (.ok (.ret v)) ar)
    (fun e ar=>GoodWG r.claim (AD iN.heap) (J9 iN.heap) args aB (.error e) ar) aB
theorem apQ:yd ⟨.builtin "claim.caller" {},ab,ab,[],ab⟩:=⟨by decide+kernel,fun I m=>dz m⟩
inductive x' (prog:mM)(w:iT)(t:dM Fin)(s:a3)(R:l5→a3→Prop):Prop
 |mk {n:ah}{r:l5}{ar iv:a3}(run:runN (rY jb) prog w n s ⟨t,.builtin "claim.caller" {},tj,[]⟩=.halted (xQ r) ar)
   (DF:schedN (rY jb) prog w n (.single s ⟨t,.builtin "claim.caller" {},tj,[]⟩)=.halted (xQ r) ar) (y':ar.forget=iv.forget) (x:R r iv):x' prog w t s R
theorem apR {prog:mM}{w:iT}{t:dM Fin}{s:a3}{R:l5→a3→Prop}(ea:s.asleep)
  (h:bK (bB prog w) callerA t (fun fin ar=>∃f,fin=.done f∧R (.ok f) ar∧Au ar.gens=ae) (fun e ar=>R (.error e) ar∧Au ar.gens=ae) s):x' prog w t s R:=by
 have k:wp (bB prog w) ⟨.builtin "claim.caller" {},ab,ab,[],ab⟩ t (Sem.finPost (bB prog w) ⟨.builtin "claim.caller" {},ab,ab,[],ab⟩ fun r ar=>R r ar∧Au ar.gens=ae)
   (fun e I ar=>R (.error e) ar∧Au ar.gens=ae) tj s:=
  AI _ _ _ (fun I I I eb=>eb.elim fun f gG=>gG.elim fun e x=>by subst e;exact x) (fun I I I x=>x) _ _ (h _ tj caller_in apQ)
 obtain⟨n,r,aB,c6,aG,aA,hf,l8⟩:=wp_halts_full (M:=bB prog w) (R:=R) ea k
 exact .mk aA aG hf l8
noncomputable abbrev PN (nm:aO)(vs:J au):dM Fin:=do match←nsGet mainNs nm with
   |some f=>do ret (←cY f vs)
   |none=>JR "claim.caller:no-such-global"
inductive z' (c:ClaimW)(nm:aO)(w:iT)(s:a3)(ord:J iS→J iS)(args:J WData)(jg:b8→b8→Prop):Prop
 |mk {vs:J au}{aB s2:a3}{n:ah}{x:l5}(laid:layAllW c.records (AD s.heap) w.params ord args s=B (vs,aB))(run:runN (rY jb) c.prog w n aB ⟨PN nm vs,.builtin "claim.caller" {},tj,[]⟩=.halted (xQ x) s2)
   (DF:schedN (rY jb) c.prog w n (.single aB ⟨PN nm vs,.builtin "claim.caller" {},tj,[]⟩)=.halted (xQ x) s2) (C:c.Ends s args vs aB x s2) (os:s2.os=s.os) (kk:jg aB.heap s2.heap):z' c nm w s ord args jg
theorem apS {r:RowW}{q:mM}{loose:J aO}{XP:(aO→ax au)→b8→Prop}{α:Type}{xl:a3→α}{xm:iT→α}{d:EU}{qq:J (aO×b7)}{w:iT}{s:a3}{dr fM:aO→ax au}{args:J WData}{ord:J iS→J iS}
  (PO:∀dr h aj,XP dr h→(∀b o,h.get? b=B o→aj.get? b=B o)→XP dr aj) (DG:r1 q r.name=B (d,qq)) (fr:(frees r&&r.within.isEmpty)=af) (c8:Ground q loose r.records XP w s dr fM s.heap) (ea:s.asleep) (aV:s.gens= #[]) (y:xl s=xm w)
  (call:PM q loose XP xl xm r d qq) (pre:r.claim.pre args=af) (lay:Sp args=af) (Iy:∀l,(ord l).Perm l):z' r.claim r.name w s ord args fun h aj=>(∀b o,s.heap.get? b=B o→h.get? b=B o)∧∀b o,h.get? b=B o→asItWas h aj b o:=by
 have fr:=ct.mp fr
 have hB:=frees_parts fr.1
 have z:=iR.mp (layAllW_isSome (P:=w.params) (ord:=ord) c8.has args r.args s (pre_splitW pre).1)
 induction z with|intro vs laid=>
 induction vs with|mk vs aB=>
 have jg:=layAllW_keeps _ _ _ laid
 have rest:=layAllW_rest _ _ _ laid
 induction reads_layAllW Iy _ _ _ laid lay aB.heap (fun I I e=>e)with|intro as L=>
 have L:Laid r.records w s aB args vs as:=⟨⟨ord,Iy,laid⟩,L.1,L.2.1,L.2.2,jg,rest.1.trans aV,rest.2.2.1⟩
 have dm:=c8.keeps PO jg
 obtain⟨a,o,wn,cd,doc,DD,DE,aY,bu,cu,fg,js⟩:=dm.fn DG
 have walk:=call w s aB _ _ dm y a o wn cd doc DD DE bu cu fg js (defOf_name DG▸aY) L.gens args vs as L pre lay L.reads L.well (L.low c8.low)
 have hi:=ident_freeW hB.2.1 hB.2.2.1 hB.2.2.2.1
 have good:∀{x:l5} {t:a3},GoodWG r.claim (AD s.heap) (J9 s.heap) args aB x t→(r.claim.Ends s args vs aB x t∧t.os=s.os∧∀b o,aB.heap.get? b=B o→asItWas aB.heap t.heap b o)∧Au t.gens=ae:=fun {x t} g=>
  have z:=g.laid (c:=r.claim) hB.1 (ks.mp fr.2) hi L
  ⟨⟨z.1,z.2.1,g.2.1.old⟩,leftWithCleanup_false_of_bare z.2.2⟩
 cases apR (prog:=r.prog) (w:=w) (t:=PN r.name vs) (s:=aB) (R:=fun x t=>r.claim.Ends s args vs aB x t∧t.os=s.os∧∀b o,aB.heap.get? b=B o→asItWas aB.heap t.heap b o) (Shared.asleep_of_life rest.2.2.2 ea)
  (d1 (wpAny_nsGet dm.T.g (by rw[aY];exact cc (ew walk (fun v t g=>cs ⟨_,rfl,good g⟩) fun e t g=>good g))))with|mk run DF y' x=>
 have e:=Shared.forget_eq y'
 exact .mk laid run DF (x.1.congr e.1) (e.2.2.2.1.trans x.2.1) ⟨jg,fun b o q=>by rw[e.1];exact x.2.2 b o q⟩
theorem apT {r:OpenRow}{q:mM}{loose:J aO}{PP:a3→aZ}{XP:(aO→ax au)→b8→Prop}{α:Type}{xl:a3→α}{xm:iT→α}{d:EU}{qq:J (aO×b7)}{de:ah}
  (left:LeftO r.prog q loose PP xl xm de)
  (apU:∀s,PP s=af→XP (s.heap.nsMap i8) s.heap) (PO:∀dr h aj,XP dr h→(∀b o,h.get? b=B o→aj.get? b=B o)→XP dr aj)
  (DG:r1 q r.name=B (d,qq)) (hp:r.prog.theDef r.name=B (d.params,d.body,d.scope)) (hk:kwWritten? d.params.kwonlyargs d.params.kw_defaults=B qq) (apV:∀s,PP s=af→RecFacts r.records s.heap) (apW:(!r.writes||r.records.isEmpty)=af)
  (jp:r.wellSaid=af) (ok:(chainsOk q&&opensWell r.prog&&(frees r.toRowW&&r.within.isEmpty))=af) (ay:r.prog.bare) (hw:r.toRowW.promised)
  (call:PM q loose XP xl xm r.toRowW d qq):r.Holds:=by
 have ok:=ct.mp ok
 have co:=ct.mp ok.1
 refine⟨jp,hw,⟨ay,co.2,?_⟩,hw.witness,fun w=>?_⟩
 ·show r.makers.map _=[]
  rw[(frees_parts (ct.mp ok.2).1).2.2.2.2];rfl
 have L:=left.behind (XP:=fun dr h=>XP dr h∧RecFacts r.records h) (fun s aG=>⟨apU s aG,apV s aG⟩) co.1 w
 refine⟨L.1,fun ar gr=>(L.2 ar gr).imp fun iN z=>⟨z.1,z.2.1,z.2.2.imp fun s z=>?_⟩⟩
 have aV:=z.2.2.2.1
 have G:=z.2.2.2.2.1
 have c8:Ground q loose [] XP w s (s.heap.nsMap i8) (s.heap.nsMap lu) s.heap:={G with X:=G.X.1}
 refine⟨z.1,fun n m=>?_,G.X.2.1,G.X.2.2.1,?_⟩
 ·obtain rfl:n=r.name:=by split at m<;>simp_all
  exact pinned_of_view aV c8 DG hp hk
 have A':s.gens= #[]:=Array.eq_empty_of_size_eq_zero (qH.mp z.2.2.1)
 intro args pre lay ord Iy
 induction apS PO DG ok.2 (G.X.2.ground c8) z.2.1 A' z.2.2.2.2.2 call pre lay Iy with|@mk vs aB s2 n x laid run DF C os jg=>
 refine⟨vs,aB,laid,n,_,s2,DF,?_,fun I i x hx=>(by rw[A'] at hx;cases hx),fun u=>⟨namesKept_of z.1 aV r.keeps jg.1 jg.2,noTable apW u⟩,bl Life.seen ((runN_life _ _ _ run).trans (layAllW_rest _ _ _ laid).2.2.2),Shared.rest_eq os⟩
 exact C.imp (gb fun I z=>⟨bl xQ z.1,z.2.1,z.2.2.1,z.2.2.2.1,fun b o y I=>z.2.2.2.2.1 b o y,z.2.2.2.2.2⟩) (gb fun I=>gb fun I=>gb fun I z=>⟨bl xQ z.1,z.2.1,z.2.2.1,z.2.2.2.1,z.2.2.2.2.1,fun b o y I=>z.2.2.2.2.2 b o y⟩)
end
section
set_option maxHeartbeats 0
theorem oj.PQ (bQ:oj G):∀t∈gh,G t=B (vC #[]):=fun t m=>by
 cases m with
 |head=>exact bQ.eM
 |tail _ m=>exact df.mp m▸bQ.dt
theorem oj.pF (bQ:oj G):∀t∈l9,∃o,G t=B o:=fun t m=>by
 rcases cV.mp m with rfl|m
 ·exact iR.mp bQ.s1
 ·exact⟨_,bQ.PQ t m⟩
theorem oj.apX (bQ:oj G)(k:∀a o,G a=B o→g.b.get? a=B o):aR g g.b [] [] []:=
 ⟨fun I I e I=>e,fun t m=>⟨#[],[],k _ _ (bQ.PQ t m),rfl,fun I m=>nomatch m⟩,fun t m=>(bQ.pF t m).imp fun o=>k t o,Ek,fun I m=>(nomatch m),fun I m=>(nomatch m),rfl,fun I I I e=>nomatch e⟩
theorem qd.apY (F:qd g KF tab fx):∀t∈gh,isCodeTable g.b t:=fun t m=>by
 have go:∀{c P},AL g.b c P→isCodeTable g.b P:=fun {c P} h=>⟨c,h.imp fun o=>gb fun vs h=>h.elim fun I h=>h.elim fun I h=>h.elim fun I h=>h.elim fun I h=>h.elim fun I h=>h.elim fun I h=>h.elim fun I h=>⟨h.1,h.2.1,h.2.2.1,h.2.2.2.1⟩⟩
 rcases cV.mp m with rfl|m
 ·exact go F.lam.iW
 ·exact Y (df.mp m) (go F.lam.k9)
theorem apZ:∀{vs:J au} {ns:J aq},IntsAre vs ns→cp g h N O (ns.map .ac) vs:=by
 intro vs ns r8
 induction r8 with
 |nil=>exact .mk
 |cons n t _ az=>exact .mk (.mk t) az
set_option tactic.hygienic true in
theorem ap0 {d:EU}(ul:d.name="law"):PM pg Ix (fun I I=>g4) (fun s:a3=>DC s.heap.get?) (fun I=>Iw) nv.row.toRowW d qq:=by
 intro w iN aB dr fM G y dG o wn cd doc DD DE bC hd tK ke ap1 aV args vals as L ap2 ap3 ap4 ap5 ap6
 wrow_args ap2 ap3 ap4 ap5 ap6
 rename_i ns aG hlay0 hL1 t4 hl2 as1 as2 p vs as3 NZ vX w1 Ym r8 aL hc1 hc2
 clear aG hlay0 hL1 t4 hl2 vX w1 Ym aL hc2
 have k:=L.keeps
 have bQ:=apO y
 have F:=bQ.apK (g:=⟨w,nv.row.prog,aB.heap⟩) k
 have jL:dG=486:=by
  obtain⟨ap7,aq7,mr,jM,Iv⟩:=F.iY
  have aT:dr=ap7:=G.T.g.eq_nsMap.trans mr.eq_nsMap.symm
  have aN:=Iv.fn 58 "law" rfl rfl
  rw[←aT,←ul,ap1] at aN
  exact tI (bo aN)
 subst jL
 have op:=script_obj L NZ
 have off:hs [] [] p:=⟨fun m=>(nomatch m),fun m=>(nomatch m),fun m=>by
  obtain⟨o,e⟩:=bQ.pF p m
  exact Ao _ ((script_at L).1▸py e)⟩
 have C:fc callerA 10 [] aB.heap:=⟨rfl,by decide,by decide,⟨[],rfl,fun I m=>nomatch m⟩,fun I m=>nomatch m⟩
 have run:=ajF (g:=⟨w,nv.row.prog,aB.heap⟩) (l:=10) (f:=58) (K:=fun d I=>d=.be af) (X:=fun I=>bt) F (s:=aB) C (bQ.apX k) (ds:=[.aP (ns.map .ac)]) (vs:=[.ref p]) (.mk (.mk off (.mk (vs:=vs) (n:=0) op (apZ r8))) .mk)
  (apa (l:=0) (Am fun h=>hc1 (h7.mpr h)) (fun I=>rfl) 10 (a8 _))
 refine ew run (fun v ar x=>?_) fun e ar x=>?_
 ·cases x with|mk st H r kk=>
  cases kk
  cases r with|mk t=>
  refine⟨.inl ⟨.bool af,.bool af,[],rfl,fun I=>rfl,.bool af,by wrow_post,fun I=>⟨Ek,fun I m=>nomatch m⟩⟩,⟨fun b o e=>?_,st.e8.ey⟩,st.hv.2.2,.of_eq (st.hv.1.trans aV)⟩
  by_cases m:b∈gh
  ·obtain⟨GI,dB,aT,_⟩:=H.AX b m
   cases bo (e.symm.trans (k _ _ (bQ.PQ b m)))
   exact .inr (.inl ⟨F.apY b m,rfl, #[],GI,rfl,by rw[Array.empty_append];exact aT⟩)
  ·exact .inl ((st.e8.cw b o e (fun m=>nomatch m) (fun m=>nomatch m) m).pH fun m=>nomatch m)
 ·cases x with|mk a b c d=>exact d.elim
theorem ap8:LeftO nv.row.prog pg Ix (fun I=>af) (fun s:a3=>DC s.heap.get?) (fun I=>Iw) 6044:=fun w=>by
 have h:=apP w
 unfold w' T0 at h
 refine(iu.mp (Fast.te4187177175401517315.symm▸(Fast.te10274390034422433532.symm▸(Fast.te14364793385576792824.symm▸(Fast.te11892475500146522536.symm▸(Fast.te10156331382660048174.symm▸h)))))).elim fun t cj=>cj.elim fun aT aN=>?_
 refine iu.mpr ⟨t.abs,apc aT,?_⟩
 exact Jw (Aq aN).1 ((bl DC (apd t)).trans (Aq aN).2)
end
end Internal
set_option maxHeartbeats 0 in
theorem PySem.Challenge.cw_og0268_01_holds : PySem.Challenge.rw_og0268_01.Holds :=
 ⟨Internal.u',Internal.apT Internal.ap8 (fun I I=>cy) (fun I I I I I=>cy) (QX Internal.u9).symm Internal.apL Internal.apM (fun I I=>recFacts_nil rfl) rfl (row_said Internal.u') Internal.jH Internal.apN Internal.prom (Internal.ap0 (defOf_name (QX Internal.u9).symm))⟩
end
