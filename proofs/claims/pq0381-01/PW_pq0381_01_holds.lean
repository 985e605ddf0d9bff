import PyProof.Rows.All
import PyProof.P3Statements
import PyProof.ExcBaseAll.Exception
import PyProof.ExcClass3
import PyProof.ExcInit
import PyProof.InstStoreFacts
import PyProof.ObjNew
import PyProof.Rows.KernelRfl
import Open.Line
import KE.KSuperObj
import KE.KSuper
import Wide.FinOn
import OpenK.AllK
import Wide.All
import PySem.Challenge.RW_pq0381_01
set_option Elab.async false
set_option backward.match.sparseCases false
set_option tactic.hygienic false
set_option maxRecDepth 100000
set_option linter.all false
set_option autoImplicit false
set_option maxHeartbeats 4000000
open Array renaming length_toList→aM,getElem?_eq_getElem→bV,getElem?_toList→cD,getElem?_eq_none→ef,toList_append→gX,toArray_toList→kF,mk→kG,toList_push→lC,any_toList→lV
open Bool renaming and_eq_true→aw,casesOn→aJ,or_eq_true→bZ,false_ne_true→cj,noConfusion→dA,false_or→eT,and_true→eU,false_eq_true→fA,and_false→fB,and_eq_true_iff→gP,true_and→hO,and_comm→hU,false_and→jx,and_assoc→jy,not_eq_true'→lU,or_false→m9,or_assoc→nc,not_or→oh
open Classical renaming byContradiction→iL
open Decidable renaming of_not_not→jG
open Eq renaming trans→nD
open Fin renaming cases→j8
open ForInStep renaming yield→dg
open Int renaming natCast_nonneg→bq,zero_mul→bI,le_trans→bO,zero_add→b8,ofNat_le→b9,ofNat→cS,not_lt→dt,add_le_add_left→dz,negSucc→d9,toNat_natCast→en,ofNat_lt→eo,mul_le_mul_of_nonneg_left→eX,eq_ofNat_of_zero_le→gk,ne_of_gt→gE,one_mul→gV,mul_one→gW,mul_assoc→hZ,add_assoc→ia,sub_eq_add_neg→iw,add_zero→iE,lt_of_not_ge→iU,mul_add→i6,le_refl→i7,le_of_add_le_add_right→jE,fdiv→jF,toNat_lt→kC,sub_nonneg_of_le→kX,fmod→kY,toNat_of_nonneg→lA,lt_of_lt_of_le→lR,lt_of_le_of_lt→lS,add_left_comm→l6,max_eq_right→mr,min_eq_left→mK,le_antisymm→mL,neg_le_neg→m8,ofNat_sub→nB,mul_zero→nY,add_mul→oy
open List renaming prefix_refl→ao,length_append→av,mem_cons_self→az,mem_cons_of_mem→aA,length_map→aK,lookup_cons→aU,getElem?_eq_getElem→aW,append_nil→aY,map_cons→a6,append_assoc→a8,length_cons→bc,not_mem_nil→bf,mem_cons→bk,size_toArray→bo,map_append→bw,sizeOf_lt_of_mem→bz,length_singleton→bA,casesOn→bN,getElem?_append_left→bW,mem_of_getElem?→cg,map_reverse→ct,length_set→cG,take_of_length_le→cJ,nodup_cons→cN,zip_cons_cons→de,getElem?_append_right→df,mem_of_find?_eq_some→dk,drop_eq_getElem_cons→dm,length_reverse→dw,map_map→dE,getElem?_concat_length→dO,flatMap_cons→dP,length_take→dZ,mem_singleton→d8,getElem?_map→ei,drop_eq_nil_of_le→ej,all_cons→eQ,nil_append→eY,forIn_cons→eZ,prefix_append→fw,contains_cons→fy,reverse_cons→fL,length→fM,getElem?_take_of_lt→fQ,take_length→fX,filter_cons→fY,append_cons→fZ,of_mem_zip→gB,find?_some→gC,mem_append_right→gG,getElem?_eq_none→gH,lookup→gM,map_eq_flatMap→g9,flatMap_append→hA,zip_map_right→hX,foldl_append→iz,getElem_mem→iI,all_eq_true→iJ,eq_nil_of_length_eq_zero→iS,replicate→js,range→jt,getD_eq_getElem?_getD→ju,foldl→jv,findIdx?_eq_none_iff→jD,map_take→jP,length_filterMap_le→jQ,filterMap_cons_some→jR,filterMap_cons_none→jS,lookup_eq_none_iff→jZ,getElem?_set_self→j5,all_map→j6,set_append_right→kz,length_filter_le→kA,dropLast_eq_take→kB,mem_append_left→kJ,toList_toArray→kS,reverse_append→kT,map_congr_left→kU,pairwise_cons→lx,zipIdx_cons→l4,length_drop→l5,zipIdx_nil→mh,nil_prefix→mi,mem_append→mj,length_nil→ml,all_append→mn,take_left→mG,nodup_nil→mH,forIn_nil→mI,drop_zero→mJ,take_nil→m7,map_id'→nA,range'→nW,head?→ow
open List.Pairwise renaming imp→gD,and→nX
open List.Perm renaming refl→kW
open List.cons renaming injEq→kK,inj→ly
open Nat renaming le_of_eq→ak,succ_le_succ→ax,le_trans→aB,le_refl→aL,sub_le→aP,le_antisymm→aZ,ne_of_lt→a5,ne_of_gt→bj,mul_le_mul_left→bt,le_of_succ_le→bD,zero_mul→bF,le_add_right_of_le→bG,beq→bH,le_add_right→bJ,zero_le→bL,sub_add_cancel→ck,add_le_add→cp,le_add_left→cq,lt_of_le_of_lt→cI,zero_add→cL,le_of_ble_eq_true→cP,lt_of_lt_of_le→di,add_le_add_left→dy,min_le_right→dC,lt_irrefl→dK,mul_le_mul_right→dS,le_succ→dT,lt_succ_self→d1,add_assoc→d6,eq_of_beq_eq_true→eA,add_sub_cancel→fH,le_succ_of_le→fP,not_le_of_lt→gh,le_of_not_lt→gj,sub_self→gz,le_of_lt→gA,min_eq_left→gF,mul_assoc→hW,add_right_comm→ir,zero_lt_of_lt→iD,succ_ne_zero→iQ,lt_of_not_le→iR,one_mul→iY,mul_add→iZ,casesOn→i0,not_lt_zero→jh,min_le_left→ji,mod_lt→jC,mul_comm→kq,lt_trans→kr,lt_or_ge→ku,add_comm→kx,one_pos→kR,add_sub_cancel'→lu,lt_of_lt_of_eq→lO,ble_eq→lP,lt_succ_of_lt→lY,le_of_lt_succ→lZ,ble→l0
open Ne renaming symm→b3
open Option renaming none→aC,map→cO,casesOn→cT,map_eq_some_iff→c9,map_some→eV,getD_none→lq
open Option.some renaming inj→ai
open Prod renaming ext→jr
open Prod.mk renaming injEq→et,inj→jY
open PyProof.Rows renaming IntsAre→gU,len_tuple→iH,neg_int→iX,tail_any→ja,getMethod_list_of→jb,Subscript_→ko,Attribute_any_→kE,Call_Name→lB,seqObj→lF,IsTup→mq,slot_tuple_getitem→mR,assign_Tuple_tuple→mV,sub_int→om,mul_int→oo,getItem_tuple→oq,add_int→ou
open PyProof.Rows.F renaming entry_set_update_loop→fO,plain_set_update_loop→nv
open PyProof.Rows.IntsAre renaming length→iT
open PySem renaming wpAny_bind→ae,Value→ag,Shared→ah,wpAny_pure→aj,Addr→ay,Expr→aI,Comprehension→aR,wpAny_newObj_type→aV,Around→aX,wpAny_holding→a7,wpAny_field→bg,wpAny_standAt→bh,Params→bB,wpAny_call_entry→bE,NameKind→bM,Heap→bP,World→bQ,mainGlobals→bT,wpAny_callSpecial?_slot→bU,wpAny_loadPart_at→bX,Program→b0,wpAny_setField→cv,wpAny_of_eq→cw,wpAny_loadName_local→cx,recursionLimit→cy,codeAny_of_tree→cz,wpAny_mono→cE,codeAny→cF,builtinLookup_eq_fast→cU,Stmt→cW,builtinsNs→cX,assignEach→cY,Builtin→c0,rawInt→c7,notedBy→dh,isSubtype_type→dp,codeAny_builtin→du,starEach→dv,wpAny_onRaise→dB,intKind→dD,wpAny_seqItems→dG,sizeLine→dH,excClassObj→dJ,wpAny_setField_rec→dM,wpAny_Constant_int→dN,typeLookup_type→dQ,wpAny_attempt→dR,wpAny_truthy_bool→dU,wpAny_setState_of→dW,foldedSetIterable→dX,wpAny_Name→d2,wpAny_askSetting→d4,wpAt_of_wpAny→ed,ExceptHandler→ee,wpAny_specialOf→eg,IsPair→el,valueAt→ez,wpAny_bindName→eD,firstArgMember→eE,callEnv→eJ,bindArgs→eM,SetTable→eN,Result→eO,OsState→eP,GenState→eR,wpAny_rule→fb,wpAny_isInstance→fc,wpAny_call→fe,Scope→ft,Operator→fu,CmpOp→fv,wpAny_execs_nil→fC,theTreesLotGoes→fD,wpAny_typeOf→fI,holding→fJ,cellsFrom→fN,typeLookup→fS,compPost→fU,FuncData→fV,wpAny_pyIter_slot→gm,wpAny_pyIter_list→gp,wpAny_noted→gq,swappedStores→gv,backTo→gx,PyData→gy,treeTable→gJ,standAt→gQ,importedModules→gY,wpAny_storeName_local→hJ,ks_codeAny_call_defAt→hM,wpAny_updateSeq_pair→ig,wpAny_loadPart→ij,sizeLine_eq→ik,codeAny_call_builtin→ip,cLine→iq,IsZip→iv,isSubtype→iy,wpAny_setEntries_of→iA,wpAny_isSubtype_exc→iB,methodCallPos→iF,strKind_is→iM,ks_wpAt_execs_cons→iN,isInstance→iO,cameBackBy→iP,wpAny_runOwn→i9,entryFor→jc,codeAny_mono→jd,plainObj_wpAny_Assign_Attribute→jn,wpAny_madeBy_exc→jz,entryFor_of_tree→jA,ClassData→jH,wpAny_throw→jI,wpAny_letGo→jJ,subscripted→jK,truthy→jW,isTrue→jX,Keyword→j7,typeIs_int→j9,sysModules→ka,methodCallForm→kd,keeperOf→ke,isSubtype_stop→kf,intKind_is→kg,entryFor_alias→ki,call_meets→kj,Draws→kD,wpAny_check_type_call_sub→kH,codeAny_call_builtin_code→kI,wpAny_handled→kN,plainId_quiet→kO,Flow→kZ,wpAny_list_append_plain→k9,swapsWith→lg,codeAny_call_builtin_at→lj,wpAny_mkText→lD,typeOf→lE,callType_new→lH,assignStores→lI,argsOk→lJ,Thread→lK,ItemsOf→lQ,firstIter→lW,sliceBounds→l9,wpAny_loadName_free→mz,wpAny_loadName_cell→mA,builtinType_eq_fast→mB,frameOf→mE,wpAny_pyIter_tuple→mO,wpAny_madeHere_exc→mP,wpAny_load→mQ,runOwn→mS,excMatches→mU,passOn→mX,wpAny_Return_some→nf,wpAny_Assign_Name→ng,operate→nh,callAny→nq,UnaryOp→nu,Const→nE,wpAny_execs_cons→nH,seqIndex?→nK,pickOrder→nO,opaqueClassAbove→nP,onTheHeap→nQ,noFill_tuple_add→nR,wpAny_ite_split→oi,letOwnedTupleGo→oj
open PySem.BindsTo renaming of_eq→jm
open PySem.BoolOp renaming casesOn→iW
open PySem.Builtin.Frozenset renaming updateFrom→mu
open PySem.Builtin.List renaming listTooLong→oB,listLengthHint→oC,listFitsIndex→oF
open PySem.Builtin.Range renaming rangeSize→dj,small→fW
open PySem.Builtin.Slice renaming slicePlaces→dI,sliceAdjust→ie,sliceApplied→og
open PySem.Builtin.SmallTypes renaming newRecord→l7
open PySem.Builtin.Tuple renaming tupleExact→dc,tupleCompareSizes→gI,tupleItemsOf→ob
open PySem.Calls renaming spliced_cons→cZ,spliced_nil→er,evalArgs_plain→eI,Name_function_global→iu,Constant_str→lT,loadGlobal_builtin→mT,loadGlobal_global→ni
open PySem.Challenge renaming rw_pq0381_01→mY,pw_pq0381_01→mZ
open PySem.Code renaming quiet_builtin→dF,builtin→nG
open PySem.Const renaming casesOn→gd
open PySem.Data renaming dict→iK,seq→kL,cls→kM
open PySem.Draws renaming list→n9
open PySem.Expr renaming casesOn→aQ,List→gb,Tuple→ic
open PySem.F renaming excBase_Exception→iV,slot_list_extend→jf,args_tuple_add_2→jg,entry_tuple_add→jo,slot_tuple_add→jB,slot_set_iter→jL,slot_list_pop→jM,slot_int_rmul→jN,objNew→lN
open PySem.Flow renaming next→dq,ret→gN
open PySem.Heap renaming get?_push_of_some→aq,get?_push_size→aF,lt_size→aS,get?_update_self→bu,get?_update_other→cu,size_push→cK,get?_push_at→dr,get?_none_of_le→eW,get?_update_ne→fj,SameBut→fm,SlotsOnly→mM,MadeExcOf→mN,ExtBut→nZ
open PySem.Heap.DictOf renaming mapOf→jU
open PySem.Heap.IsSliceOf renaming new→nC
open PySem.Heap.SameBut renaming update→bK,refl→oz
open PySem.Keeper renaming boundFrame→hY,machine→i5,frame→jT
open PySem.NameKind renaming free→cB
open PySem.Obj renaming data_mapFields→bS,isFreed_of_fields→b6,mapFields→da,cls_mapFields→lX,putName→ov
open PySem.Operator renaming casesOn→fk
open PySem.PyData renaming keyHash→aE,eqv→a9,strOk→b4,depthAll→d3,list→d5,canLayAll0→hV,eqvAll→jq,tuple→jO,int→ny
open PySem.SetTable renaming below→cA,insertAt→d7,bits→gL,has→gZ,probeStart→jV,runEnd→kQ,fits→lL,fill→lM
open PySem.SetTable.probe renaming go→gK
open PySem.Shared renaming heap→mW,mk→nV
open PySem.Str renaming ofString→aa,empty→cM
open PySem.UnaryOp renaming casesOn→fG
open PySem.Value renaming str→aG,ref→aH,type→bC,none→cf,int→cH,builtin→cQ,bool→ew,casesOn→gc
open PySem.W renaming look_both→br,dictOf→bY,Looks→dY,findIn→eH,boot_heap→ff,looks_mroIn→fq,Looks→fE,SharedT→fK,dictOf→fT,looks_clsIn→gr,callWith_of→gu,looks_findIn→gT,through→j0,boot_drawn→kl,WData→km,namesMeet→lh,boot_toks→ll,mroIn→mc,findObj→nj,WellAll→nr,set_plain→nJ,methodObj→nU
open PySem.W.Fast renaming te14364793385576792824→fo,tw14364793385576792824→jj,tw11892475500146522536→jk,tw10156331382660048174→jl,tw6613529449190102663→jw
open PySem.W.Looks renaming ld→ky,of_pure→mF
open PySem.W.WData renaming int→iC,bool→je
open PySem.W.WShape renaming hasItems→iG,has→nt
open PySem.Walks renaming list→kP
open PySem.pickOrder renaming go→lG
open _root_ renaming List→af,Option→au,congrArg→aD,Bool→aN,if_pos→aO,if_neg→aT,Array→bx,of_decide_eq_true→bR,decide_eq_true→b5,NeZero→b7,beq_self_eq_true→cC,String→cR,Unit→cV,or_false→dn,decide_eq_false→eh,False→eu,beq_iff_eq→fg,True→fh,Decidable→fR,inferInstance→gw,not_or→gR,if_false→kh,congrFun→me,beq_eq_false_iff_ne→mD,decide_eq_true_eq→nk
set_option genInjectivity false
set_option genSizeOf false
set_option genCtorIdx false
namespace Internal
section
inductive E where
 |x|y|z|w
 |n(k:Nat)
 |a(e f:E)
 |m(k:Nat)(e:E)
 |g(k:Nat)
 |s(e f:E)
noncomputable def E.v(x y z w:Nat)(e:E):Nat:=E.rec (motive:=λu_=>Nat) x y z w (λk=>k) (λu_ u_ a b=>a+b) (λk u_ a=>k*a) (λu_=>0) (λu_ u_ a u_=>a) e
noncomputable def E.k(x y z w c:Nat)(e:E):Nat:=E.rec (motive:=λu_=>Nat) x y z w (λk=>k*c) (λu_ u_ a b=>a+b) (λk u_ a=>k*a) (λu_=>0) (λu_ u_ a u_=>a) e
noncomputable def E.le(p q:E):aN:=(p.k 1 0 0 0 0).ble (q.k 1 0 0 0 0)&&((p.k 0 1 0 0 0).ble (q.k 0 1 0 0 0)&&((p.k 0 0 1 0 0).ble (q.k 0 0 1 0 0)&&((p.k 0 0 0 1 0).ble (q.k 0 0 0 1 0)&&(p.k 0 0 0 0 1).ble (q.k 0 0 0 0 1))))
@[elab_as_elim] theorem rg{α:Sort _}{a b:α}{motive:α->Prop}(h:a=b)(e:motive b):motive a:=Eq.ndrec (motive:=motive) e h.symm
@[elab_as_elim] theorem rl{α:Sort _}{a b:α}{motive:α->Prop}(h:a=b)(e:motive a):motive b:=Eq.ndrec (motive:=motive) e h
theorem sa(a b x r s:Nat):a*x+r+(b*x+s)=(a+b)*x+(r+s):=by rw[Nat.add_mul,Nat.add_add_add_comm]
theorem E.ok(x y z w:Nat)(e:E):e.v x y z w=e.k 1 0 0 0 0*x+(e.k 0 1 0 0 0*y+(e.k 0 0 1 0 0*z+(e.k 0 0 0 1 0*w+e.k 0 0 0 0 1))):=by
 induction e with
 |x=>show x=1*x+_;rw[iY];show x=x+(0*y+(0*z+(0*w+0)));rw[bF,bF,bF];rfl
 |y=>show y=0*x+(1*y+(0*z+(0*w+0)));rw[bF,bF,bF,iY,cL];rfl
 |z=>show z=0*x+(0*y+(1*z+(0*w+0)));rw[bF,bF,bF,iY,cL,cL];rfl
 |w=>show w=0*x+(0*y+(0*z+(1*w+0)));rw[bF,bF,bF,iY,cL,cL,cL];rfl
 |n k=>show k=k*0*x+(k*0*y+(k*0*z+(k*0*w+k*1)));rw[Nat.mul_zero,bF,bF,bF,bF,Nat.mul_one,cL,cL,cL,cL]
 |a e f h g=>exact(congr (aD Nat.add h) g).trans ((sa ..).trans (aD _ ((sa ..).trans (aD _ ((sa ..).trans (aD _ (sa ..)))))))
 |m k e h=>exact(aD (Nat.mul k) h).trans (by show k*_=k*_*_+(k*_*_+(k*_*_+(k*_*_+k*_)));rw[iZ,iZ,iZ,iZ,hW,hW,hW,hW];rfl)
 |g k=>show 0=0*x+(0*y+(0*z+(0*w+0)));rw[bF,bF,bF,bF]
 |s e f h _=>exact h
theorem ba{a b:aN}(h:(a&&b)=true):a=true/\b=true:=(aw a b).mp h
theorem CI{x y z w:Nat}(p q:E)(h:E.le p q=true):p.v x y z w<=q.v x y z w:=by
 have a:=ba h;have b:=ba a.2;have c:=ba b.2;have d:=ba c.2;rw[E.ok,E.ok];exact cp (dS _ (cP a.1)) (cp (dS _ (cP b.1)) (cp (dS _ (cP c.1)) (cp (dS _ (cP d.1)) (cP d.2))))
theorem Lm{x y z w:Nat}(p1 o p q:E)(h:E.le (.a p o) (.a q p1)=true)(g:p1.v x y z w<=o.v x y z w):p.v x y z w<=q.v x y z w :=
 Nat.le_of_add_le_add_right (aB (CI _ _ h:p.v x y z w+o.v x y z w<=q.v x y z w+p1.v x y z w) (dy g _))
theorem S4{x y z w:Nat}(p1 o p2 A p q:E)(h:E.le (.a p (.a o A)) (.a q (.a p1 p2))=true)(g:p1.v x y z w<=o.v x y z w)(g2:p2.v x y z w<=A.v x y z w):p.v x y z w<=q.v x y z w :=
 Lm (.a p1 p2) (.a o A) p q h (cp g g2)
theorem CJ{x y z w:Nat}(p1 o p2 A C D p q:E)(h:E.le (.a p (.a o (.a A D))) (.a q (.a p1 (.a p2 C)))=true)(g:p1.v x y z w<=o.v x y z w)(g2:p2.v x y z w<=A.v x y z w)(g3:C.v x y z w<=D.v x y z w):p.v x y z w<=q.v x y z w :=
 S4 p1 o (.a p2 C) (.a A D) p q h g (cp g2 g3)
theorem BM{x y z w:Nat}(p1 o p2 A C D p4 H p q:E)(h:E.le (.a p (.a o (.a A (.a D H)))) (.a q (.a p1 (.a p2 (.a C p4))))=true)(g:p1.v x y z w<=o.v x y z w)(g2:p2.v x y z w<=A.v x y z w)(g3:C.v x y z w<=D.v x y z w)(g4:p4.v x y z w<=H.v x y z w):p.v x y z w<=q.v x y z w :=
 CJ p1 o p2 A (.a C p4) (.a D H) p q h g g2 (cp g3 g4)
theorem R4{x y z:Nat}(p q:E)(h:E.le p q=true):p.v x y z 0<=q.v x y z 0:=CI p q h
theorem xb{x y:Nat}(p q:E)(h:E.le p q=true):p.v x y 0 0<=q.v x y 0 0:=CI p q h
theorem sO{x:Nat}(p q:E)(h:E.le p q=true):p.v x 0 0 0<=q.v x 0 0 0:=CI p q h
theorem ye{x y z:Nat}(p1 o p q:E)(h:E.le (.a p o) (.a q p1)=true)(g:p1.v x y z 0<=o.v x y z 0):p.v x y z 0<=q.v x y z 0:=Lm p1 o p q h g
theorem pZ{x y:Nat}(p1 o p q:E)(h:E.le (.a p o) (.a q p1)=true)(g:p1.v x y 0 0<=o.v x y 0 0):p.v x y 0 0<=q.v x y 0 0:=Lm p1 o p q h g
theorem qu{x:Nat}(p1 o p q:E)(h:E.le (.a p o) (.a q p1)=true)(g:p1.v x 0 0 0<=o.v x 0 0 0):p.v x 0 0 0<=q.v x 0 0 0:=Lm p1 o p q h g
theorem uJ{x y z:Nat}(p1 o p2 A p q:E)(h:E.le (.a p (.a o A)) (.a q (.a p1 p2))=true)(g:p1.v x y z 0<=o.v x y z 0)(g2:p2.v x y z 0<=A.v x y z 0):p.v x y z 0<=q.v x y z 0:=S4 p1 o p2 A p q h g g2
theorem vS{x y:Nat}(p1 o p2 z p q:E)(h:E.le (.a p (.a o z)) (.a q (.a p1 p2))=true)(g:p1.v x y 0 0<=o.v x y 0 0)(g2:p2.v x y 0 0<=z.v x y 0 0):p.v x y 0 0<=q.v x y 0 0:=S4 p1 o p2 z p q h g g2
theorem Pa{x y z:Nat}(p1 o p2 A C D p q:E)(h:E.le (.a p (.a o (.a A D))) (.a q (.a p1 (.a p2 C)))=true)(g:p1.v x y z 0<=o.v x y z 0)(g2:p2.v x y z 0<=A.v x y z 0)(g3:C.v x y z 0<=D.v x y z 0):p.v x y z 0<=q.v x y z 0:=CJ p1 o p2 A C D p q h g g2 g3
theorem sb{k M:Nat}(h:k<=M):M=M-k+k:=(ck h).symm
noncomputable def E.i(x y z w:Int)(e:E):Int:=E.rec (motive:=λu_=>Int) x y z w (λk=>cS k) (λu_ u_ a b=>a+b) (λk u_ a=>cS k*a) (λk=>d9 k) (λu_ u_ a b=>a-b) e
noncomputable def E.j(x y z w c:Int)(e:E):Int:=E.rec (motive:=λu_=>Int) x y z w (λk=>cS k*c) (λu_ u_ a b=>a+b) (λk u_ a=>cS k*a) (λk=>d9 k*c) (λu_ u_ a b=>a-b) e
noncomputable def E.il(p q:E):aN:=decide (p.j 1 0 0 0 0=q.j 1 0 0 0 0)&&(decide (p.j 0 1 0 0 0=q.j 0 1 0 0 0)&&(decide (p.j 0 0 1 0 0=q.j 0 0 1 0 0)&&(decide (p.j 0 0 0 1 0=q.j 0 0 0 1 0)&&decide (p.j 0 0 0 0 1<=q.j 0 0 0 0 1))))
theorem si(a b x r s:Int):a*x+r+(b*x+s)=(a+b)*x+(r+s):=by rw[oy,ia,ia,l6 r]
theorem ti(a b x r s:Int):a*x+r-(b*x+s)=(a-b)*x+(r-s):=by rw[Int.sub_mul,iw,iw,iw,Int.neg_add,ia,ia,l6 r]
theorem E.iok(x y z w:Int)(e:E):e.i x y z w=e.j 1 0 0 0 0*x+(e.j 0 1 0 0 0*y+(e.j 0 0 1 0 0*z+(e.j 0 0 0 1 0*w+e.j 0 0 0 0 1))):=by
 induction e with
 |x=>show x=1*x+(0*y+(0*z+(0*w+0)));rw[gV,bI,bI,bI];exact(iE x).symm
 |y=>show y=0*x+(1*y+(0*z+(0*w+0)));rw[gV,bI,bI,bI,b8];exact(iE y).symm
 |z=>show z=0*x+(0*y+(1*z+(0*w+0)));rw[gV,bI,bI,bI,b8,b8];exact(iE z).symm
 |w=>show w=0*x+(0*y+(0*z+(1*w+0)));rw[gV,bI,bI,bI,b8,b8,b8];exact(iE w).symm
 |n k=>show cS k=cS k*0*x+(cS k*0*y+(cS k*0*z+(cS k*0*w+cS k*1)));rw[nY,bI,bI,bI,bI,gW,b8,b8,b8,b8]
 |g k=>show d9 k=d9 k*0*x+(d9 k*0*y+(d9 k*0*z+(d9 k*0*w+d9 k*1)));rw[nY,bI,bI,bI,bI,gW,b8,b8,b8,b8]
 |a e f h g=>exact(congr (aD Int.add h) g).trans ((si ..).trans (aD _ ((si ..).trans (aD _ ((si ..).trans (aD _ (si ..)))))))
 |s e f h g=>exact(congr (aD Int.sub h) g).trans ((ti ..).trans (aD _ ((ti ..).trans (aD _ ((ti ..).trans (aD _ (ti ..)))))))
 |m k e h=>exact(aD (Int.mul (cS k)) h).trans (by show(cS k)*_=(cS k)*_*_+((cS k)*_*_+((cS k)*_*_+((cS k)*_*_+(cS k)*_)));rw[i6,i6,i6,i6,hZ,hZ,hZ,hZ];rfl)
theorem S5{x y z w:Int}(p q:E)(h:E.il p q=true):p.i x y z w<=q.i x y z w:=by
 have a:=ba h;have b:=ba a.2;have c:=ba b.2;have d:=ba c.2;rw[E.iok,E.iok,bR a.1,bR b.1,bR c.1,bR d.1];exact dz (dz (dz (dz (bR d.2) _) _) _) _
theorem Yl{x y:Int}(p1 o p q:E)(h:E.il (.a p o) (.a q p1)=true)(g:p1.i x y 0 0<=o.i x y 0 0):p.i x y 0 0<=q.i x y 0 0 :=
 jE (bO (S5 _ _ h:p.i x y 0 0+o.i x y 0 0<=q.i x y 0 0+p1.i x y 0 0) (dz g _))
theorem vf{x:Int}(p1 o p q:E)(h:E.il (.a p o) (.a q p1)=true)(g:p1.i x 0 0 0<=o.i x 0 0 0):p.i x 0 0 0<=q.i x 0 0 0:=Yl p1 o p q h g
theorem Ym{x y z w:Int}(p1 o p2 A p q:E)(h:E.il (.a p (.a o A)) (.a q (.a p1 p2))=true)(g:p1.i x y z w<=o.i x y z w)(g2:p2.i x y z w<=A.i x y z w):p.i x y z w<=q.i x y z w :=
 jE (bO (S5 _ _ h:p.i x y z w+(o.i x y z w+A.i x y z w)<=q.i x y z w+(p1.i x y z w+p2.i x y z w)) (dz (Int.add_le_add g g2) _))
theorem R5{x y:Int}(p1 o p2 z p q:E)(h:E.il (.a p (.a o z)) (.a q (.a p1 p2))=true)(g:p1.i x y 0 0<=o.i x y 0 0)(g2:p2.i x y 0 0<=z.i x y 0 0):p.i x y 0 0<=q.i x y 0 0:=Ym p1 o p2 z p q h g g2
theorem S6{i:Int}(h:i=0\/i=1\/i=2):0<=i:=by rcases h with h|h|h<;>subst h<;>decide
theorem VD{i:Int}(h:i=0\/i=1\/i=2):i<=2:=by rcases h with h|h|h<;>subst h<;>decide
theorem S7{i:Int}(h:i=0\/i=1):0<=i:=by rcases h with h|h<;>subst h<;>decide
theorem VX{i:Int}(h:i=0\/i=1):i<=1:=by rcases h with h|h<;>subst h<;>decide
theorem below{P:Int->Prop}(n:Nat)(r:Int)(h:0<=r)(h':r<n)(k:∀i:Nat,i<n->P i):P r:=by
 obtain⟨i,rfl⟩:=gk h;exact k i (eo.1 h')
theorem fz{P:Nat->Prop}:∀i:Nat,i<0->P i:=λi h=>absurd h (jh i)
theorem fs{P:Nat->Prop}{n:Nat}(h:∀i,i<n->P i)(k:P n):∀i,i<n+1->P i:=λi hi=>(Nat.lt_succ_iff_lt_or_eq.mp hi).elim (h i) λe=>e▸k
theorem VY{i:Int}{n:Nat}(h1:-(n:Int)<=i)(h2:i<=n):i.natAbs<=n:=by
 cases i with
 |ofNat k=>exact b9.1 h2
 |negSucc k=>exact b9.1 (Int.neg_le_neg_iff.1 h1)
theorem VZ(i:Int):(if i<0 then -i else i)=(i.natAbs:Int):=by
 cases i with
 |ofNat k=>exact aT (dt.2 (bq _))
 |negSucc k=>exact aO (Int.negSucc_lt_zero k)
theorem m5{t i f a g:Nat}(h:1+t+i+f+a<g):t<g/\i<g/\f<g :=
 ⟨cI (bG (bG (bG (cq t 1)))) h,cI (bG (bG (cq i _))) h,cI (bG (cq f _)) h⟩
theorem m6{e g s p n:Nat}(h:1+e+g+s+p<n+1):e<n/\g<n :=
 ⟨di (lO (d1 e) (kx e 1)) (aB (bG (bG (bJ _ g))) (lZ h)),
  di (Nat.lt_add_of_pos_left (di kR (bJ 1 e))) (aB (bG (bJ _ s)) (lZ h))⟩
theorem mm(a b:Nat):max 0 (min (a:Int) (b:Int))=((min a b:Nat):Int):=by
 refine(Nat.le_total a b).elim (λh=>?_) (λh=>?_)
 ·rw[gF h,mK (b9.2 h)];exact mr (bq _)
 ·rw[Nat.min_eq_right h,Int.min_eq_right (b9.2 h)];exact mr (bq _)
theorem na{i:Int}{n:Nat}(h0:0<=i)(h:i<n):i.natAbs<n:=eo.1 ((Int.natAbs_of_nonneg h0).symm▸h)
theorem sb2{M a b:Nat}(h:a+b<=M):∃m,M=m+a+b:=⟨M-(a+b),by rw[d6,ck h]⟩
theorem rs(a b:Int):(if a<b then b-a else 0)=((b-a).toNat:Int):=by
 split
 ·rename_i h;exact(lA (kX (Int.le_of_lt h))).symm
 ·rename_i h;rw[Int.toNat_eq_zero.2 (Int.sub_nonpos_of_le (dt.1 h))];rfl
theorem nS{o:Type}{a:o}(h:aC=some a):eu:=nomatch h
theorem nN{o:Type}{a:o}(h:some a=aC):eu:=nS h.symm
theorem nF(h:false=true):eu:=cj h
theorem nT(h:true=false):eu:=cj h.symm
theorem nM{o:Type}{a:o}(h:a∈([]:af o)):eu:=bf h
theorem qA{P Q:Prop}{C:Prop}(h:P/\Q)(f:P->Q->C):C:=f h.1 h.2
theorem y8{P Q R:Prop}{C:Prop}(h:P/\Q/\R)(f:P->Q->R->C):C:=f h.1 h.2.1 h.2.2
theorem YL{P Q R S:Prop}{C:Prop}(h:P/\Q/\R/\S)(f:P->Q->R->S->C):C:=f h.1 h.2.1 h.2.2.1 h.2.2.2
theorem p8{o:Sort _}{P:o->Prop}{C:Prop}(h:∃a,P a)(f:∀a,P a->C):C:=h.elim λa h=>f a h
theorem o8{o:Sort _}{P Q:o->Prop}{C:Prop}(h:∃a,P a/\Q a)(f:∀a,P a->Q a->C):C:=h.elim λa h=>f a h.1 h.2
theorem tq{o:Sort _}{P Q R:o->Prop}{C:Prop}(h:∃a,P a/\Q a/\R a)(f:∀a,P a->Q a->R a->C):C:=h.elim λa h=>f a h.1 h.2.1 h.2.2
theorem JB{o:Sort _}{P Q R S:o->Prop}{C:Prop}(h:∃a,P a/\Q a/\R a/\S a)(f:∀a,P a->Q a->R a->S a->C):C:=h.elim λa h=>f a h.1 h.2.1 h.2.2.1 h.2.2.2
theorem uK{o y:Sort _}{P:o->y->Prop}{C:Prop}(h:∃a b,P a b)(f:∀a b,P a b->C):C:=h.elim λa h=>h.elim λb h=>f a b h
theorem tW{o y:Sort _}{P Q:o->y->Prop}{C:Prop}(h:∃a b,P a b/\Q a b)(f:∀a b,P a b->Q a b->C):C:=h.elim λa h=>h.elim λb h=>f a b h.1 h.2
theorem sF{o y:Sort _}{P Q R:o->y->Prop}{C:Prop}(h:∃a b,P a b/\Q a b/\R a b)(f:∀a b,P a b->Q a b->R a b->C):C:=h.elim λa h=>h.elim λb h=>f a b h.1 h.2.1 h.2.2
theorem S8{o y:Sort _}{P Q R S:o->y->Prop}{C:Prop}(h:∃a b,P a b/\Q a b/\R a b/\S a b)(f:∀a b,P a b->Q a b->R a b->S a b->C):C:=h.elim λa h=>h.elim λb h=>f a b h.1 h.2.1 h.2.2.1 h.2.2.2
theorem V0{o y:Sort _}{P Q R S T U:o->y->Prop}{C:Prop}(h:∃a b,P a b/\Q a b/\R a b/\S a b/\T a b/\U a b)(f:∀a b,P a b->Q a b->R a b->S a b->T a b->U a b->C):C:=h.elim λa h=>h.elim λb h=>f a b h.1 h.2.1 h.2.2.1 h.2.2.2.1 h.2.2.2.2.1 h.2.2.2.2.2
theorem y9{o y z:Sort _}{P Q:o->y->z->Prop}{C:Prop}(h:∃a b c,P a b c/\Q a b c)(f:∀a b c,P a b c->Q a b c->C):C:=h.elim λa h=>h.elim λb h=>h.elim λc h=>f a b c h.1 h.2
theorem za{o y z:Sort _}{P Q R:o->y->z->Prop}{C:Prop}(h:∃a b c,P a b c/\Q a b c/\R a b c)(f:∀a b c,P a b c->Q a b c->R a b c->C):C:=h.elim λa h=>h.elim λb h=>h.elim λc h=>f a b c h.1 h.2.1 h.2.2
theorem vp{o y z:Sort _}{P Q R S:o->y->z->Prop}{C:Prop}(h:∃a b c,P a b c/\Q a b c/\R a b c/\S a b c)(f:∀a b c,P a b c->Q a b c->R a b c->S a b c->C):C:=h.elim λa h=>h.elim λb h=>h.elim λc h=>f a b c h.1 h.2.1 h.2.2.1 h.2.2.2
theorem Lq{o y z:Sort _}{P Q R S T:o->y->z->Prop}{C:Prop}(h:∃a b c,P a b c/\Q a b c/\R a b c/\S a b c/\T a b c)(f:∀a b c,P a b c->Q a b c->R a b c->S a b c->T a b c->C):C:=h.elim λa h=>h.elim λb h=>h.elim λc h=>f a b c h.1 h.2.1 h.2.2.1 h.2.2.2.1 h.2.2.2.2
theorem YM{o y z:Sort _}{P Q R S T U:o->y->z->Prop}{C:Prop}(h:∃a b c,P a b c/\Q a b c/\R a b c/\S a b c/\T a b c/\U a b c)(f:∀a b c,P a b c->Q a b c->R a b c->S a b c->T a b c->U a b c->C):C:=h.elim λa h=>h.elim λb h=>h.elim λc h=>f a b c h.1 h.2.1 h.2.2.1 h.2.2.2.1 h.2.2.2.2.1 h.2.2.2.2.2
theorem V1{o y z A:Sort _}{P:o->y->z->A->Prop}{C:Prop}(h:∃a b c d,P a b c d)(f:∀a b c d,P a b c d->C):C:=h.elim λa h=>h.elim λb h=>h.elim λc h=>h.elim λd h=>f a b c d h
theorem V2{o y z A:Sort _}{P Q:o->y->z->A->Prop}{C:Prop}(h:∃a b c d,P a b c d/\Q a b c d)(f:∀a b c d,P a b c d->Q a b c d->C):C:=h.elim λa h=>h.elim λb h=>h.elim λc h=>h.elim λd h=>f a b c d h.1 h.2
theorem V3{o y z A:Sort _}{P Q R:o->y->z->A->Prop}{C:Prop}(h:∃a b c d,P a b c d/\Q a b c d/\R a b c d)(f:∀a b c d,P a b c d->Q a b c d->R a b c d->C):C:=h.elim λa h=>h.elim λb h=>h.elim λc h=>h.elim λd h=>f a b c d h.1 h.2.1 h.2.2
theorem YN{o y z A:Sort _}{P Q R S:o->y->z->A->Prop}{C:Prop}(h:∃a b c d,P a b c d/\Q a b c d/\R a b c d/\S a b c d)(f:∀a b c d,P a b c d->Q a b c d->R a b c d->S a b c d->C):C:=h.elim λa h=>h.elim λb h=>h.elim λc h=>h.elim λd h=>f a b c d h.1 h.2.1 h.2.2.1 h.2.2.2
theorem V4{o y z A:Sort _}{P Q R S T:o->y->z->A->Prop}{C:Prop}(h:∃a b c d,P a b c d/\Q a b c d/\R a b c d/\S a b c d/\T a b c d)(f:∀a b c d,P a b c d->Q a b c d->R a b c d->S a b c d->T a b c d->C):C:=h.elim λa h=>h.elim λb h=>h.elim λc h=>h.elim λd h=>f a b c d h.1 h.2.1 h.2.2.1 h.2.2.2.1 h.2.2.2.2
theorem qB{P Q R:Prop} (h1:P)(h2:Q)(o:R):P/\Q/\R:=⟨h1,h2,o⟩
theorem JC{P Q R S:Prop} (h1:P)(h2:Q)(o:R)(h4:S):P/\Q/\R/\S:=⟨h1,h2,o,h4⟩
theorem Pk{P Q R S T:Prop} (h1:P)(h2:Q)(o:R)(h4:S)(y:T):P/\Q/\R/\S/\T:=⟨h1,h2,o,h4,y⟩
theorem V5{P Q R S T U:Prop} (h1:P)(h2:Q)(o:R)(h4:S)(y:T)(z:U):P/\Q/\R/\S/\T/\U:=⟨h1,h2,o,h4,y,z⟩
theorem o5{o:Sort _}{P Q:o->Prop}(a:o)(h1:P a)(h2:Q a):∃a,P a/\Q a:=⟨a,h1,h2⟩
theorem qZ{o:Sort _}{P Q R:o->Prop}(a:o)(h1:P a)(h2:Q a)(y:R a):∃a,P a/\Q a/\R a:=⟨a,h1,h2,y⟩
theorem Lr{o:Sort _}{P Q R S:o->Prop}(a:o)(h1:P a)(h2:Q a)(y:R a)(h4:S a):∃a,P a/\Q a/\R a/\S a:=⟨a,h1,h2,y,h4⟩
theorem zC{o:Sort _}{P Q R S T:o->Prop}(a:o)(h1:P a)(h2:Q a)(y:R a)(h4:S a)(z:T a):∃a,P a/\Q a/\R a/\S a/\T a:=⟨a,h1,h2,y,h4,z⟩
theorem zD{o y:Sort _}{P:o->y->Prop}(a:o)(b:y)(h1:P a b):∃a b,P a b:=⟨a,b,h1⟩
theorem uL{o y:Sort _}{P Q:o->y->Prop}(a:o)(b:y)(h1:P a b)(h2:Q a b):∃a b,P a b/\Q a b:=⟨a,b,h1,h2⟩
theorem tD{o y:Sort _}{P Q R:o->y->Prop}(a:o)(b:y)(h1:P a b)(h2:Q a b)(z:R a b):∃a b,P a b/\Q a b/\R a b:=⟨a,b,h1,h2,z⟩
theorem Pl{o y:Sort _}{P Q R S:o->y->Prop}(a:o)(b:y)(h1:P a b)(h2:Q a b)(z:R a b)(h4:S a b):∃a b,P a b/\Q a b/\R a b/\S a b:=⟨a,b,h1,h2,z,h4⟩
theorem V6{o y:Sort _}{P Q R S T U:o->y->Prop}(a:o)(b:y)(h1:P a b)(h2:Q a b)(z:R a b)(h4:S a b)(A:T a b)(C:U a b):∃a b,P a b/\Q a b/\R a b/\S a b/\T a b/\U a b:=⟨a,b,h1,h2,z,h4,A,C⟩
theorem V7{o y z:Sort _}{P:o->y->z->Prop}(a:o)(b:y)(c:z)(h1:P a b c):∃a b c,P a b c:=⟨a,b,c,h1⟩
theorem zb{o y z:Sort _}{P Q:o->y->z->Prop}(a:o)(b:y)(c:z)(h1:P a b c)(h2:Q a b c):∃a b c,P a b c/\Q a b c:=⟨a,b,c,h1,h2⟩
theorem zE{o y z:Sort _}{P Q R:o->y->z->Prop}(a:o)(b:y)(c:z)(h1:P a b c)(h2:Q a b c)(A:R a b c):∃a b c,P a b c/\Q a b c/\R a b c:=⟨a,b,c,h1,h2,A⟩
theorem zF{o y z:Sort _}{P Q R S:o->y->z->Prop}(a:o)(b:y)(c:z)(h1:P a b c)(h2:Q a b c)(A:R a b c)(h4:S a b c):∃a b c,P a b c/\Q a b c/\R a b c/\S a b c:=⟨a,b,c,h1,h2,A,h4⟩
theorem YO{o y z:Sort _}{P Q R S T:o->y->z->Prop}(a:o)(b:y)(c:z)(h1:P a b c)(h2:Q a b c)(A:R a b c)(h4:S a b c)(C:T a b c):∃a b c,P a b c/\Q a b c/\R a b c/\S a b c/\T a b c:=⟨a,b,c,h1,h2,A,h4,C⟩
theorem YQ{o y z A:Sort _}{P Q:o->y->z->A->Prop}(a:o)(b:y)(c:z)(d:A)(h1:P a b c d)(h2:Q a b c d):∃a b c d,P a b c d/\Q a b c d:=⟨a,b,c,d,h1,h2⟩
theorem YR{o y z A:Sort _}{P Q R S:o->y->z->A->Prop}(a:o)(b:y)(c:z)(d:A)(h1:P a b c d)(h2:Q a b c d)(C:R a b c d)(h4:S a b c d):∃a b c d,P a b c d/\Q a b c d/\R a b c d/\S a b c d:=⟨a,b,c,d,h1,h2,C,h4⟩
end
section
open PySem
set_option genCtorIdx true in
inductive V where
 |none
 |bool(b:aN)
 |int(i:Int)
 |str(s:Str)
 |tup(l:af V)
 |lst(l:af V)
 |ptr(i:Nat)
 |ev(v:V)
 |wx(w p:V)
 |we(a b:Int)
 |rO(l:af Int)
 |typ(n:cR)
noncomputable def BN(a:au gy)(b:au (af gy)):au (af gy):=match a,b with
 |some a,some b=>some (a::b)
 |_,_=>aC
mutual
noncomputable def V.toPy:V->au gy
 |.none=>some .none
 |.bool b=>some (.bool b)
 |.int i=>some (.int i)
 |.str s=>some (.str s)
 |.tup l=>(V.qv l).map .tuple
 |.lst l=>(V.qv l).map .list
 |.ptr _|.ev _|.wx _ _|.we _ _|.rO _|.typ _=>aC
noncomputable def V.qv:af V->au (af gy)
 |[]=>some []
 |v::r=>BN v.toPy (V.qv r)
end
theorem yf{a:au gy}{b:au (af gy)}{ds:af gy}{C:Prop}(h:BN a b=some ds)(k:∀y ys,a=some y->b=some ys->y::ys=ds->C):C:=by
 cases a with
 |none=>exact nomatch h
 |some y=>cases b with
  |none=>exact nomatch h
  |some ys=>exact k y ys rfl rfl (ai h)
mutual
noncomputable def V.oQ:V->aN
 |.none|.bool _|.int _|.str _|.we _ _|.rO _|.typ _=>true
 |.tup l=>V.qS l
 |.lst l=>V.qS l
 |.ptr _=>false
 |.ev v=>v.oQ
 |.wx w p=>w.oQ&&p.oQ
noncomputable def V.qS:af V->aN
 |[]=>true
 |v::r=>v.oQ&&V.qS r
end
set_option genCtorIdx true in
inductive pq where
 |val(v:V)
 |own(l:af V)
 |no
noncomputable abbrev Cell:=af (Str×V)
structure St where
 ρ:af (Str×pq)
 σ:af Cell
set_option genCtorIdx true in
inductive R (α:Type) where
 |ok(a:α)(s:St)
 |rQ(w p:V)(σ:af Cell)
 |stuck
noncomputable def R.bind{o y:Type}(r:R o)(f:o->St->R y):R y:=match r with
 |.ok a s=>f a s
 |.rQ w p σ=>.rQ w p σ
 |.stuck=>.stuck
noncomputable def R.opt{y:Type}(o:au y)(s:St):R y:=match o with
 |some a=>.ok a s
 |Option.none=>.stuck
noncomputable def qf:Nat:=1000000
noncomputable def wg(l:af V)(s:St):R V:=if l.length<=qf then .ok (.lst l) s else .stuck
noncomputable def vg(l:af V)(s:St):R V:=if l.length<=qf then .ok (.tup l) s else .stuck
noncomputable def small(i:Int):aN:=decide (-(2^29)<=i)&&decide (i<=2^29)
noncomputable def vt(a b:V):au aN:=match a.toPy,b.toPy with
 |some x,some y=>if min x.depth y.depth<=500 then some (a9 x y)else aC
 |_,_=>aC
noncomputable def zc(x:V)(l:af V):au aN:=match x.toPy,V.qv l with
 |some d,some ds=>if d.depth<=500 then some (ds.any λy=>a9 y d)else aC
 |_,_=>aC
noncomputable def pv:Cell->Str->V->Cell
 |[],k,v=>[(k,v)]
 |(k',v')::r,k,v=>if k'==k then(k',v)::r else(k',v')::pv r k v
theorem tE{o k:Str}{y v:V}{r:Cell}:pv ((o,y)::r) k v=if o==k then(o,v)::r else(o,y)::pv r k v:=rfl
noncomputable def oZ:af (Str×pq)->Str->pq->af (Str×pq)
 |[],k,v=>[(k,v)]
 |(k',v')::r,k,v=>if k'==k then(k',v)::r else(k',v')::oZ r k v
theorem Ed{o k:Str}{y v:pq}{r:af (Str×pq)}:oZ ((o,y)::r) k v=if o==k then(o,v)::r else(o,y)::oZ r k v:=rfl
noncomputable def truthy:V->au aN
 |.bool b=>some b
 |_=>aC
noncomputable def rR:af V->af V->au aN
 |[],[]=>some false
 |[],.int _::_=>some true
 |.int _::_,[]=>some false
 |.int a::r,.int b::t=>if a=b then rR r t else some (decide (a<b))
 |_,_=>aC
noncomputable def isNone:V->au aN
 |.none=>some true
 |.bool _|.int _|.str _|.tup _|.lst _|.ptr _|.ev _|.wx _ _=>some false
 |.we _ _|.rO _|.typ _=>aC
noncomputable def wy(x c:V)(σ:af Cell):au aN:=match c with
 |.tup l=>zc x l
 |.lst l=>zc x l
 |.ptr i=>match x,σ[i]? with
  |.str k,some c=>some (c.lookup k).isSome
  |_,_=>aC
 |_=>aC
noncomputable def JD(a b:V):au aN:=match a,b with
 |.int a,.int b=>some (decide (a<b))
 |.int a,.bool b=>some (decide (a<if b then 1 else 0))
 |.bool a,.int b=>some (decide ((if a then 1 else 0)<b))
 |.bool a,.bool b=>some (decide ((if a then(1:Int)else 0)<if b then 1 else 0))
 |.tup a,.tup b=>rR a b
 |_,_=>aC
noncomputable def Pm(a b:V):au aN:=match a,b with
 |.int a,.int b=>some (decide (a<=b))
 |_,_=>aC
noncomputable def sX(op:fv)(a b:V)(σ:af Cell):au aN:=match op with
 |.Eq=>vt a b
 |.NotEq=>(vt a b).map (!·)
 |.Is=>match b with|.none=>isNone a|_=>aC
 |.IsNot=>match b with|.none=>(isNone a).map (!·)|_=>aC
 |.Lt=>JD a b
 |.Gt=>match a,b with
  |.int a,.int b=>some (decide (b<a))
  |_,_=>aC
 |.LtE=>Pm a b
 |.GtE=>match a,b with
  |.int a,.int b=>some (decide (b<=a))
  |_,_=>aC
 |.In=>wy a b σ
 |.NotIn=>(wy a b σ).map (!·)
noncomputable def wd{o:Type}(l:af o):Nat->af o
 |0=>[]
 |n+1=>l++wd l n
theorem BO{o:Type}{l:af o}{n:Nat}:wd l (n+1)=l++wd l n:=rfl
noncomputable def Ee(a b:V)(s:St):R V:=match a,b with
 |.int a,.int b=>.ok (.int (a+b)) s
 |.tup a,.tup b=>vg (a++b) s
 |.lst a,.lst b=>wg (a++b) s
 |_,_=>.stuck
noncomputable def Ef(a b:V)(s:St):R V:=match a,b with
 |.int a,.int b=>if small a&&small b then .ok (.int (a*b)) s else .stuck
 |.lst a,.int n=>if 0<=n/\n<=8/\a.length<=100 then .ok (.lst (wd a n.toNat)) s else .stuck
 |_,_=>.stuck
noncomputable def intOp(op:fu)(a b:Int)(s:St):R V:=match op with
 |.Sub=>.ok (.int (a-b)) s
 |.FloorDiv=>if b≠0/\small a=true/\small b=true then .ok (.int (jF a b)) s else .stuck
 |.Mod=>if b=0 then .stuck else .ok (.int (kY a b)) s
 |.Pow=>if a=10/\b=1000 then .ok (.int (10^1000)) s else .stuck
 |_=>.stuck
noncomputable def sy(op:fu)(a b:V)(s:St):R V:=match op with
 |.Add=>Ee a b s
 |.Mult=>Ef a b s
 |_=>match a,b with
  |.int a,.int b=>intOp op a b s
  |_,_=>.stuck
noncomputable def itemAt(l:af V)(i:Int):au V:=if 0<=i then l[i.toNat]? else if -(l.length:Int)<=i then l[(i+l.length).toNat]? else aC
noncomputable def qM:af cR:=["tuple", "int", "bool", "str", "list"]
noncomputable def Gw(v:V)(T:cR):au aN:=if qM.contains T then(match v with
 |.none=>some false
 |.bool _=>some (T=="bool" ||T=="int")
 |.int _=>some (T=="int")
 |.str _=>some (T=="str")
 |.tup _=>some (T=="tuple")
 |.lst _=>some (T=="list")
 |_=>aC)else aC
noncomputable def qN(i:Int):af Int->af Int
 |[]=>[i]
 |j::r=>if i<j then i::j::r else if i=j then j::r else j::qN i r
noncomputable def qj(l:af Int):af Int:=l.foldr qN []
noncomputable def q7:af V->au (af Int)
 |[]=>some []
 |.int i::r=>(q7 r).map (i::·)
 |_::_=>aC
noncomputable def vu:V->au Str
 |.str x=>if x.length<=qf then some x else aC
 |.int i=>if small i then some (aa (toString i))else aC
 |_=>aC
structure Fn where
 params:af Str
 body:af cW
 names:af (Str×bM)
structure G where
 fns:Str->au Fn
 consts:Str->au V
noncomputable abbrev sY:=Str->af V->af Cell->R V
structure MC where
 g:G
 call:sY
 wf:Nat
 names:af (Str×bM)
 free:af (Str×V)
inductive Fl where
 |next
 |ret(v:V)
noncomputable def qF(ps:af Str)(ns:af (Str×bM)):af (Str×pq):=(ns.filter λp=>(p.2==.local||p.2==.cell)&&!ps.contains p.1).map λp=>(p.1,.no)
noncomputable def Ls(k:bM)(o:au pq)(ρ:af (Str×pq))(n:Str):af (Str×pq):=match k,o with
 |.free,some (.own l)=>oZ ρ n (.val (.lst l))
 |_,_=>ρ
noncomputable def Pn(o:au pq):au V:=match o with
 |some (.val v)=>some v
 |_=>aC
noncomputable def pB:af (Str×bM)->af (Str×pq)->af (Str×pq)
 |[],ρ=>ρ
 |(n,k)::r,ρ=>pB r (Ls k (ρ.lookup n) ρ n)
noncomputable def qg:af (Str×bM)->af (Str×pq)->au (af (Str×V))
 |[],_=>some []
 |(n,k)::r,ρ=>match k with
  |.free=>(Pn (ρ.lookup n)).bind λv=>(qg r ρ).map λl=>(n,v)::l
  |_=>qg r ρ
noncomputable def pQ(c:MC)(x:Str):aN:=match c.names.lookup x with
 |some .local|some .cell=>true
 |_=>false
noncomputable def qw(c:MC)(x:Str):aN:=c.names.lookup x==some .globalImplicit
noncomputable def Gx(c:MC)(x:Str):aN:=c.names.lookup x==some .free
noncomputable def rj(x:Str):au V:=(qM.find? λt=>x==aa t).map .typ
noncomputable def tZ(c:MC)(x:Str)(s:St):R V :=
 if pQ c x then(match s.ρ.lookup x with
  |some (.val v)=>.ok v s
  |some (.own l)=>.ok (.lst l) {s with ρ:=oZ s.ρ x (.val (.lst l))}
  |_=>.stuck)
 else if Gx c x then R.opt (c.free.lookup x) s
 else if qw c x then(match c.g.consts x with
  |some v=>.ok v s
  |Option.none=>R.opt (rj x) s)
 else .stuck
noncomputable def owned(c:MC)(e:aI)(s:St):au (Str×af V):=match e with
 |.Name x _=>if pQ c x then(match s.ρ.lookup x with|some (.own l)=>some (x,l)|_=>aC)else aC
 |_=>aC
noncomputable def qs(c:MC)(x:Str)(b:pq)(s:St):R cV:=if pQ c x then .ok () {s with ρ:=oZ s.ρ x b}else .stuck
noncomputable def rk(c:Cell)(s:St):R V:=if c.all (λp=>p.2.oQ)&&decide (c.length<=qf)then .ok (.ptr s.σ.length) {s with σ:=s.σ++[c]}else .stuck
noncomputable def pW(o i:V)(s:St):R V:=match o,i with
 |.tup l,.int k=>R.opt (itemAt l k) s
 |.lst l,.int k=>R.opt (itemAt l k) s
 |.ptr n,.str k=>match s.σ[n]? with
  |some c=>R.opt (c.lookup k) s
  |Option.none=>.stuck
 |_,_=>.stuck
noncomputable def sP(o:V)(a b:Nat)(s:St):R V:=match o with
 |.tup l=>if 1<=a/\a<=b/\b<=l.length then .ok (.tup ((l.drop a).take (b-a))) s else .stuck
 |.lst l=>if a=0 then .ok (.lst (l.take b)) s else .stuck
 |_=>.stuck
noncomputable def Gy:aI->au nE
 |.Constant k _ _=>some k
 |_=>aC
noncomputable def Lu(e:aI):au Int:=(Gy e).bind λk=>match k with|.int x=>some x|_=>aC
noncomputable def S9(e:aI):au Str:=(Gy e).bind λk=>match k with|.str x=>some x|_=>aC
noncomputable def Gz(o:au aI):au Nat:=match o with
 |some e=>(Lu e).bind λi=>if 0<=i/\i<=1000 then some i.toNat else aC
 |Option.none=>some 0
noncomputable def Ta:aI->au (au aI×au aI×au aI)
 |.Slice a b c _=>some (a,b,c)
 |_=>aC
noncomputable def ue(e:aI):au (Nat×Nat):=(Ta e).bind λp=>p.2.1.bind λb=>if p.2.2.isNone then(Gz p.1).bind λx=>(Gz (some b)).map λy=>(x,y)else aC
noncomputable def wi:aI->au Str
 |.Name x _=>some x
 |_=>aC
noncomputable def Eg:aI->au (aI×af aI×af j7)
 |.Call f a k _=>some (f,a,k)
 |_=>aC
noncomputable def Po:aI->au (af aI)
 |.Tuple es _ _=>some es
 |_=>aC
noncomputable def oneOf{o:Type}:af o->au o
 |[x]=>some x
 |_=>aC
noncomputable def two{o:Type}:af o->au (o×o)
 |[a,b]=>some (a,b)
 |_=>aC
noncomputable def wz(o:V)(a:Str)(s:St):R V:=match o with
 |.ev v=>if a==aa "scope" then .ok v s else .stuck
 |.wx w p=>if a==aa "what" then .ok w s else if a==aa "spot" then .ok p s else .stuck
 |_=>.stuck
noncomputable def qG(a b:Int):af V:=(jt (b-a).toNat).map λ(k:Nat)=>V.int (a+k)
noncomputable def pR:V->au (af V)
 |.tup l=>some l
 |.lst l=>some l
 |.we a b=>some (qG a b)
 |_=>aC
noncomputable def R6{o:Type}(vs:af V)(r:R o):R o:=match vs with
 |[]=>r
 |_=>.stuck
noncomputable def xd{o:Type}(vs:af V)(f:V->R o):R o:=match vs with
 |[v]=>f v
 |_=>.stuck
noncomputable def Pp{o:Type}(vs:af V)(f:V->V->R o):R o:=match vs with
 |[v,w]=>f v w
 |_=>.stuck
noncomputable def otV{o:Type}(vs:af V)(f:V->R o)(g:V->V->R o):R o:=match vs with
 |[v]=>f v
 |[v,w]=>g v w
 |_=>.stuck
noncomputable def vv{y z:Type}(o:au z)(f:z->R y):R y:=match o with
 |some b=>f b
 |Option.none=>.stuck
noncomputable def Eh{o:Type}(v:V)(f:Int->R o):R o:=match v with
 |.int i=>f i
 |_=>.stuck
noncomputable def ibV{o:Type}(v:V)(f:Int->R o)(g:aN->R o):R o:=match v with
 |.int i=>f i
 |.bool b=>g b
 |_=>.stuck
noncomputable def VE{o:Type}(v:V)(f:af V->R o):R o:=match v with
 |.tup l=>f l
 |_=>.stuck
noncomputable def lrV{o:Type}(v:V)(f:af V->R o)(g:Int->Int->R o):R o:=match v with
 |.lst l=>f l
 |.we a b=>g a b
 |_=>.stuck
noncomputable def VF{o:Type}(v:V)(f:af V->R o):R o:=match v with
 |.lst l=>f l
 |_=>.stuck
noncomputable def R7{o:Type}(v:V)(f:af Int->R o):R o:=match v with
 |.rO l=>f l
 |_=>.stuck
noncomputable def Tb{o:Type}(v:V)(f:Nat->R o):R o:=match v with
 |.ptr n=>f n
 |_=>.stuck
noncomputable def V8{o:Type}(v:V)(f:cR->R o):R o:=match v with
 |.typ n=>f n
 |_=>.stuck
noncomputable def V9{o:Type}(v:V)(f:af V->R o):R o:=match v with
 |.tup l=>f l
 |.lst l=>f l
 |_=>.stuck
noncomputable def BP(vs:af V)(s:St):R V:=xd vs λv=>V9 v λl=>.ok (.int l.length) s
noncomputable def rm(vs:af V)(s:St):R V:=Pp vs λv w=>V8 w λT=>R.opt ((Gw v T).map .bool) s
noncomputable def BQ(vs:af V)(s:St):R V:=xd vs λv=>ibV v (λi=>.ok (.int i) s) λb=>.ok (.int (if b then 1 else 0)) s
noncomputable def yg(vs:af V)(s:St):R V:=xd vs λv=>VE v λl=>.ok (.lst l) s
noncomputable def vT(vs:af V)(s:St):R V:=xd vs λv=>lrV v (λl=>.ok (.tup l) s) λa b=>vg (qG a b) s
noncomputable def uM(vs:af V)(s:St):R V:=otV vs (λv=>Eh v λb=>if small b then .ok (.we 0 b) s else .stuck)
 λv w=>Eh v λa=>Eh w λb=>if small a&&small b then .ok (.we a b) s else .stuck
noncomputable def zG(vs:af V)(s:St):R V:=xd vs λv=>VF v λl=>vv (q7 l) λns=>.ok (.int ns.sum) s
noncomputable def BR(vs:af V)(s:St):R V:=Pp vs λv w=>Eh v λa=>Eh w λb=>.ok (.int (if a<b then b else a)) s
noncomputable def BS(vs:af V)(s:St):R V:=xd vs λv=>Eh v λa=>.ok (.int a.natAbs) s
noncomputable def BV(vs:af V)(s:St):R V:=xd vs λv=>Eh v λi=>R.opt ((vu (.int i)).map .str) s
noncomputable def zH(vs:af V)(s:St):R V:=xd vs λv=>VF v λl=>vv (q7 l) λns=>if l.length<=4 then .ok (.rO (qj ns)) s else .stuck
noncomputable def tL(vs:af V)(s:St):R V:=xd vs λv=>R7 v λl=>if l.length<60 then .ok (.lst (l.map .int)) s else .stuck
noncomputable def vw(vs:af V)(s:St):R V:=xd vs λv=>Tb v λn=>vv s.σ[n]? λc=>rk c s
noncomputable def qx:af (cR×ag):=[("len", .builtin "len"),("isinstance", .builtin "isinstance"),("sum", .builtin "sum"),("max", .builtin "max"),("abs", .builtin "abs"),("sorted", .builtin "sorted"),
 ("int", .type "int"),("list", .type "list"),("tuple", .type "tuple"),("range", .type "range"),("str", .type "str"),("set", .type "set"),("dict", .type "dict"),("zip", .type "zip"),("reversed", .type "reversed")]
noncomputable def sZ(f:Str)(vs:af V)(s:St):R V :=
 if f==aa "len" then BP vs s
 else if f==aa "isinstance" then rm vs s
 else if f==aa "int" then BQ vs s
 else if f==aa "list" then yg vs s
 else if f==aa "tuple" then vT vs s
 else if f==aa "range" then uM vs s
 else if f==aa "sum" then zG vs s
 else if f==aa "max" then BR vs s
 else if f==aa "abs" then BS vs s
 else if f==aa "str" then BV vs s
 else if f==aa "set" then zH vs s
 else if f==aa "sorted" then tL vs s
 else if f==aa "dict" then vw vs s
 else .stuck
noncomputable def t5(rF:St->R aN)(body:St->R Fl):Nat->St->R Fl
 |0,_=>.stuck
 |n+1,s=>(rF s).bind λb s=>if b then(body s).bind λf s=>(match f with
   |.next=>t5 rF body n s
   |.ret v=>.ok (.ret v) s)else .ok .next s
noncomputable def vh(set:V->St->R cV)(body:St->R Fl):af V->St->R Fl
 |[],s=>.ok .next s
 |v::r,s=>(set v s).bind λu_ s=>(body s).bind λf s=>(match f with
   |.next=>vh set body r s
   |.ret v=>.ok (.ret v) s)
noncomputable def rS(step:V->af V->St->R (af V)):af V->af V->St->R (af V)
 |[],acc,s=>.ok acc s
 |v::r,acc,s=>(step v acc s).bind λacc s=>rS step r acc s
noncomputable def q8(left:V):af fv->af (St->R V)->St->R V
 |[op],[r],s=>(r s).bind λv s=>R.opt ((sX op left v s.σ).map .bool) s
 |op::R8::o,r::y::rs,s=>(r s).bind λv s=>match sX op left v s.σ with
  |some true=>q8 v (R8::o) (y::rs) s
  |some false=>.ok (.bool false) s
  |Option.none=>.stuck
 |_,_,_=>.stuck
noncomputable def pC:af (St->R V)->St->R (af V)
 |[],s=>.ok [] s
 |x::r,s=>(x s).bind λv s=>(pC r s).bind λvs s=>.ok (v::vs) s
theorem Lv{s:St}:pC [] s=.ok [] s:=rfl
theorem CK{x:St->R V}{r:af (St->R V)}{s:St}:pC (x::r) s=(x s).bind λv s=>(pC r s).bind λvs s=>.ok (v::vs) s:=rfl
noncomputable def wA(o:aN):af (St->R V)->St->R V
 |[],_=>.stuck
 |[x],s=>x s
 |x::r,s=>(x s).bind λv s=>match truthy v with
  |some t=>if t==o then wA o r s else .ok v s
  |Option.none=>.stuck
noncomputable def tu(r:R V):R aN:=r.bind λv s=>R.opt (truthy v) s
noncomputable def wB:Str->af (St->R V)->St->R V
 |acc,[],s=>.ok (.str acc) s
 |acc,x::r,s=>(x s).bind λv s=>match v with
  |.str t=>if acc.length+t.length<=qf then wB (acc++t) r s else .stuck
  |_=>.stuck
noncomputable def r9:af (V->St->R cV)->af V->St->R cV
 |[],[],s=>.ok () s
 |t::o,v::vs,s=>(t v s).bind λu_ s=>r9 o vs s
 |_,_,_=>.stuck
noncomputable def vU(o:af (V->St->R cV))(v:V)(s:St):R cV:=match v with
 |.tup l=>if o.length=l.length then r9 o l s else .stuck
 |.lst l=>if o.length=l.length then r9 o l s else .stuck
 |_=>.stuck
noncomputable def oU(m:Str):Str:=aa "Evaluator."++m
noncomputable def uv(s:St)(r:R V):R V:=match r with
 |.ok v s'=>.ok v {s with σ:=s'.σ}
 |.rQ w p σ=>.rQ w p σ
 |.stuck=>.stuck
noncomputable def wC(vs:af V)(s:St):R V:=xd vs λv=>Tb v λn=>.ok (.ev (.ptr n)) s
noncomputable def uN(vs:af V)(s:St):R V:=Pp vs λw p=>if w.oQ&&p.oQ then .ok (.wx w p) s else .stuck
noncomputable def qO(c:MC)(f:Str)(vs:af V)(s:St):R V :=
 match c.g.fns f with
 |some _=>uv s (c.call f vs s.σ)
 |Option.none =>
  if f==aa "Evaluator" then wC vs s
  else if f==aa "EvalFault" then uN vs s
  else sZ f vs s
noncomputable def BW(c:MC)(f:Str):aN:=(c.g.fns f).isSome||f==aa "Evaluator" ||f==aa "EvalFault" ||qx.any λp=>f==aa p.1
noncomputable def zo(m:Str):aN:=m==aa "append" ||m==aa "extend" ||m==aa "pop"
noncomputable def sA(x:Str)(l:af V)(m:Str)(vs:af V)(s:St):R V :=
 if m==aa "append" then xd vs λv=>if l.length<qf then .ok .none {s with ρ:=oZ s.ρ x (.own (l++[v]))}else .stuck
 else if m==aa "extend" then xd vs λv=>VF v λk=>if l.length+k.length<=qf then .ok .none {s with ρ:=oZ s.ρ x (.own (l++k))}else .stuck
 else R6 vs (vv l.getLast? λv=>.ok v {s with ρ:=oZ s.ρ x (.own l.dropLast)})
noncomputable def ownCall(x:Str)(m:Str)(o:af (St->R V))(s:St):R V :=
 if zo m then(pC o s).bind λvs s=>(match s.ρ.lookup x with
  |some (.own l)=>sA x l m vs s
  |_=>.stuck)else .stuck
noncomputable def uw(c:MC)(m:Str)(y:St->R V)(z:af (St->R V))(s:St):R V :=
 (y s).bind λo s=>match o with
  |.ev v=>(match c.g.fns (oU m)with
   |some _=>(pC z s).bind λvs s=>uv s (c.call (oU m) (.ev v::vs) s.σ)
   |Option.none=>.stuck)
  |_=>.stuck
noncomputable def tF(c:MC)(f:Str)(o:af aI)(s:St):au Nat:=match o with
 |[e]=>if f==aa "len" then(owned c e s).map (·.2.length)else aC
 |_=>aC
noncomputable def yh(k:nE)(s:St):R V:=match k with
 |.none=>.ok .none s
 |.bool b=>.ok (.bool b) s
 |.int i=>.ok (.int i) s
 |.str x=>if b4 x then .ok (.str x) s else .stuck
 |_=>.stuck
noncomputable def Lw(op:nu)(v:V)(s:St):R V:=match op with
 |.Not=>R.opt ((truthy v).map λb=>.bool !b) s
 |.USub=>(match v with
  |.int i=>.ok (.int (-i)) s
  |_=>.stuck)
 |_=>.stuck
noncomputable def YS:aI->au aI
 |.UnaryOp o e _=>(match o with|.USub=>some e|_=>aC)
 |_=>aC
noncomputable def zI(e:aI):au Int:=match Lu e with
 |some k=>some k
 |Option.none=>((YS e).bind Lu).map λk=>-k
noncomputable def vV(c:MC)(o i:aI)(y fi:St->R V)(s:St):R V:=match ue i with
 |some (a,b)=>(y s).bind λv s=>sP v a b s
 |Option.none=>match owned c o s,zI i with
  |some (_,l),some k=>pW (.lst l) (.int k) s
  |_,_=>(y s).bind λv s=>(fi s).bind λk s=>pW v k s
noncomputable def under(c:MC)(names:af (Str×bM))(o:af (Str×V)):MC:=⟨c.g,c.call,c.wf,names,o⟩
noncomputable def t6(x:Str):aN:=!(x.cps[9]?==some 46)
noncomputable def CL(o:af (Str×bM))(scope:ft)(gens:af aR):aN :=
 scope.kind==.function&&scope.names.all (λp=>(p.2==.local||(p.2==.free&&o.lookup p.1==some .cell)||p.2==.globalImplicit)&&t6 p.1&&!(p.1==("__debug__" : Str))&&!(p.1==("__classdict__" : Str))) &&
  decide ((scope.names.map (·.1)).Nodup)&&gens.all (·.is_async==0)
noncomputable def vx(o:af (Str×bM))(scope:ft)(gens:af aR)(first:St->R V)(loop:af (Str×V)->af V->St->R (af V))(s:St):R V :=
 if CL o scope gens then(first s).bind λv s=>match pR v with
  |some items=>(match qg scope.names (pB scope.names s.ρ)with
   |some y=>(match loop y items ⟨qF [] scope.names,s.σ⟩with
    |.ok l s'=>.ok (.lst l) ⟨pB scope.names s.ρ,s'.σ⟩
    |.rQ w p σ=>.rQ w p σ
    |.stuck=>.stuck)
   |Option.none=>.stuck)
  |Option.none=>.stuck
 else .stuck
noncomputable def s7(c:MC)(func:aI)(y:af aI)(z:St->R V)(fs:af (St->R V))(s:St):R V:=match func with
 |.Name f _=>if qw c f&&BW c f then(match tF c f y s with
   |some n=>.ok (.int n) s
   |Option.none=>(pC fs s).bind λvs s=>qO c f vs s)else .stuck
 |.Attribute o m _=>(match owned c o s with
   |some (x,_)=>ownCall x m fs s
   |Option.none=>uw c m z fs s)
 |_=>.stuck
noncomputable def uf:af (au aI)->au (af Str)
 |[]=>some []
 |k::r=>(k.bind S9).bind λx=>(uf r).map (x::·)
noncomputable def s8(z:af (au aI))(n:Nat)(fs:af (St->R V))(s:St):R V:=match uf z with
 |some o=>if o.length=n/\n<=15/\n≠0/\o.Nodup then(pC fs s).bind λy s=>rk (o.zip y) s else .stuck
 |Option.none=>.stuck
noncomputable def sG:aI->aN
 |.Call _ [] [] _=>false
 |_=>true
noncomputable def pG:aI->aN
 |.Starred ..=>false
 |_=>true
noncomputable def uO(func:aI)(y:af aI)(p:Pos):aN:=y.all pG&&decide (y.length<30)&&match func with
 |.Attribute o _ q=>q.endLine==p.line&&sG o
 |_=>true
mutual
noncomputable def oO(c:MC)(e:aI)(s:St):R V:=match e with
 |.Constant k _ _=>yh k s
 |.Name x _=>tZ c x s
 |.BoolOp op vs _=>wA (op==.And) (pk c vs) s
 |.BinOp l op r _=>(oO c l s).bind λa s=>(oO c r s).bind λb s=>sy op a b s
 |.UnaryOp op x _=>(oO c x s).bind λv s=>Lw op v s
 |.IfExp t a b _=>(s9 c t (λs=>oO c t s) s).bind λk s=>if k then oO c a s else oO c b s
 |.Compare l ops cs _=>(oO c l s).bind λa s=>q8 a ops (pk c cs) s
 |.Tuple es _ _=>(pC (pk c es) s).bind λvs s=>vg vs s
 |.List es _=>(pC (pk c es) s).bind λvs s=>wg vs s
 |.Dict ks vs _=>s8 ks vs.length (pk c vs) s
 |.JoinedStr vs _=>wB cM (pk c vs) s
 |.FormattedValue x conv spec _=>if conv=-1/\spec.isNone then(oO c x s).bind λv s=>R.opt ((vu v).map .str) s else .stuck
 |.Attribute o a _=>if sG o then(oO c o s).bind λv s=>wz v a s else .stuck
 |.Subscript o i _=>vV c o i (λs=>oO c o s) (λs=>oO c i s) s
 |.ListComp elt gens scope _=>vx c.names scope gens (λs=>firstIter c gens s) (λy items s=>rX (under c scope.names y) gens (λs=>oO (under c scope.names y) elt s) items s) s
 |.Call func args R9 p=>if R9.isEmpty&&uO func args p then s7 c func args (λs=>zJ c func s) (pk c args) s else .stuck
 |_=>.stuck
termination_by structural e
noncomputable def zJ(c:MC)(e:aI)(s:St):R V:=match e with
 |.Attribute o _ _=>oO c o s
 |_=>.stuck
termination_by structural e
noncomputable def pk(c:MC)(es:af aI):af (St->R V):=match es with
 |[]=>[]
 |e::r=>(λs=>oO c e s)::pk c r
termination_by structural es
noncomputable def s9(c:MC)(e:aI)(o:St->R V)(s:St):R aN:=match e with
 |.UnaryOp op x _=>(match op with
  |.Not=>(s9 c x (λs=>oO c x s) s).bind λb s=>.ok (!b) s
  |_=>tu (o s))
 |.BoolOp op vs _=>q9 c (op==.And) vs s
 |.IfExp t a b _=>(s9 c t (λs=>oO c t s) s).bind λk s=>if k then s9 c a (λs=>oO c a s) s else s9 c b (λs=>oO c b s) s
 |_=>tu (o s)
termination_by structural e
noncomputable def q9(c:MC)(o:aN)(es:af aI)(s:St):R aN:=match es with
 |[]=>.ok o s
 |e::r=>(s9 c e (λs=>oO c e s) s).bind λb s=>if b==o then q9 c o r s else .ok b s
termination_by structural es
noncomputable def firstIter(c:MC)(gs:af aR)(s:St):R V:=match gs with
 |[]=>.stuck
 |⟨_,it,_,_⟩::_=>oO c it s
termination_by structural gs
noncomputable def rX(c:MC)(gs:af aR)(o:St->R V)(items:af V)(s:St):R (af V):=match gs with
 |[]=>.stuck
 |⟨t,_,ifs,_⟩::gs=>rS (λv acc s=>(o4 c t v s).bind λu_ s=>(q9 c true ifs s).bind λk s=>if k then qy c gs o acc s else .ok acc s) items [] s
termination_by structural gs
noncomputable def qy(c:MC)(gs:af aR)(o:St->R V)(acc:af V)(s:St):R (af V):=match gs with
 |[]=>(o s).bind λv s=>if acc.length<qf then .ok (acc++[v]) s else .stuck
 |⟨t,it,ifs,_⟩::gs=>(oO c it s).bind λv s=>match pR v with
  |some items=>rS (λv acc s=>(o4 c t v s).bind λu_ s=>(q9 c true ifs s).bind λk s=>if k then qy c gs o acc s else .ok acc s) items acc s
  |Option.none=>.stuck
termination_by structural gs
noncomputable def o4(c:MC)(e:aI)(v:V)(s:St):R cV:=match e with
 |.Name x _=>qs c x (.val v) s
 |.Tuple ts _ _=>if ts.all pG then vU (sd c ts) v s else .stuck
 |.Subscript o i _=>(oO c o s).bind λd s=>(oO c i s).bind λk s=>(match d,k with
  |.ptr n,.str k=>(match s.σ[n]? with
   |some cell=>if v.oQ&&decide (cell.length<qf)then .ok () {s with σ:=s.σ.set n (pv cell k v)}else .stuck
   |Option.none=>.stuck)
  |_,_=>.stuck)
 |_=>.stuck
termination_by structural e
noncomputable def sd(c:MC)(es:af aI):af (V->St->R cV):=match es with
 |[]=>[]
 |e::r=>(λv s=>o4 c e v s)::sd c r
termination_by structural es
end
noncomputable def Ei:af V->af V->af V
 |a::r,b::t=>.tup [a,b]::Ei r t
 |_,_=>[]
noncomputable def xe(c:MC)(e:aI):au (aI×aI):=(Eg e).bind λp=>(wi p.1).bind λf=>(two p.2.1).bind λq =>
 if(p.2.2.isEmpty&&(f==aa "zip"&&qw c f&&pG q.1&&pG q.2))=true then some q else aC
noncomputable def xf(c:MC)(e:aI):au aI:=(Eg e).bind λp=>(wi p.1).bind λf=>(oneOf p.2.1).bind λa =>
 if(p.2.2.isEmpty&&(f==aa "reversed"&&qw c f&&pG a))=true then some a else aC
noncomputable def xg:aI->aN
 |.Tuple ..=>true
 |_=>false
noncomputable def rG(c:MC)(t e:aI)(s:St):R (af V):=match xe c e with
 |some (a,b)=>if xg t then(oO c a s).bind λx s=>(oO c b s).bind λy s=>VE x λl=>VF y λk=>.ok (Ei l k) s else .stuck
 |Option.none=>(match xf c e with
  |some a=>(oO c a s).bind λx s=>VE x λl=>.ok l.reverse s
  |Option.none=>(oO c e s).bind λv s=>R.opt (pR v) s)
noncomputable def vy(c:MC)(e:aI)(s:St):R pq:=match e with
 |.List es _=>(pC (pk c es) s).bind λvs s=>if vs.length<=qf then .ok (.own vs) s else .stuck
 |e=>(oO c e s).bind λv s=>.ok (.val v) s
noncomputable def rB(c:MC):af aI->St->R (af pq)
 |[],s=>.ok [] s
 |[e],s=>(vy c e s).bind λb s=>.ok [b] s
 |e::r,s=>(oO c e s).bind λv s=>(rB c r s).bind λbs s=>.ok (.val v::bs) s
noncomputable def pY(c:MC):af Str->af pq->St->R cV
 |[],[],s=>.ok () s
 |x::xs,b::bs,s=>(qs c x b s).bind λu_ s=>pY c xs bs s
 |_,_,_=>.stuck
noncomputable def namesOf:af aI->au (af Str)
 |[]=>some []
 |e::r=>(wi e).bind λx=>(namesOf r).map (x::·)
noncomputable def rH(t e:aI):au (af Str×af aI):=(Po t).bind λo=>(Po e).bind λvs=>(namesOf o).bind λxs=>if xs.length=vs.length then some (xs,vs)else aC
noncomputable def se(xs:af Str)(vs:af aI):aN:=decide xs.Nodup&&!(vs.all (constantsAlone 8))&&vs.all pG&&decide (vs.length<=30)
noncomputable def rT(c:MC)(t e:aI)(s:St):R Fl:=match t with
 |.Name x _=>(vy c e s).bind λb s=>(qs c x b s).bind λu_ s=>.ok .next s
 |.Tuple .. |.Subscript ..=>(match rH t e with
  |some (xs,vs)=>if se xs vs then(rB c vs s).bind λbs s=>(pY c xs bs s).bind λu_ s=>.ok .next s else .stuck
  |Option.none=>(oO c e s).bind λv s=>(o4 c t v s).bind λu_ s=>.ok .next s)
 |_=>.stuck
noncomputable def Wa:cW->au aI
 |.Return e _=>e
 |_=>aC
noncomputable def three{o:Type}:af o->au (o×o×o)
 |[a,b,c]=>some (a,b,c)
 |_=>aC
noncomputable def Wb:aI->au (aI×Str)
 |.Attribute o a _=>some (o,a)
 |_=>aC
noncomputable def GB(x a:Str)(e:aI):aN:=match Wb e with
 |some (o,b)=>(match wi o with|some y=>y==x&&b==a|Option.none=>false)
 |Option.none=>false
noncomputable def BX(x:Str)(b:af cW):au Str:=((((oneOf b).bind Wa).bind Po).bind three).bind λp=>(S9 p.1).bind λk =>
 if GB x (aa "what") p.2.1&&GB x (aa "spot") p.2.2&&b4 k then some k else aC
noncomputable def ux(c:MC):aN:=c.names.all (λp=>p.2 != .cell&&p.2 != .free)&&c.free.isEmpty
noncomputable def Lx(c:MC):ee->au Str
 |.ExceptHandler t x body _=>t.bind λt=>(wi t).bind λk=>x.bind λx =>
  if k==aa "EvalFault"&&qw c k&&c.names.lookup x==some .local&&ux c then BX x body else aC
noncomputable def qP(c:MC)(hs:af ee):au Str:=(oneOf hs).bind (Lx c)
noncomputable def BY(r:R Fl)(h:au Str):R Fl:=match r with
 |.ok f s=>.ok f s
 |.stuck=>.stuck
 |.rQ w p σ=>match h with
  |some k=>.ok (.ret (.tup [.str k,w,p])) ⟨[],σ⟩
  |Option.none=>.stuck
noncomputable def GC:aI->aN
 |.Call ..=>true
 |_=>false
noncomputable def xh(c:MC)(e:aI):aN:=match(Eg e).bind λp=>wi p.1 with
 |some f=>f==aa "EvalFault"&&(c.g.fns f).isNone
 |Option.none=>false
mutual
noncomputable def vz(c:MC)(st:cW)(s:St):R Fl:=match st with
 |.Return v _=>(match v with
  |some e=>(oO c e s).bind λv s=>.ok (.ret v) s
  |Option.none=>.ok (.ret .none) s)
 |.Assign ts e _=>(match ts with
  |[t]=>rT c t e s
  |_=>.stuck)
 |.If t b o _=>(s9 c t (λs=>oO c t s) s).bind λk s=>if k then o7 c b s else o7 c o s
 |.For t it b o _=>if o.isEmpty then(rG c t it s).bind λitems s=>vh (λv s=>o4 c t v s) (λs=>o7 c b s) items s else .stuck
 |.While t b o _=>if o.isEmpty then t5 (λs=>s9 c t (λs=>oO c t s) s) (λs=>o7 c b s) c.wf s else .stuck
 |.Raise e cause _=>(match e,cause with
  |some e,aC=>if xh c e then(oO c e s).bind λv s=>(match v with
   |.wx w p=>.rQ w p s.σ
   |_=>.stuck)else .stuck
  |_,_=>.stuck)
 |.Expr e _=>if GC e then(oO c e s).bind λu_ s=>.ok .next s else .stuck
 |.Try body hs orelse final _=>if orelse.isEmpty&&final.isEmpty&&!hs.isEmpty then(match qP c hs with
  |some k=>BY (o7 c body s) (some k)
  |Option.none=>.stuck)else .stuck
 |_=>.stuck
termination_by structural st
noncomputable def o7(c:MC)(o:af cW)(s:St):R Fl:=match o with
 |[]=>.ok .next s
 |st::r=>(vz c st s).bind λf s=>(match f with
  |.next=>o7 c r s
  |.ret v=>.ok (.ret v) s)
termination_by structural o
end
noncomputable def qd(ps:af Str)(vs:af V):af (Str×pq):=ps.zip (vs.map .val)
noncomputable def pS(n:Nat)(r:R Fl):R V:=match r with
 |.ok f s=>match(match f with|.ret v=>v|.next=>V.none)with
  |v=>if v.oQ then .ok v ⟨[],s.σ.take n⟩else .ok v ⟨[],s.σ⟩
 |.rQ w p σ=>if w.oQ&&p.oQ then .rQ w p (σ.take n)else .stuck
 |.stuck=>.stuck
noncomputable def o6(g:G)(wf:Nat):Nat->sY
 |0=>λu_ u_ u_=>.stuck
 |n+1=>λf vs σ=>match g.fns f with
  |Option.none=>.stuck
  |some fn=>if fn.params.length=vs.length then pS σ.length (o7 ⟨g,o6 g wf n,wf,fn.names,[]⟩ fn.body ⟨qd fn.params vs++qF fn.params fn.names,σ⟩)else .stuck
noncomputable def Ip:cW->au (Str×Fn)
 |.FunctionDef n a b _ _ _ sc _ _ _=>some (n,⟨a.args.map (·.arg),b,sc.names⟩)
 |_=>aC
noncomputable def Wc(pre:Str)(b:af cW):af (Str×Fn):=(b.filterMap Ip).map λp=>(pre++p.1,p.2)
noncomputable def Sa:af cW->af (Str×Fn)
 |[]=>[]
 |st::r=>(match Ip st with
  |some p=>[p]
  |Option.none=>match st with
   |.ClassDef n _ _ b _ _ _ _ _ _ _=>if n==aa "Evaluator" then Wc (n++aa ".") b else[]
   |_=>[])++Sa r
noncomputable def YT:cW->au (Str×aI)
 |.Assign ts e _=>(oneOf ts).bind λt=>(wi t).map λx=>(x,e)
 |_=>aC
noncomputable def constsOf:af cW->af (Str×V)
 |[]=>[]
 |st::r=>(match YT st with
  |some (x,e)=>(match oO ⟨⟨λu_=>aC,λu_=>aC⟩,λu_ u_ u_=>.stuck,0,[],[]⟩ e ⟨[],[]⟩with
   |.ok v _=>[(x,v)]
   |_=>[])
  |Option.none=>[])++constsOf r
noncomputable def gOf(body:af cW):G:=⟨λx=>(Sa body).lookup x,λx=>if x==aa "__name__" then aC else(constsOf body).lookup x⟩
section
variable(c:MC)(s:St)
theorem GD(k:nE)(n:Nat)(p:Pos):oO c (.Constant k n p) s=yh k s:=rfl
theorem Tc(x:Str)(p:Pos):oO c (.Name x p) s=tZ c x s:=rfl
theorem Ly(op:BoolOp)(vs:af aI)(p:Pos):oO c (.BoolOp op vs p) s=wA (op==.And) (pk c vs) s:=rfl
theorem JE(l:aI)(o:af fv)(cs:af aI)(p:Pos):oO c (.Compare l o cs p) s=(oO c l s).bind λa s=>q8 a o (pk c cs) s:=rfl
theorem Td(o:af (au aI))(vs:af aI)(p:Pos):oO c (.Dict o vs p) s=s8 o vs.length (pk c vs) s:=rfl
theorem Ej(vs:af aI)(p:Pos):oO c (.JoinedStr vs p) s=wB cM (pk c vs) s:=rfl
theorem yi(x:aI)(conv:Int)(o:au aI)(p:Pos):oO c (.FormattedValue x conv o p) s =
  if conv=-1/\o.isNone then(oO c x s).bind λv s=>R.opt ((vu v).map .str) s else .stuck:=rfl
theorem Ek(o:aI)(a:Str)(p:Pos):oO c (.Attribute o a p) s=if sG o then(oO c o s).bind λv s=>wz v a s else .stuck:=rfl
theorem Lz(func:aI)(o:af aI)(y:af j7)(p:Pos):oO c (.Call func o y p) s =
  if y.isEmpty&&uO func o p then s7 c func o (λs=>zJ c func s) (pk c o) s else .stuck:=rfl
theorem JF(x:aI)(p:Pos):oO c (.Starred x p) s=.stuck:=rfl
theorem wD:pk c []=[]:=rfl
theorem rY(e:aI)(r:af aI):pk c (e::r)=(λs=>oO c e s)::pk c r:=rfl
theorem LH(o:aI)(a:Str)(p:Pos):zJ c (.Attribute o a p) s=oO c o s:=rfl
end
theorem oI{y:Type}{o:au y}(a:y){P:y->Prop}(h:o=some a)(H:o.elim fh P):P a:=by subst h;exact H
theorem oA{y:Type}{o:au y}{P:y->Prop}(H:o.elim fh P)(a:y)(h:o=some a):P a:=oI a h H
theorem oE{y:Type}{o:au y}{P:y->Prop}(h:∀a,o=some a->P a):o.elim fh P:=by
 induction o using cT with
 |none=>trivial
 |some a=>exact h a rfl
theorem oM{y z:Type}{o:au y}{f:y->z}{P:y->Prop}{Q:z->Prop}(H:o.elim fh P)(k:∀a,P a->Q (f a)):(o.map f).elim fh Q:=by
 induction o using cT with
 |none=>trivial
 |some a=>exact k a H
noncomputable def R.ns{o:Type}(r:R o)(P:Prop):Prop:=match r with
 |.stuck=>fh
 |_=>P
theorem rI{o:Type}{r:R o}{P:Prop}(h:r≠.stuck)(H:r.ns P):P:=by
 induction r using R.casesOn with
 |stuck=>exact(h rfl).elim
 |_=>exact H
theorem rP{o:Type}{r:R o}{P:Prop}(h:P):r.ns P:=by
 induction r using R.casesOn with
 |stuck=>trivial
 |_=>exact h
theorem Sb{y:Type}{p:Prop}[fR p]{r o:R y}{P:Prop}(h:p->P)(h':o.ns P):(if p then r else o).ns P:=by
 by_cases q:p
 ·exact(aO q).symm▸rP (h q)
 ·exact(aT q).symm▸h'
theorem rE{o:Type}{p:Prop}[fR p]{r:R o}{P:Prop}(h:p->P):(if p then r else .stuck).ns P:=Sb h trivial
theorem uy{e:aI}{x:Str}(h:wi e=some x):∃p,e=.Name x p:=by
 revert x;refine @(oA ?_)
 induction e using aQ with
 |Name y p=>exact⟨p,rfl⟩
 |_=>trivial
theorem Em{e:aI}{es:af aI}(h:Po e=some es):∃n p,e=.Tuple es n p   :=by
 revert es;refine @(oA ?_)
 induction e using aQ with
 |Tuple y n p=>exact⟨n,p,rfl⟩
 |_=>trivial
theorem LL{e:cW}{x:aI}(h:Wa e=some x):∃p,e=.Return (some x) p:=by
 revert x;refine @(oA ?_)
 induction e using PySem.Stmt.casesOn with
 |Return y p=>exact oE λx h=>⟨p,aD (Stmt.Return · p) h⟩
 |_=>trivial
theorem zK{e:aI}{k:nE}(h:Gy e=some k):∃n p,e=.Constant k n p:=by
 revert k;refine @(oA ?_)
 induction e using aQ with
 |Constant k n p=>exact⟨n,p,rfl⟩
 |_=>trivial
theorem yj{e f:aI}{a:af aI}{k:af j7}(h:Eg e=some (f,a,k)):∃p,e=.Call f a k p:=by
 refine oI (P:=λq=>∃p,e=.Call q.1 q.2.1 q.2.2 p) _ h ?_;clear h
 induction e using aQ with
 |Call f a k p=>exact⟨p,rfl⟩
 |_=>trivial
theorem qH{y z:Type}{o:au y}{f:y->au z}{b:z}{C:Prop}(h:o.bind f=some b)(k:∀a,o=some a->f a=some b->C):C:=by
 cases o with
 |none=>exact(nS h).elim
 |some a=>exact k a rfl h
theorem En{e:aI}{x:Str}(h:S9 e=some x):∃n p,e=.Constant (.str x) n p:=qH h λk h1 h2 =>
 (show k=.str x from oI (P:=λx=>k=.str x) x h2 (by clear h1 h2;induction k using gd with|str y=>rfl|_=>trivial))▸zK h1
theorem zL{e:aI}{x:Int}(h:Lu e=some x):∃n p,e=.Constant (.int x) n p:=qH h λk h1 h2 =>
 (show k=.int x from oI (P:=λx=>k=.int x) x h2 (by clear h1 h2;induction k using gd with|int y=>rfl|_=>trivial))▸zK h1
theorem tM{o:Type}{p:Prop}[fR p]{x:au o}{y:o}(h:(if p then x else aC)=some y):p/\x=some y:=by
 by_cases hp:p
 ·rw[aO hp]at h;exact⟨hp,h⟩
 ·rw[aT hp]at h;exact(nS h).elim
theorem yk{o:Type}{l:af o}{x:o}(h:oneOf l=some x):l=[x]:=by
 rcases l with _|⟨y,_|⟨z,r⟩⟩
 ·exact(nS h).elim
 ·exact rg (ai h) rfl
 ·exact(nS h).elim
theorem Pq{o:Type}{l:af o}{x:o×o}(h:two l=some x):l=[x.1,x.2]:=by
 rcases l with _|⟨y,_|⟨z,_|⟨u,r⟩⟩⟩
 ·exact(nS h).elim
 ·exact(nS h).elim
 ·exact rl (ai h) rfl
 ·exact(nS h).elim
theorem uP{e:aI}{r:af aI}{xs:af Str}{C:Prop}(h:namesOf (e::r)=some xs)(k:∀x p ys,e=.Name x p->namesOf r=some ys->xs=x::ys->C):C :=
 qH h λx h1 h2=>(uy h1).elim λp h1=>(Option.map_eq_some_iff.mp h2).elim λys h=>k x p ys h1 h.1 h.2.symm
theorem Eo{c:MC}{e:aI}{C:Prop}(h:xh c e=true)(k:∀f p a w q,e=.Call (.Name f p) a w q->f=aa "EvalFault"->c.g.fns f=none->C):C:=by
 unfold xh at h;cases q:(Eg e).bind λp=>wi p.1 with
 |none=>rw[q]at h;exact(nF h).elim
 |some f =>
  rw[q]at h;refine qH q λg h1 h2=>?_;obtain⟨r,rfl⟩:=yj h1;obtain⟨p,h2⟩:=uy h2;have h:=(aw _ _).mp h;exact k f p g.2.1 g.2.2 r (h2▸rfl) (beq_iff_eq.mp h.1) (Option.isNone_iff_eq_none.mp h.2)
noncomputable def vA(m:Nat):af Nat:=(jt 8).filter λj=>m.testBit j
noncomputable def qI(m:Nat):bx Nat:=(vA m).toArray
noncomputable def vB(m j:Nat):aN:=!((qI m)[cA (qI m) j]?==some j)
theorem LM:∀m<256,∀j<8,vB m j=true->d7 (qI m) (cA (qI m) j) j=qI (m |||2^j)/\(m |||2^j)<256/\cA (qI m) j<=(vA m).length:=by decide +kernel
theorem JG:∀m<256,∀i≤(vA m).length,cA (qI m) (if i=0 then 0 else(vA m).getD (i-1) 0+1)=i:=by decide +kernel
noncomputable def Ep(m:Nat):Nat->Nat->aN
 |0,_=>false
 |n+1,i=>vB m i||Ep m n ((i*5+1)%8)
theorem LN:∀m<256,(vA m).length<=7->∀i<8,Ep m 8 i=true:=by decide +kernel
structure sf(t:eN)(n:Nat):Prop where
 mask:t.mask=7
 dummies:t.dummies=#[]
 plain:t.plain=true
 place:∃m,m<256/\t.place=qI m/\(vA m).length=n
theorem sf.fresh{a b:Nat}{led:aN}:sf (SetTable.fresh a b led) 0:=⟨rfl,rfl,rfl,0,by decide,show #[]=qI 0 by decide +kernel,by decide +kernel⟩
theorem zM{t:eN}{m j:Nat}(hd:t.dummies=#[])(hp:t.place=qI m):t.slot j=if vB m j=true then .empty else .live (cA (qI m) j):=by
 delta SetTable.slot vB;refine(hp).symm▸?_;refine(hd).symm▸?_;have h2:gZ #[] j=false:=by unfold gZ;simp
 refine rg (h2) ?_;cases h:((qI m)[cA (qI m) j]?==some j)
 ·simp[h]
 ·simp[h]
open SetTable in
theorem Er{t:eN}{m:Nat}{h:Int}(hm:m<256)(hk:t.mask=7)(hd:t.dummies=#[])(hp:t.place=qI m)(hl:(vA m).length<=7) :
  ∀(k n:Nat)(p:Probe),p.more=0->p.dummy=none->p.j=p.i->p.i<8->p.perturb<32^k->k+8<=n->∃j,j<8/\vB m j=true/\gK t (λu_=>h+1) h n p=some (.empty j none):=by
 have step:∀(n:Nat)(p:Probe),p.more=0->p.dummy=none->p.j=p.i->p.i<8->vB m p.i=false->gK t (λu_=>h+1) h (n+1) p=gK t (λu_=>h+1) h n {j:=(p.i*5+1+p.perturb/32)%8,more:=0,i:=(p.i*5+1+p.perturb/32)%8,perturb:=p.perturb/32,dummy:=none}:=by
  intro n p h1 h2 o h4 A;rw[gK,zM hd hp,o,A];have sx:((h+1)==h)=false:=by rw[mD];exact gE (S5  (w:=0) (z:=0) (y:=0) (.a .x (.n 1)) (.a .x (.n 1)) rfl )
  simp only[fA,kh,sx]
  congr 1
  unfold advance;rw[h1,aT (by exact Nat.not_lt_of_le (qu .x (.n 0) (.n 0) (.n 0) rfl (ak h1)))]
  unfold leap runEnd;rw[hk,h2];have:¬((p.i*5+1+p.perturb/32)%8+9<=7):=by exact gh (sO  (.a (.n 7) (.n 1)) (.a .x (.n 9)) rfl )
  simp only[this,kh,gz]
 have zd:∀(n:Nat)(p:Probe),p.dummy=none->p.j=p.i->vB m p.i=true->gK t (λu_=>h+1) h (n+1) p=some (.empty p.i none):=by
  intro n p h2 o A;rw[gK,zM hd hp,o,A,h2];rfl
 have zero:∀(q n:Nat)(p:Probe),p.more=0->p.dummy=none->p.j=p.i->p.i<8->p.perturb=0->Ep m q p.i=true->q<=n->∃j,j<8/\vB m j=true/\gK t (λu_=>h+1) h n p=some (.empty j none):=by
  intro q
  induction q with
  |zero=>intro n p _ _ _ _ _ hw;cases hw
  |succ q ih =>
   intro n p h1 h2 o h4 D hw hn;obtain⟨n,rfl⟩:∃C,n=C+1:=⟨n-1,by exact sb (pZ (.a .x (.n 1)) .y (.n 1) .y rfl hn)⟩
   cases hf:vB m p.i with
   |true=>exact⟨p.i,h4,hf,zd n p h2 o hf⟩
   |false =>
    rw[step n p h1 h2 o h4 hf];rw[Ep,hf,eT]at hw;refine ih n _ rfl rfl rfl ?_ ?_ ?_ (by exact pZ (.a .x (.n 1)) (.a .y (.n 1)) .x .y rfl hn)
    ·exact jC _ (by exact qu (.a .x (.n 1)) (.n 8) (.a (.n 0) (.n 1)) (.n 8) rfl h4)
    ·show p.perturb/32=0;rw[D]
    ·show Ep m q ((p.i*5+1+p.perturb/32)%8)=true;rw[D];exact hw
 intro k
 induction k with
 |zero=>intro n p h1 h2 o h4 A hn;exact zero 8 n p h1 h2 o h4 (by exact aZ (qu (.a .x (.n 1)) (.n 1) .x (.n 0) rfl A) (sO  (.n 0) .x rfl )) (LN m hm hl _ h4) (by exact qu (.n 8) .x (.n 8) .x rfl hn)
 |succ k ih =>
  intro n p h1 h2 o h4 A hn;obtain⟨n,rfl⟩:∃C,n=C+1:=⟨n-1,by exact sb (pZ (.a (.a .x (.n 1)) (.n 8)) .y (.n 1) .y rfl hn)⟩
  cases hf:vB m p.i with
  |true=>exact⟨p.i,h4,hf,zd n p h2 o hf⟩
  |false =>
   rw[step n p h1 h2 o h4 hf];refine ih n _ rfl rfl rfl (jC _ (by exact qu (.a .x (.n 1)) (.n 8) (.a (.n 0) (.n 1)) (.n 8) rfl h4)) ?_ (by exact pZ (.a (.a .x (.n 1)) (.n 8)) (.a .y (.n 1)) (.a .x (.n 8)) .y rfl hn)
   show p.perturb/32<32^k;rw[Nat.pow_succ]at A;exact Nat.div_lt_of_lt_mul (lO A (kq _ _))
theorem GF{t:eN}{n:Nat}{h:Int}(ht:sf t n)(hn:n<=7):∃m j,m<256/\t.place=qI m/\(vA m).length=n/\j<8/\vB m j=true/\t.freeSlot h=some (j,false):=by
 refine(let C:Prop:=_;(?_:C))
 refine tq (ht.place) λm hm hp hl=>?_
 have hb:gL h<2^64:=by
  exact(kC (Int.emod_nonneg _ (by decide))).2 (Int.emod_lt_of_pos _ (by decide))
 have JH:kQ 7 (gL h%8)-gL h%8=0:=by
  unfold kQ;exact(aD (· - gL h%8) (aT (Nat.not_le.2 (di (by decide:7<9) (cq 9 _))))).trans (gz _)
 obtain⟨j,hj,hf,he⟩:=Er (h:=h) hm ht.mask ht.dummies hp (by exact vS .x (.n 7) .y .x .y (.n 7) rfl hn (ak hl)) 13 (10*SetTable.turns t.mask) (t.probeStart h)
  (by unfold jV;rw[ht.mask];exact JH) rfl rfl (by unfold jV;rw[ht.mask];exact jC _ (by exact qu .x (.n 7) (.a (.n 0) (.n 1)) (.n 8) rfl hn)) (di hb (by decide)) (by rw[ht.mask];decide)
 refine V6 m j hm hp hl hj hf ?_;delta SetTable.freeSlot SetTable.probe;refine rg (he) ?_;rfl
theorem JI{t:eN}{n:Nat}{h:Int}{x:ag}{es:bx (Int×ag)}(ht:sf t n)(hn:n<=3)(hs:es.size=n):∃o y,layNew t es h x=(o,y,false,false)/\sf y (n+1)/\y.led=t.led/\o.toList.Perm (es.toList++[(h,x)])/\y.tooFull=false/\y.fits (n+1)=true:=by
 refine(let C:Prop:=_;(?_:C))
 refine V0 (GF (h:=h) ht (by exact qu .x (.n 3) .x (.n 7) rfl hn)) λm j hm hp hl hj hf D=>?_
 refine y8 (LM m hm j hj hf) λb1 H z=>?_;have zN:=layNew_perm t es h x
 have pd:(vA (m |||2^j)).length=n+1:=by
  refine(let C:Prop:=_;(?_:C))
  have:=aD Array.size b1;unfold d7 qI at this;simp at this;have A:cA (vA m).toArray j<=(vA m).length:=z;exact this.symm.trans ((aD (· + _) (gF A)).trans (aD (· + 1) ((lu A).trans hl)))
 have YU:t.put j=({t with place:=qI (m |||2^j),dummies:=#[]},cA (qI m) j):=by
  unfold SetTable.put;dsimp only;refine rg (hp) ?_;refine rg (b1) ?_;refine(ht.dummies).symm▸?_;have h2:gZ #[] j=false:=by unfold gZ;simp
  simp only[h2,fA,kh]
 have hes:(d7 es (cA (qI m) j) (h,x)).size=n+1:=by
  unfold d7;simp;have q:cA (qI m) j<=es.size:=aB z (ak (hl.trans hs.symm));exact(aD (· + 1+_) (gF q)).trans ((ir ..).trans (aD (· + 1) ((lu q).trans hs)))
 have Pr:({t with place:=qI (m |||2^j),dummies:=#[]}:eN).fits (n+1)=true:=by
  delta lL lM qI;simp only[bo,pd,ht.mask,aw,nk,cC,true_and];simp;exact qu .x (.n 3) .x (.n 6) rfl hn
 have LO:layNew t es h x=(d7 es (cA (qI m) j) (h,x),{t with place:=qI (m |||2^j),dummies:=#[]},false,false):=by
  unfold layNew;refine rg (D ..) ?_;dsimp only;refine rg (YU) ?_;unfold SetTable.orStandIn;refine(hes).symm▸?_;refine(Pr).symm▸?_;rfl
 refine V6 _ _ LO ⟨ht.mask,rfl,ht.plain,_,H,rfl,pd⟩ rfl ?_ ?_ Pr
 ·rw[LO]at zN;simp only[lC]at zN;exact zN
 ·delta SetTable.tooFull lM qI;simp only[bo,pd,ht.mask];simp;exact cI (dS 5 (ax hn)) (by decide)
end
section
open PySem PySem.Calls PyProof.Rows
noncomputable abbrev qo(w:bQ):aN:=w.params.followText "set-order"
noncomputable abbrev rU(es:bx (Int×ag))(ep:Nat)(t:eN):Obj:={cls:=.type "set", dict:=none,data:=.set es ep t,slots:=#[]}
noncomputable def tN(e:Int×ag):Int:=match e.2 with
 |.int k _=>k
 |_=>0
section
variable(prog:b0)(w:bQ)
structure aca(o:Obj)(ks:af Int):Prop where
 ex:∃es ep t,o=rU es ep t/\(∀e∈es.toList,∃k tk,e=((dD prog w).hash k,.int k tk))/\(es.toList.map tN).Perm ks/\sf t es.size/\t.fits es.size=true/\t.led=!qo w/\es.size<=4
end
section
variable{prog:b0}{w:bQ}{A:aX}{E:ag->ah->Prop}{s:ah}
theorem LQ{es:bx (Int×ag)}(h:∀e∈es.toList,∃k tk,e=((dD prog w).hash k,.int k tk)):ElemsOf (dD prog w) es.toList:=λe y=>by
 refine uK (h e y) λk tk o=>?_;subst o;exact⟨(o5 k (kg _ _ _ _) rfl),rfl⟩
theorem LS{es:af (Int×ag)}{k:Int}(h:∀e∈es,∃k tk,e=((dD prog w).hash k,.int k tk)):(es.findIdx? λe=>(dD prog w).is k e.2).isSome=(es.map tN).contains k:=by
 induction es with
 |nil=>rfl
 |cons e r ih =>
  refine uK (h e az) λo tk y=>?_;subst y;have h2:=ih λx hx=>h x (aA _ hx);simp only[List.findIdx?_cons,a6,fy];have z:(dD prog w).is k (.int o tk)=decide (k=o):=KeyKind.is_eq_decide (kg _ _ _ _) k;refine(z).symm▸?_;show _=((k==o)||_)
  by_cases hk:k=o
  ·subst hk;simp
  ·rw[eh hk,show(k==o)=false from beq_eq_false_iff_ne.mpr hk,eT,<-h2];simp
theorem LU {a:ay} {es:bx (Int×ag)} {ep:Nat} {t:eN} {k:Int} {tk:Tok} {Q:aN->ah->Prop} (ho:s.heap.get? a=some (rU es ep t))
  (C:∀e∈es.toList,∃k tk,e=((dD prog w).hash k,.int k tk)) (ht:sf t es.size) (hf:t.fits es.size=true) (hl:t.led=!qo w) (hn:es.size<=3)
  (h:∀h' o T z b,fm a s.heap h'->h'.get? a=some (rU o T z)->(∀e∈o.toList,∃k tk,e=((dD prog w).hash k,.int k tk))->sf z o.size->z.fits o.size=true->z.led=(!qo w)->o.size<=es.size+1 ->
   (o.toList.map tN).Perm (if(es.toList.map tN).contains k=true then es.toList.map tN else es.toList.map tN++[k])->Q b {s with heap:=h'}) :
  wpAny (model prog w) A (setAddHashed a (.int k tk) ((dD prog w).hash k)) Q E s:=by
 have Wd:=LQ C;have hd:(rU es ep t).data=.set es ep t:=rfl;refine a7 (ae (dW ho hd hf ?_));dsimp only;rw[byScan_of (knd:=dD prog w) rfl (by unfold scanBound;exact qu .x (.n 3) (.a .x (.n 1)) (.n 4096) rfl hn) Wd]
 refine ae ?_;refine ae (fb ?_);refine ae (wpAny_setScan_of (knd:=dD prog w) (kg _ _ _ _) ho hd hf Wd ?_);have Yn:=LS (k:=k) C;cases hr:List.findIdx? (λe=>(dD prog w).is k e.2) es.toList with
 |some j =>
  rw[hr]at Yn;refine aj (aj ?_);have e:s={s with heap:=s.heap}:=by cases s;rfl
  refine h s.heap es ep t false (oz a s.heap) ho C ht hf hl (by exact sO  .x (.a .x (.n 1)) rfl ) ?_
  exact(Yn)▸(kW _)
 |none =>
  rw[hr]at Yn;refine V0 (JI (h:=(dD prog w).hash k) (x:=.int k tk) (es:=es) ht hn rfl) λo z LO M O zN D Pr=>?_;refine(LO).symm▸?_;refine ae (aj ?_);refine(M.plain).symm▸?_;refine ae (ae (aj ?_));refine aj ?_;have hsz:o.size=es.size+1:=by rw[<-aM,zN.length_eq];simp
  have Pb:(s.heap.update a (Obj.putSet o z)).get? a=some (rU o (ep+1) z):=by
   have:=bu (Obj.putSet o z) ho (aD _ (putSet_of o z hd));exact this
  refine ae (wpAny_storeSet_of ho hd ?_ (fits_of_scanBound (n:=o.size) (by unfold scanBound;exact vS .x (.a .y (.n 1)) .y (.n 3) (.a .x (.n 1)) (.n 4096) rfl (ak hsz) hn)))
  refine(D).symm▸?_;refine aj (aj ?_);refine h _ o (ep+1) z true (bK s.heap a _) Pb ?_ (hsz▸M) (hsz▸Pr) (O.trans hl) (by exact pZ .x (.a .y (.n 1)) .x (.a .y (.n 1)) rfl (ak hsz)) ?_
  ·intro e H;refine(List.mem_append.mp (zN.mem_iff.mp H)).elim (λH=>?_) (λH=>?_)
   ·exact C e H
   ·rw[d8]at H;exact zD k tk H
  ·refine(Yn)▸?_;have:=zN.map tN;simp only[bw]at this;exact this
end
noncomputable def wj(prog:b0)(w:bQ)(ns:af Int)(h:bP)(a:ay)(i:Nat):Prop :=
 ∃es ep t,h.get? a=some (rU es ep t)/\(∀e∈es.toList,∃k tk,e=((dD prog w).hash k,.int k tk))/\sf t es.size/\t.fits es.size=true/\t.led=(!qo w)/\es.size<=i/\(es.toList.map tN).Nodup/\(∀k,k∈es.toList.map tN↔k∈ns.take i)
theorem wj.moved{prog:b0}{w:bQ}{ns:af Int}{h h':bP}{a:ay}{i:Nat}(x:wj prog w ns h a i)(e:∀o,h.get? a=some o->h'.get? a=some o):wj prog w ns h' a i:=by
 refine y9 (x) λes ep t ho r=>?_;exact zb es ep t (e _ ho) r
theorem GG:∀{vs:af ag} {ns:af Int} {i:Nat} {v:ag},gU vs ns->vs[i]?=some v->∃k tk,ns[i]?=some k/\v=.int k tk:=by
 intro vs ns i v h hv;refine p8 (IntsAre.int_at h i v hv) λtk o=>?_;subst o;have hl:=iT h;have hi:=(List.getElem?_eq_some_iff.mp hv).1;refine uL (ns.getD i 0) tk ?_ rfl;rw[ju,aW (by exact uJ .x .y (.a .z (.n 1)) .x (.a .z (.n 1)) .y rfl (ak hl) hi)];rfl
section
variable{prog:b0}{w:bQ}{A:aX}{R:eO->ah->Prop}{I:ay}{fp wr:af ay}{G:bx eR->bx eR->Prop}{n:Nat}{P:Nat->ag->Prop}{St:Nat->ah->Prop}{ns:af Int}
theorem LV(W:WalksS prog w A.in1 I fp wr G n P St)(a:ay)(ha:a∉fp)(hP:∀i v,P i v->∃k tk,ns[i]?=some k/\v=.int k tk)(hn:n<=4) :
  ∀(k i:Nat)(s:ah),i+k=n->St i s->wj prog w ns s.heap a i->(∀D,Moved (a::wr) G s D->wj prog w ns D.heap a n->R (.ok (.ret .none)) D) ->
   cF (model prog w) A (.builtin "set.update.loop" ⟨[.ref a,.ref I],[]⟩) R s:=by
 have haw:a∉wr:=λh=>ha (W.sub _ h);have vq:∀b∈wr,b∈a::wr:=λb hb=>aA _ hb;intro k
 induction k with
 |zero =>
  intro i s hk st hS hR;refine(let C:Prop:=_;(?_:C))
  obtain rfl:i=n:=by omega
  refine du fO ?_;refine(?_:wpAny _ A.in1 (pyNext (.ref I) >>= _) _ _ s);refine ae (W.done s _ _ st λD hm=>?_);exact aj (hR D (hm.mono vq) (hS.moved λo e=>hm.heap a o haw e))
 |succ k ih =>
  intro i s hk st hS hR;refine du fO ?_;refine(?_:wpAny _ A.in1 (pyNext (.ref I) >>= _) _ _ s);refine ae (W.item i s _ _ (by exact ye (.a .x (.a .y (.n 1))) .z (.a .x (.n 1)) .z rfl (ak hk)) st λv D hv Y hm=>?_)
  refine(let C:Prop:=_;(?_:C))
  refine tW (hP i v hv) λz tk hz H=>?_;subst H;obtain⟨es,ep,t,ho,h1,h2,h3,h4,h5,h6,h7⟩:=hS.moved (h':=D.heap) λo e=>hm.heap a o haw e;show wpAny _ A.in1 (fJ [cH z tk] (setAdd a (.int z tk)) >>= _) _ _ D;refine ae (a7 ?_);refine a7 (ae ((dD prog w).pyHash (k:=z) (kg _ _ _ _) ?_));refine LU (s:={D with toks:=D.toks+1}) ho h1 h2 h3 h4 (by exact CJ .x (.n 4) .y .z (.a .z (.a .w (.n 1))) .x .y (.n 3) rfl hn h5 (ak hk)) λh' Sd ep' t' b M Pt q1 q2 q3 q4 q5 q6=>?_
  have O:wj prog w ns h' a (i+1):=by
   refine⟨Sd,ep',t',Pt,q1,q2,q3,q4,by exact uJ .x .y .z (.a .x (.n 1)) .z (.a .y (.n 1)) rfl h5 q5,?_,λx=>?_⟩
   ·simp only[q6.nodup_iff];split
    ·exact h6
    ·rename_i hc;refine List.nodup_append.mpr ⟨h6,by simp,λx hx y hy=>?_⟩
     rw[d8]at hy;cases hy;rintro rfl;exact hc (List.contains_iff_mem.mpr hx)
   ·rw[q6.mem_iff,List.take_add_one,hz,mj,Option.toList_some,d8,<-h7 x];split
    ·rename_i hc;have:=List.contains_iff_mem.mp hc;exact⟨.inl,λh=>h.elim id λe=>e▸this⟩
    ·rw[mj,d8]
  refine aj ⟨kO nv _,ih (i+1) _ (by exact aZ (ye (.a .x (.a .y (.n 1))) .z (.a (.a .x (.n 1)) .y) .z rfl (ak hk)) (ye .x (.a .y (.a .z (.n 1))) .x (.a (.a .y (.n 1)) .z) rfl (ak hk.symm))) (W.frame _ D _ _ Y (dT _) λb hb o e=>?_) O λs'' T U=>?_⟩
  ·rw[M.2 b λh:b=a=>ha (h▸hb)];exact e
  ·refine hR s'' (Moved.trans W.gtrans ((hm.mono vq).then_heap (dT _) λb o hb e=>?_) T) U;rw[M.2 b λh:b=a=>hb ((h)▸az)];exact e
end
section
variable{prog:b0}{w:bQ}{A:aX}{E:ag->ah->Prop}{s:ah}
noncomputable abbrev tO(w:bQ):Obj:=rU #[] 0 (.fresh 0 0 (!qo w))
theorem Pu(a:ag){Q₁:ag->ah->Prop}(h:Q₁ (.ref s.heap.objs.size) {s with heap:=s.heap.push (tO w)}) :
  cF (model prog w) A (.call (.builtin "set.__new__") ⟨[.type "set", a],[]⟩) (wants Q₁ E) s:=by
 refine cz ?_;refine ae (cw (PySem.F.newCall_set_1 a) (aj ⟨kO PySem.F.plain_set_new _,du PySem.F.entry_set_new ?_⟩));have vq:=sub_set_self;obtain⟨hp,g,d,tk,os⟩:=s
 wp_walk
 refine d4 (aj ?_);exact ae (wpAny_alloc (aj (aj h)))
theorem LW {a l:ay} {items:bx ag} {ns:af Int} {R:eO->ah->Prop} (hh:A.handled=none) (hl:s.heap.IsList l items) (hi:gU items.toList ns) (hn:items.size<=4) (We:a≠l) (ha:s.heap.get? a=some (tO w))
  (hR:∀h' tk,wj prog w ns h' a items.size->(∀b o,b≠a->s.heap.get? b=some o->h'.get? b=some o)->R (.ok (.ret .none)) {s with heap:=h',toks:=tk}) :
  wpAny (model prog w) A.in1 (c0.«set.__init__» ⟨[.ref a,.ref l],[]⟩)
   (λfin z=>match fin with|.done f=>R (.ok f) z|.again c'=>c'.quiet=true/\cF (model prog w) A c' R z) (λe z=>R (.error e) z) s:=by
 obtain⟨D,VG,hcl,nl,Te⟩:=id hl;have hTa:s.TypeIs (.ref a) "set":=(o5 _ ha rfl);have hTl:s.TypeIs (.ref l) "list":=(o5 _ VG hcl);have acd:=PySem.F.sub_list_set;have ace:=PySem.F.sub_list_frozenset;obtain⟨C,abl,abm,YV⟩:=D;simp only at hcl Te;delta c0.«set.__init__» noKeywords mu;generalize hPI:pyIter=PI
 wp_walk
 subst hPI;refine gp hl ?_;refine ae (wpAny_runValue ?_);have YW:l<s.heap.objs.size:=aS VG;have haS:a<s.heap.objs.size:=aS ha;have Yo:A.in1.in1.handled=none:=by simp[hh]
 have hI:a∉[s.heap.objs.size,l]:=by
  simp only[bk,bf,dn,gR];exact⟨a5 haS,We⟩
 refine LV (ns:=ns) ((kP Yo s.heap.objs.size l (a5 YW) items).toS) a hI (λi v hv=>GG hi ((cD)▸hv)) hn items.size 0 _ (by exact aZ (sO  (.a (.n 0) .x) .x rfl ) (sO  .x (.a (.n 0) .x) rfl )) ⟨(qZ _ (aF _ rfl) rfl rfl),hl.push _⟩ ?_ ?_
 ·refine⟨#[],0,.fresh 0 0 (!qo w),aq _ ha,λe H=>by simp at H,sf.fresh,by rfl,rfl,bL _,.nil,λk=>by simp⟩
 ·intro z hm hS;refine(Moved.eq_with hm).symm▸?_;refine aj ?_
  exact aj (hR z.heap z.toks hS λb o hb e=>hm.heap b o (λy=>by
   refine(List.mem_cons.mp y).elim (λe'=>?_) (λy=>?_)
   ·exact hb e'
   ·exact absurd (aS e) ((List.mem_singleton.mp y)▸dK _)) (aq _ e))
theorem LX {l:ay} {items:bx ag} {ns:af Int} {Q:ag->ah->Prop} (hh:A.handled=none) (hl:s.heap.IsList l items) (hi:gU items.toList ns) (hn:items.size<=4)
  (h:∀h' tk,wj prog w ns h' s.heap.objs.size items.size->(∀b o,s.heap.get? b=some o->h'.get? b=some o)->Q (.ref s.heap.objs.size) {s with heap:=h',toks:=tk}) :
  wpAny (model prog w) A (call (.type "set") [.ref l]) Q E s:=by
 refine(let C:Prop:=_;(?_:C))
 refine uK (PySem.F.called_set.mro) λc tl U=>?_;have abn:=PySem.F.called_set.made;have vq:=PySem.F.called_set.sub;refine fe (cz ?_);show wpAny _ _ (nq (.type "set") _) _ _ _;refine aj ⟨dF _ (by decide +kernel),du PySem.F.entry_type_call ?_⟩
 rw[Around.under_plain (weight_type_call_type "set" [.ref l] []) rfl];have h1:=PySem.F.called_set.notType;have h2:=PySem.F.called_set.canCreate;have hct:=PySem.F.typeCall_set_1 (.ref l);repeat(any_goals(first|assumption|wp_step))
 refine jd (Pu (.ref l) (E:=E) (Q₁:=λobj z=>obj=.ref s.heap.objs.size/\z={s with heap:=s.heap.push (tO w)}) ⟨rfl,rfl⟩) λr z hr=>?_
 cases r with
 |error e=>exact hr
 |ok fl =>
  cases fl with
  |ret obj =>
   obtain⟨rfl,rfl⟩:=hr;have hS:(s.heap.push (tO w)).get? s.heap.objs.size=some (tO w):=aF _ rfl;have hT:Shared.TypeIs {s with heap:=s.heap.push (tO w)} (.ref s.heap.objs.size) "set":=⟨_,hS,rfl⟩
   have Y:=PySem.F.called_set.init.lookup;have hbi:=PySem.F.called_set.init.bind (.ref s.heap.objs.size);repeat(any_goals(first|assumption|wp_step))
   have YW:l<s.heap.objs.size:=by refine o8 (hl) λo ho u_=>?_;exact aS ho
   refine jd (ip (R:=wants (λr D=>r=.none/\∃h' tk,D={s with heap:=h',toks:=tk}/\wj prog w ns h' s.heap.objs.size items.size/\(∀b o,s.heap.get? b=some o->h'.get? b=some o)) E) PySem.F.called_set.init.plain PySem.F.entry_set_init (check_set_init_1 hT ?_)) λO D y=>?_
   ·refine LW (s:={s with heap:=s.heap.push (tO w)}) (by simp[hh]) (hl.push _) hi hn (bj YW) hS λh' tk H hk=>?_
    exact⟨rfl,h',tk,rfl,H,λb o e=>hk b o (a5 (aS e)) (aq _ e)⟩
   ·cases O with
    |error e=>exact y
    |ok M =>
     cases M with
     |ret r =>
      obtain⟨rfl,h',tk,rfl,H,T⟩:=y;repeat(any_goals(first|assumption|wp_step))
      exact h _ _ H T
     |_=>exact y.elim
  |_=>exact hr.elim
end
theorem vW:Slot "set_iterator" "__next__" "set_iterator.__next__" :=
 .of (owner:="set_iterator") (n:="__next__") (by rw[dQ,cU];kernel_rfl) (by decide +kernel) (by decide +kernel) (by decide +kernel)
  (by first|exact .inl (by decide +kernel)|exact .inr (by decide +kernel)) (by rw[dp];kernel_rfl)
theorem Iq:Slot "set_iterator" "__iter__" "set_iterator.__iter__" :=
 .of (owner:="set_iterator") (n:="__iter__") (by rw[dQ,cU];kernel_rfl) (by decide +kernel) (by decide +kernel) (by decide +kernel)
  (by first|exact .inl (by decide +kernel)|exact .inr (by decide +kernel)) (by rw[dp];kernel_rfl)
theorem wm:jc table "set_iterator.__next__"=some c0.«set_iterator.__next__»:=jA (by kernel_rfl)
theorem Bk:jc table "set_iterator.__iter__"=some c0.«dict_keyiterator.__iter__» :=
 ki (id':="dict_keyiterator.__iter__") (by kernel_rfl) rfl (by decide +kernel) (by kernel_rfl)
theorem CM:jc table "set.__iter__"=some c0.«frozenset.__iter__» :=
 ki (id':="frozenset.__iter__") (by kernel_rfl) rfl (by decide +kernel) (by kernel_rfl)
theorem xi(a:ag):lJ "set_iterator.__next__" ⟨[a],[]⟩:=by
 kernel_rfl
theorem CN(a:ag):lJ "set_iterator.__iter__" ⟨[a],[]⟩:=by
 kernel_rfl
noncomputable def t7(w:bQ)(a:ay)(es:bx (Int×ag))(ep:Nat):bx (Int×ag):=if qo w=true then nO (w.params.setOrder a ep) es else es
set_option tactic.hygienic true in
theorem JJ{C:Type}(next:Nat->Nat):∀(o k:Nat)(l:af C)(out:bx C),l.length<=o->(lG next o k l out).toList.Perm (out.toList++l):=by
 intro o
 induction o with
 |zero =>
  intro k l out h;obtain rfl:l=[]:=iS (by exact aZ (qu .x (.n 0) .x (.n 0) rfl h) (sO  (.n 0) .x rfl ))
  show(out.toList).Perm _;rw[aY]
 |succ n ih =>
  intro k l out h;show(match l[next k%l.length]? with|some x=>lG next n (k+1) (l.eraseIdx (next k%l.length)) (out.push x)|none=>out).toList.Perm _
  split
  ·rename_i x hx;have hi:=(List.getElem?_eq_some_iff.mp hx).1;refine(ih _ _ _ (by rw[List.length_eraseIdx];rw[aO hi];exact uJ (.a .x (.n 1)) .y .y (.a .z (.n 1)) .x .z rfl (ak (ck (pZ (.a .x (.n 1)) .y (.n 1) .y rfl hi))) h)).trans ?_
   refine rg (lC ..) ?_;refine rg (a8 ..) ?_;refine List.Perm.append_left _ ?_;have h2:=(List.getElem?_eq_some_iff.mp hx).2;refine rg (List.eraseIdx_eq_take_drop_succ ..) ?_;refine rl (h2 ..) ?_;show(l[next k%l.length]::(List.take (next k%l.length) l++List.drop (next k%l.length+1) l)).Perm l;refine List.perm_middle.symm.trans ?_;refine rl (dm hi) ?_;rw[List.take_append_drop]
  ·rename_i hx
   induction l using bN with
   |nil=>rw[aY]
   |cons y r =>
    rw[List.getElem?_eq_none_iff]at hx;have:=jC (next k) (show 0<(y::r).length by simp)
    lia
theorem zO{w:bQ}{a:ay}{es:bx (Int×ag)}{ep:Nat}:(t7 w a es ep).toList.Perm es.toList:=by
 unfold t7;split
 ·have:=JJ (w.params.setOrder a ep) es.size 0 es.toList #[] (by simp)
  exact this.trans (by rw[eY])
 ·exact kW _
theorem xj{w:bQ}{a:ay}{es:bx (Int×ag)}{ep:Nat}:(t7 w a es ep).size=es.size:=by
 have:=(zO (w:=w) (a:=a) (es:=es) (ep:=ep)).length_eq
 simpa using this
noncomputable def slotAt(w:bQ)(t:eN)(i:Nat):Nat:=if qo w=true then 0 else if i=0 then 0 else(t.place.toList.getD (i-1) 0)+1
noncomputable abbrev sg(w:bQ)(a:ay)(t:eN)(n ep i:Nat):Obj:={cls:=.type "set_iterator", dict:=none,data:=.fields #[.int (slotAt w t i) 0,.int i 0,.ref a,.int n 0,.int ep 0],slots:=#[]}
section
variable{prog:b0}{w:bQ}{A:aX}{E:ag->ah->Prop}{s:ah}{a:ay}{es:bx (Int×ag)}{ep:Nat}{t:eN}
theorem sh{Q:aN->ah->Prop}(h:Q (qo w) s):wpAny (model prog w) A setsByText Q E s:=by
 exact ae (d4 (aj h))
theorem GH{Q:ag->ah->Prop}(ho:s.heap.get? a=some (rU es ep t))(ht:sf t es.size)(hf:t.fits es.size=true)(h:Q (.ref s.heap.objs.size) {s with heap:=s.heap.push (sg w a t es.size ep 0)}) :
  wpAny (model prog w) A (pyIter (.ref a)) Q E s:=by
 have hT:s.TypeIs (.ref a) "set":=(o5 _ ho rfl);refine gm hT jL (bE jL hT CM ?_ (PySem.F.args_set_iter_1 _));refine ae ?_;refine ae (aj ?_);refine aj ?_;refine ae ?_;refine ae (iA ho rfl hf (aj ?_));refine ae ?_;refine ae (dW ho rfl hf ?_);refine ae (sh ?_);refine aj ?_;refine(let C:Prop:=_;(?_:C))
 have Wf:¬((!qo w&&(!t.plain&&decide (es.size>1)))=true):=by rw[ht.plain];simp
 refine(?_:wpAny _ _ (if(!qo w&&(!t.plain&&decide (es.size>1)))=true then _ else _) _ _ s)
 refine rg (aT Wf) ?_;refine(let C:Prop:=_;(?_:C))
 refine ae (aj ?_);refine ae (wpAny_setEpoch_of ho rfl hf ?_);refine ae (aV (aj ⟨_,rfl,"set_iterator", _,(o5 _ (aF _ rfl) rfl),vW.lookup,?_⟩));have hs0:slotAt w t 0=0:=by unfold slotAt;simp
 have e:sg w a t es.size ep 0={cls:=.type "set_iterator", data:=.fields #[c7 0,c7 0,.ref a,c7 es.size,c7 ep]}:=by
  unfold sg;refine rg (hs0) ?_;rfl
 rw[e]at h;exact h
theorem Bl{o:ay}{n i:Nat}{Q:ag->ah->Prop}(ho:s.heap.get? o=some (sg w a t n ep i))(h:Q (.ref o) s):wpAny (model prog w) A (pyIter (.ref o)) Q E s:=by
 have hT:s.TypeIs (.ref o) "set_iterator":=(o5 _ ho rfl);refine gm hT Iq (bE Iq hT Bk ?_ (CN _));exact aj ⟨_,rfl,"set_iterator", _,hT,vW.lookup,h⟩
theorem BZ(ht:sf t es.size)(hb:qo w=false){i:Nat}(hi:i<=es.size):cA t.place (slotAt w t i)=i:=by
 refine tq (ht.place) λm hm hp hl=>?_;have:=JG m hm i (by exact uJ .x .y .y .z .x .z rfl hi (ak hl.symm))
 unfold slotAt;refine(hb).symm▸?_;refine(hp).symm▸?_;exact this
theorem wF {i:Nat} {x:Int×ag} {Q:au (ag×Nat)->ah->Prop} (ho:s.heap.get? a=some (rU es ep t)) (ht:sf t es.size) (hf:t.fits es.size=true) (hl:t.led=(!qo w))
  (hx:(t7 w a es ep)[i]?=some x) (h:Q (some (x.2,slotAt w t (i+1))) s):wpAny (model prog w) A (setNext a (slotAt w t i) i ep) Q E s:=by
 have hi:i<es.size:=by rw[<-xj (w:=w) (a:=a) (ep:=ep)];exact(Array.getElem?_eq_some_iff.mp hx).1
 refine ae (dW ho rfl hf ?_);refine ae (sh ?_);cases hb:qo w with
 |true =>
  simp only[↓reduceIte];refine rg (aT (by simp)) ?_
  refine(let C:Prop:=_;(?_:C))
  refine ae ?_;refine ae (dW ho rfl hf ?_);refine ae (sh ?_);refine(hb).symm▸?_;refine ae (d4 (aj (aj ?_)));unfold t7 at hx;replace hx:=(hb)▸hx;replace hx:=(aO rfl)▸hx;refine(?_:Q (cO (λe=>(e.snd,slotAt w t i)) (nO (w.params.setOrder a ep) es)[i]?) s);refine(hx).symm▸?_;unfold slotAt at h ⊢;rw[hb]at h ⊢;exact h
 |false =>
  have hsl:=BZ ht hb (i:=i) (by exact pZ (.a .x (.n 1)) .y .x .y rfl hi)
  have Wf:¬((!t.plain&&decide (es.size>1))=true):=by rw[ht.plain];simp
  refine(?_:wpAny _ _ (if(!t.plain&&decide (es.size>1))=true then _ else _) _ _ s)
  refine rg (aT Wf) ?_;refine ae ?_;refine(?_:wpAny _ _ (if(!t.led&&!es.isEmpty)=true then unsupported "set:maker-not-led" else pure ()) _ _ s)
  refine rg (aT (by rw[hl,hb];simp)) ?_
  refine aj (aj ?_)
  have Pc:t.place.size=es.size:=by
   unfold lL at hf;rw[aw,fg]at hf;exact hf.1
  unfold t7 at hx;rw[hb]at hx;refine rg (hsl) ?_;refine(hx).symm▸?_;refine(bV (show i<t.place.size by exact uJ (.a .x (.n 1)) .y .y .z (.a .x (.n 1)) .z rfl hi (ak Pc.symm))).symm▸?_
  unfold slotAt at h;simp only[fA,kh,fH]at h;rw[aT (by lia),ju,cD,bV (show i<t.place.size by exact uJ (.a .x (.n 1)) .y .y .z (.a .x (.n 1)) .z rfl hi (ak Pc.symm))]at h
  exact h
theorem xk {Q:au (ag×Nat)->ah->Prop} (ho:s.heap.get? a=some (rU es ep t)) (ht:sf t es.size) (hf:t.fits es.size=true) (hl:t.led=(!qo w))
  (h:Q none s):wpAny (model prog w) A (setNext a (slotAt w t es.size) es.size ep) Q E s:=by
 refine ae (dW ho rfl hf ?_);refine ae (sh ?_);cases hb:qo w with
 |true =>
  simp only[↓reduceIte];refine rg (aT (by simp)) ?_
  refine ae ?_;refine ae (dW ho rfl hf ?_);refine ae (sh ?_);refine(hb).symm▸?_;refine ae (d4 (aj (aj ?_)));refine(let C:Prop:=_;(?_:C))
  have:=xj (w:=w) (a:=a) (es:=es) (ep:=ep);unfold t7 at this;refine(?_:Q (cO (λe=>(e.snd,slotAt w t es.size)) (nO (w.params.setOrder a ep) es)[es.size]?) s);refine rg (ef (by lia)) ?_
  exact h
 |false =>
  have hsl:=BZ ht hb (i:=es.size) (aL _);have Wf:¬((!t.plain&&decide (es.size>1))=true):=by rw[ht.plain];simp
  refine(?_:wpAny _ _ (if(!t.plain&&decide (es.size>1))=true then _ else _) _ _ s)
  refine rg (aT Wf) ?_;refine ae ?_;refine(?_:wpAny _ _ (if(!t.led&&!es.isEmpty)=true then unsupported "set:maker-not-led" else pure ()) _ _ s)
  refine rg (aT (by rw[hl,hb];simp)) ?_
  refine aj (aj ?_);refine rg (hsl) ?_;refine(ef (aL _)).symm▸?_;exact h
theorem Bm {y:ay} {i:Nat} {x:Int×ag} {Q:au ag->ah->Prop} (zd:s.heap.get? y=some (sg w a t es.size ep i)) (ho:s.heap.get? a=some (rU es ep t)) (ht:sf t es.size) (hf:t.fits es.size=true) (hl:t.led=(!qo w))
  (hx:(t7 w a es ep)[i]?=some x) (h:∀h',h'.get? y=some (sg w a t es.size ep (i+1))->fm y s.heap h'->Q (some x.2) {s with heap:=h'}):wpAny (model prog w) A (pyNext (.ref y)) Q E s:=by
 have hT:s.TypeIs (.ref y) "set_iterator":=(o5 _ zd rfl);refine ae (dR (bU (name:=aa "__next__") hT vW (bE vW hT wm ?_ (xi _))));refine ae ?_;refine ae (aj ?_);refine aj ?_;refine ae (wpAny_fieldsOf zd rfl ?_);dsimp only;refine ae (iA ho rfl hf ?_);refine rg (aT (by simp)) ?_
 refine ae (wF ho ht hf hl hx ?_);refine ae (cv zd rfl (by simp) ?_)
 have ho1:=bu (da (·.setIfInBounds 0 (c7 (slotAt w t (i+1):Nat)))) zd (b6 (bS (o:=sg w a t es.size ep i) rfl _));refine ae (cv ho1 (by rw[bS (o:=sg w a t es.size ep i) rfl]) (by simp) ?_)
 refine aj (o5 _ rfl (aj (h _ ?_ ?_)))
 ·refine rg (bu _ ho1 (b6 (bS (o:=da _ (sg w a t es.size ep i)) rfl _))) ?_;rfl
 ·exact(bK s.heap y _).trans (bK _ y _)
theorem CO {o:ay} {Q:au ag->ah->Prop} (hh:A.handled=none) (zd:s.heap.get? o=some (sg w a t es.size ep es.size)) (ho:s.heap.get? a=some (rU es ep t)) (ht:sf t es.size) (hf:t.fits es.size=true) (hl:t.led=(!qo w))
  (h:∀h',nZ o s.heap h'->Q none {s with heap:=h'}):wpAny (model prog w) A (pyNext (.ref o)) Q E s:=by
 have hT:s.TypeIs (.ref o) "set_iterator":=(o5 _ zd rfl);refine ae (dR (bU (name:=aa "__next__") hT vW (bE vW hT wm ?_ (xi _))));refine ae ?_;refine ae (aj ?_);refine aj ?_;refine ae (wpAny_fieldsOf zd rfl ?_);dsimp only;refine ae (iA ho rfl hf ?_);refine rg (aT (by simp)) ?_
 refine ae (xk ho ht hf hl ?_);refine ae (cv zd rfl (by simp) ?_)
 show wpAny _ _ (newExc (.type "StopIteration") [] >>= _) _ _ _;refine ae ?_;refine ae (aV ?_ (by size_fits))
 refine ae (m:=eE _ _) (cw (a:=cf) (by first|rfl|(simp only[eE];rfl)) ?_)
 refine aV ?_ (by size_fits)
 refine ae (kN ?_);refine(show A.in1.handled=none from hh).symm▸?_;refine ae (aj (jI ?_));refine ae (fc (T:="StopIteration") (b:=true) (o5 _ (aF _ rfl) rfl) kf ?_);exact aj (h _ (((bK ..).extBut.push _).push _))
theorem JK(hh:A.handled=none)(I:ay)(sx:a≠I)(ht:sf t es.size)(hf:t.fits es.size=true)(hl:t.led=(!qo w)) :
  Walks prog w A I [I,a] [I] es.size (λi v=>∃x,(t7 w a es ep)[i]?=some x/\v=x.2) (λi h=>h.get? I=some (sg w a t es.size ep i)/\h.get? a=some (rU es ep t)) where
 sub:=λb hb=>by simp at hb;simp[hb]
 frame:=λu_ u_ u_ st hk=>⟨hk I (by simp) _ st.1,hk a (by simp) _ st.2⟩
 item:=λi s Q E hi st y=>by
  have z:i<(t7 w a es ep).size:=rg (xj ..) hi;refine Bm st.1 st.2 ht hf hl (bV z) λh' h1 hs=>?_;exact y _ h' s.toks (o5 _ (bV z) rfl) ⟨h1,rg (hs.2 a sx) st.2⟩ λb o hb e=>by rw[hs.2 b (λh=>hb (by simp[h]))];exact e
 done:=λs Q E st y=>CO hh st.1 st.2 ht hf hl λh' C=>y h' s.toks λb o hb e=>C b o (λh=>hb (by simp[h])) e
 self:=λu_ u_ u_ u_ st y=>Bl st.1 y
theorem LY{Q:aN->ah->Prop}(hT:s.TypeIs (.ref a) "set")(h:Q false s):wpAny (model prog w) A (oC (.ref a)) Q E s:=by
 refine ae (eg hT PySem.F.slot_set_len.lookup ?_);generalize CP:("set.__len__" : cR)=id0
 wp_delta
 subst CP;refine ae (fc (T:="set") (b:=true) hT (by rw[dp];kernel_rfl) ?_)
 refine oi (λTf=>absurd Tf (by decide)) (λu_=>?_)
 refine oi (λu_=>?_) (λTf=>absurd (by decide +kernel) Tf)
 refine ae (fI hT ?_);exact aj h
theorem Pw(ht:sf t es.size)(hf:t.fits es.size=true)(hl:t.led=(!qo w)):PySem.W.KdlSrc prog w "set" a a es.size (λi v=>∃x,(t7 w a es ep)[i]?=some x/\v=x.2) (λh=>h.get? a=some (rU es ep t)) where
 type:=λu_ ho=>(o5 _ ho rfl)
 there:=λu_ ho=>⟨aS ho,aS ho⟩
 keep:=λu_ u_ ho hk=>hk a (.inl rfl) _ ho
 notList:=rfl
 notTuple:=rfl
 hint:=λu_ u_ u_ u_ ho o=>LY (o5 _ ho rfl) o
 iter:=λu_ u_ hh ho=>(tD _ _ ((λu_ u_ o=>GH ho ht hf o)) (JK hh _ (a5 (aS ho)) ht hf hl) ⟨aF _ rfl,aq _ ho⟩)
end
section
variable{prog:b0}{w:bQ}{A:aX}{E:ag->ah->Prop}{s:ah}{a:ay}
theorem ints_of{l:af (Int×ag)}(h:∀e∈l,∃k tk,e=((dD prog w).hash k,.int k tk)):gU (l.map (·.2)) (l.map tN):=by
 induction l with
 |nil=>exact .nil
 |cons e r ih =>
  refine uK (h e az) λk tk o=>?_;subst o;exact .cons k tk (ih λx hx=>h x (aA _ hx))
theorem GI {ns:af Int} {n:Nat} {Q:ag->ah->Prop} (hh:A.handled=none) (S:wj prog w ns s.heap a n) (hn:n<=4)
  (h:∀(h':bP)(tk:Nat)(D:ay)(out:bx ag)(e:Nat)(H:af Int),h'.get? D=some (lF "list" out e)->s.heap.get? D=none->(∀b o,s.heap.get? b=some o->h'.get? b=some o)->gU out.toList H->H.Pairwise (· < ·)->(∀k,k∈H↔k∈ns.take n)->Q (.ref D) {s with heap:=h',toks:=tk}) :
  wpAny (model prog w) A (call (.builtin "sorted") [.ref a]) Q E s:=by
 refine(let C:Prop:=_;(?_:C))
 obtain⟨es,ep,t,ho,h1,h2,h3,h4,h5,h6,h7⟩:=S;have hsl:es.size<=dH:=by rw[ik];exact vS .x .y .y (.n 4) .x (.n 16777216) rfl h5 hn
 refine call_function_entry kind_sorted plain_sorted entry_sorted (args_sorted1 _) ?_;refine ae (m:=checkCount "sorted" 1 1 _) (aj ?_);refine ae (PySem.W.kdu_collect (A:=A.in1) (Pw (prog:=prog) (a:=a) (es:=es) (ep:=ep) h2 h3 h4) hh ho hsl λh' tk acc hk M=>?_);have yl:∀e∈(t7 w a es ep).toList,∃k tk,e=((dD prog w).hash k,.int k tk):=λe T=>h1 e (zO.mem_iff.mp T)
 have Tg:acc.toList=(t7 w a es ep).toList.map (·.2):=by
  have hsz:=M.1;have O:=xj (w:=w) (a:=a) (es:=es) (ep:=ep);refine List.ext_getElem (by rw[aK,aM,aM];exact aZ (uJ .x .y .y .z .x .z rfl (ak hsz) (ak O.symm)) (uJ .x .y .z .x .z .y rfl (ak hsz.symm) (ak O))) λj j1 j2=>?_
  have hj:j<acc.size:=by rw[<-aM];exact j1
  refine o8 (M.2 j acc[j] (bV hj)) λx hx hv=>?_;have U:j<(t7 w a es ep).size:=by exact CJ .x .y .y .z (.a .w (.n 1)) .x (.a .w (.n 1)) .z rfl (ak hsz) (ak O.symm) hj
  replace hx:=(bV U)▸hx;obtain rfl:=ai hx
  simpa using hv
 have hI:=ints_of yl;rw[<-Tg]at hI;have h64:acc.toList.length<64:=by rw[aM,M.1];exact vS .x .y .y (.n 4) (.a .x (.n 1)) (.n 64) rfl h5 hn
 refine ae (wpAny_newList ?_ (by rw[aM,M.1];exact hsl))
 have Wg:(h'.push (lF "list" acc.toList.toArray 0)).get? h'.objs.size=some (lF "list" acc.toList.toArray 0):=aF _ rfl;refine(?_:wpAny _ _ _ _ _ {s with heap:=h'.push (lF "list" acc.toList.toArray 0),toks:=tk})
 refine ae (a7 (bE slot_list_sort (o5 _ Wg rfl) entry_list_sort (list_sort_tree Wg hI h64 λout H a1 a2 a3=>(o5 _ rfl ?_)) (args_list_sort _)));refine aj (o5 _ rfl ?_);obtain⟨e,T⟩:=sortedHeap_at (h:=h'.push (lF "list" acc.toList.toArray 0)) (out:=out) Wg
 have YX:∀b o,s.heap.get? b=some o->(sortedHeap (h'.push (lF "list" acc.toList.toArray 0)) h'.objs.size acc.toList out).get? b=some o:=λb o Y=>by
  have hb:=aS (hk b o Y);rw[sortedHeap_old (a5 hb) (by rw[size_push'];exact lY hb)]
  exact aq _ (hk b o Y)
 have zP:H.Perm (es.toList.map tN):=a2.trans (zO.map tN);refine h _ _ _ out e H T ?_ YX a1 ?_ λk=>by rw[zP.mem_iff];exact h7 k
 ·cases q:s.heap.get? h'.objs.size with
  |none=>rfl
  |some o=>exact absurd (aS (hk _ _ q)) (dK _)
 ·have Bh:H.Nodup:=zP.nodup_iff.mpr h6;refine(nX a3 Bh).imp λ{x y} hxy=>?_;lia
end
set_option genCtorIdx true in
inductive Sp where
 |fz(o:Obj)
 |kp(o:Obj)
 |lk(o:Obj)
 |xc(d:ay)
 |ns(m:Str->au ag)
 |cell(v:au ag)
 |own(x:Str)(vs:af ag)
 |dct (Gu:af (Str×ag))
noncomputable abbrev oN:=ay->au Sp
structure pg where
 prog:b0
 w:bQ
 b:bP
 g:G
 mg:Str->au ag
 mb:Str->au ag
 Pd:ay
 Eb:ay
 gens:bx eR
 os:eP
noncomputable def Sp.holds(T:pg)(h:bP)(a:ay):Sp->Prop
 |.fz o=>h.get? a=some o
 |.kp o=>∃y,h.get? a=some {o with slots:=y}
 |.lk o=>h.get? a=some o
 |.xc d=>∃vs y,h.get? a=some {cls:=.ref T.Eb,dict:=some d,data:=.fields vs,slots:=y}/\1<vs.size
 |.ns m=>h.Ns a m
 |.cell v=>∃o,h.get? a=some o/\o.data=.cell v
 |.own _ vs=>h.PlainList a vs.toArray
 |.dct Gu=>h.DictOf (strKind T.prog T.w) a Gu
noncomputable def oN.In(T:pg)(D:oN)(h:bP):Prop:=∀a sp,D a=some sp->sp.holds T h a
noncomputable def Sp.stays:Sp->aN
 |.fz _|.kp _|.xc _|.lk _=>true
 |_=>false
noncomputable def oN.Le(D D':oN):Prop:=∀a sp,D a=some sp->sp.stays=true->D' a=some sp
theorem oN.Le.refl(D:oN):D.Le D:=λu_ u_ h u_=>h
theorem oN.Le.trans{D D' o:oN}(x:D.Le D')(y:D'.Le o):D.Le o:=λa sp h k=>y a sp (x a sp h k) k
noncomputable def oN.put(D:oN)(a:ay)(sp:Sp):oN:=λx=>if x=a then some sp else D x
@[simp] theorem oN.oV(D:oN)(a:ay)(sp:Sp):D.put a sp a=some sp:=by simp[oN.put]
theorem oN.pj(D:oN){a b:ay}(sp:Sp)(h:b≠a):D.put a sp b=D b:=by simp[oN.put,h]
noncomputable def oN.del(D:oN)(a:ay):oN:=λx=>if x=a then none else D x
@[simp] theorem oN.LZ(D:oN)(a:ay):D.del a a=none:=by simp[oN.del]
theorem oN.Th(D:oN){a b:ay}(h:b≠a):D.del a b=D b:=by simp[oN.del,h]
theorem oN.Le.put{D:oN}{a:ay}{sp:Sp}(h:∀o,D a=some o->o.stays=false):D.Le (D.put a sp):=λx o hx hs=>by
 by_cases e:x=a
 ·subst e;rw[h o hx]at hs;exact(nF hs).elim
 ·exact(oN.pj _ _ e)▸(hx)
theorem Sp.holds.get{T:pg}{h:bP}{a:ay}{sp:Sp}(x:sp.holds T h a):∃o,h.get? a=some o:=by
 refine(let C:Prop:=_;(?_:C))
 induction sp using Sp.casesOn with
 |fz o=>exact⟨_,x⟩
 |kp o=>refine p8 (x) λH h=>?_;exact⟨_,h⟩
 |lk o=>exact⟨_,x⟩
 |xc d=>refine tW (x) λu_ u_ h u_=>?_;exact⟨_,h⟩
 |ns m=>refine y9 (x) λu_ u_ u_ h u_=>?_;exact⟨_,h⟩
 |cell v=>refine o8 (x) λu_ h u_=>?_;exact⟨_,h⟩
 |own y vs=>refine p8 (x) λu_ h=>?_;exact⟨_,h⟩
 |dct z=>refine y9 (x) λu_ u_ u_ h u_=>?_;exact⟨_,h⟩
theorem Sp.holds.at{T:pg}{h h':bP}{a:ay}{sp:Sp}(x:sp.holds T h a)(e:∀o,h.get? a=some o->h'.get? a=some o):sp.holds T h' a:=by
 induction sp using Sp.casesOn with
 |fz o=>exact e _ x
 |kp o=>refine p8 (x) λC q=>?_;exact⟨C,e _ q⟩
 |lk o=>exact e _ x
 |xc d=>refine tW (x) λvs C q z=>?_;exact uL vs C (e _ q) z
 |ns m=>refine y9 (x) λo es ep q r=>?_;exact zb o es ep (e _ q) r
 |cell v=>refine o8 (x) λo q r=>?_;exact o5 o (e _ q) r
 |own y vs=>refine p8 (x) λn q=>?_;exact⟨n,e _ q⟩
 |dct H=>refine y9 (x) λo es ep q r=>?_;exact zb o es ep (e _ q) r
theorem oN.In.lt{T:pg}{D:oN}{h:bP}(x:D.In T h){a:ay}{sp:Sp}(e:D a=some sp):a<h.objs.size :=
 let⟨_,q⟩:=(x a sp e).get;aS q
theorem oN.In.fresh{T:pg}{D:oN}{h:bP}(x:D.In T h):D h.objs.size=none:=by
 cases q:D h.objs.size with
 |none=>rfl
 |some sp=>exact absurd (x.lt q) (dK _)
theorem oN.In.keeps{T:pg}{D:oN}{h h':bP}(x:D.In T h)(e:∀a o,h.get? a=some o->h'.get? a=some o):D.In T h':=λa sp q=>(x a sp q).at (e a)
theorem oN.In.push{T:pg}{D:oN}{h:bP}(x:D.In T h)(o:Obj):D.In T (h.push o):=x.keeps λu_ u_ e=>aq _ e
theorem oN.In.put{T:pg}{D:oN}{h:bP}(x:D.In T h){a:ay}{sp:Sp}(q:sp.holds T h a):(D.put a sp).In T h:=λb o e=>by
 refine(let C:Prop:=_;(?_:C))
 by_cases hb:b=a
 ·subst hb;rw[oN.oV]at e;obtain rfl:=ai e;exact q
 ·rw[oN.pj _ _ hb]at e;exact x b o e
theorem oN.In.del{T:pg}{D:oN}{h:bP}(x:D.In T h){a:ay}:(D.del a).In T h:=λb o e=>by
 refine(let C:Prop:=_;(?_:C))
 by_cases hb:b=a
 ·subst hb;rw[oN.LZ]at e;exact(nS e).elim
 ·rw[oN.Th _ hb]at e;exact x b o e
theorem oN.In.turn{T:pg}{D:oN}{h h':bP}(x:D.In T h){a:ay}{sp:Sp}(hs:fm a h h')(q:sp.holds T h' a):(D.put a sp).In T h':=λb y e=>by
 by_cases hb:b=a
 ·subst hb;rw[oN.oV]at e;obtain rfl:=ai e;exact q
 ·rw[oN.pj _ _ hb]at e;exact(x b y e).at λo ho=>(hs.2 b hb).trans ho
noncomputable def L5(T:pg)(o:Obj)(l:af Int):Prop :=
 ∃es ep t,o=rU es ep t/\(∀e∈es.toList,∃k tk,e=((dD T.prog T.w).hash k,.int k tk))/\sf t es.size/\t.fits es.size=true/\t.led=(!qo T.w)/\es.size<=4/\(es.toList.map tN).Nodup/\(∀k,k∈es.toList.map tN↔k∈l)/\l.Pairwise (· < ·)
mutual
inductive oR(T:pg)(D:oN)(φ:af ay):ag->V->Prop
 |none:oR T D φ .none .none
 |bool (b):oR T D φ (.bool b) (.bool b)
 |int (i t):oR T D φ (.int i t) (.int i)
 |str (x t):b4 x=true->oR T D φ (.str x t) (.str x)
 |typ (n):oR T D φ (.type n) (.typ n)
 |tup {a vs n l}:D a=some (.fz {cls:=.type "tuple", dict:=aC,data:=.seq vs n,slots:=#[]})->vs.size<=qf->oK T D φ vs.toList l->oR T D φ (.ref a) (.tup l)
 |lst {a vs n l}:D a=some (.fz {cls:=.type "list", dict:=aC,data:=.seq vs n,slots:=#[]})->vs.size<=qf->oK T D φ vs.toList l->oR T D φ (.ref a) (.lst l)
 |ptr {a i}:φ[i]?=some a->oR T D φ (.ref a) (.ptr i)
 |ev {x dx Ti tk mv n v}:D x=some (.fz {cls:=.ref T.Pd,dict:=some dx,data:=.plain,slots:=#[]})->D dx=some (.fz (bY [⟨Ti,.str (aa "scope") tk,mv⟩] n))->oR T D φ mv v->oR T D φ (.ref x) (.ev v)
 |wx {e d h1 t1 m1 h2 t2 m2 n w p}:D e=some (.xc d)->D d=some (.fz (bY [⟨h1,.str (aa "what") t1,m1⟩,⟨h2,.str (aa "spot") t2,m2⟩] n))->oR T D φ m1 w->oR T D φ m2 p->oR T D φ (.ref e) (.wx w p)
 |we {r a b t u v}:D r=some (.fz {cls:=.type "range", dict:=aC,data:=.fields #[.int a t,.int b u,.int 1 v],slots:=#[]})->small a=true->small b=true->oR T D φ (.ref r) (.we a b)
 |rO {a o l}:D a=some (.fz o)->L5 T o l->oR T D φ (.ref a) (.rO l)
inductive oK(T:pg)(D:oN)(φ:af ay):af ag->af V->Prop
 |nil:oK T D φ [] []
 |cons {v vs x xs}:oR T D φ v x->oK T D φ vs xs->oK T D φ (v::vs) (x::xs)
end
noncomputable def rd(D:oN)(env:Env)(x:Str)(mv:ag):Prop :=
 (env.kindOf x=some .local/\∃m,D env.locals=some (.ns m)/\m x=some mv)\/(env.kindOf x=some .cell/\∃o,env.cells.lookup x=some o/\D o=some (.cell (some mv)))
inductive wG(T:pg)(D:oN)(φ:af ay)(x:Str):ag->pq->Prop
 |val {mv v}:oR T D φ mv v->wG T D φ x mv (.val v)
 |own {a vs l}:D a=some (.own x vs)->vs.length<=qf->oK T D φ vs l->wG T D φ x (.ref a) (.own l)
inductive tG(T:pg)(D:oN):af (Str×ag)->Cell->Prop
 |nil:tG T D [] []
 |cons {k mv v Gu c}:oR T D [] mv v->v.oQ=true->tG T D Gu c->tG T D ((k,mv)::Gu) ((k,v)::c)
structure px(T:pg)(D:oN)(φ:af ay)(σ:af Cell):Prop where
 len:φ.length=σ.length
 nodup:φ.Nodup
 get:∀(i:Nat)(c:Cell),σ[i]?=some c->∃a Gu,φ[i]?=some a/\D a=some (.dct Gu)/\tG T D Gu c
structure Sf(c:MC)(env:Env):Prop where
 kind:env.scope.kind=.function
 glob:env.globals=bT
 blt:env.builtins=cX
 loc:∀x,c.names.lookup x=some .local->env.kindOf x=some .local
 Tj:∀x,c.names.lookup x=some .cell->env.kindOf x=some .cell
 fre:∀x,c.names.lookup x=some .free->env.kindOf x=some .cell\/env.kindOf x=some .free
 YY:∀x,c.names.lookup x=some .globalImplicit->env.kindOf x=some .globalImplicit
 inj:∀x y a,env.cells.lookup x=some a->env.cells.lookup y=some a->x=y
 plain:∀x k,c.names.lookup x=some k->(x==("__debug__" : Str))=false/\(x==("__classdict__" : Str))=false
 Es:∀x k,c.names.lookup x=some k->t6 x=true
structure Link(T:pg)(D:oN)(φ:af ay)(c:MC)(env:Env)(st:St):Prop where
 locals:∃m,D env.locals=some (.ns m)
 vars:∀x b,st.ρ.lookup x=some b->b≠.no->∃mv,rd D env x mv/\wG T D φ x mv b
 p6:∀x,c.names.lookup x=some .cell->∃ca v,env.cells.lookup x=some ca/\D ca=some (.cell v)
 free:∀x v,c.free.lookup x=some v->∃ca o mv,env.cells.lookup x=some ca/\D ca=some (.kp o)/\o.data=.cell (some mv)/\oR T D φ mv v
 cells:px T D φ st.σ
noncomputable def JL(D:oN)(env:Env)(A:aX):Prop :=
 ∃y z,A.frames=some (y::z)/\y.frame=env.frame/\∀e∈y::z,e.scope.kind≠.module/\∃L,e.frame=some L/\(L=env.locals\/∃o es ep,D L=some (.kp o)/\o.data=.dict es ep)
noncomputable def Px(T:pg)(D:oN)(h:bP)(e:ay):Prop :=
 ∃d vs y,D e=some (.xc d)/\h.get? e=some {cls:=.ref T.Eb,dict:=some d,data:=.fields vs,slots:=y}/\(vs[1]?=some .none \/
  ∃t ot o,vs[1]?=some (.ref t)/\D t=none/\h.get? t=some ot/\ot.data=.fields o/\3<o.size)
noncomputable def oN.Back(D D':oN):Prop:=∀a x vs,D' a=some (.own x vs)->∃o,D a=some (.own x o)
theorem oN.Back.refl(D:oN):D.Back D:=λu_ u_ vs h=>⟨vs,h⟩
theorem oN.Back.trans{D D' o:oN}(x:D.Back D')(y:D'.Back o):D.Back o:=λa n vs h=>let⟨z,e⟩:=y a n vs h;x a n z e
theorem oN.Back.put{D:oN}{a:ay}{sp:Sp}(h:∀x vs,sp≠.own x vs):D.Back (D.put a sp):=λb x vs e=>by
 refine(let C:Prop:=_;(?_:C))
 by_cases hb:b=a
 ·subst hb;rw[oN.oV]at e;obtain rfl:=ai e;exact absurd rfl (h _ _)
 ·rw[oN.pj _ _ hb]at e;exact⟨vs,e⟩
noncomputable def oN.zQ(D:oN):Prop:=∀a y x vs o,D a=some (.own x vs)->D y=some (.own x o)->a=y
theorem oN.Back.uniq{D D':oN}(x:D.Back D')(u:D.zQ):D'.zQ:=λa y n vs o h h' =>
 let⟨_,e⟩:=x a n vs h;let⟨_,e'⟩:=x y n o h';u a y n _ _ e e'
structure Good(T:pg)(D:oN)(φ:af ay)(D':oN)(ph:af ay)(c:MC)(env:Env)(st:St)(s:ah):Prop where
 le:D.Le D'
 pre:φ <+: ph
 pO:D'.In T s.heap
 link:Link T D' ph c env st
 gens:s.gens=T.gens
 os:s.os=T.os
 back:D.Back D'
structure rJ(T:pg)(D:oN)(φ:af ay)(D':oN)(ph:af ay)(c:MC)(env:Env)(st:St)(s:ah):Prop where
 le:D.Le D'
 pre:φ <+: ph
 pO:D'.In T s.heap
 link:Link T D' ph c env st
 gens:s.gens=T.gens
 os:s.os=T.os
 uniq:D'.zQ
structure Bad(T:pg)(D:oN)(φ:af ay)(D':oN)(ph:af ay)(env:Env)(w p:V)(σ:af Cell)(e:ay)(s:ah):Prop where
 le:D.Le D'
 pre:φ <+: ph
 pO:D'.In T s.heap
 exc:oR T D' ph (.ref e) (.wx w p)
 L6:Px T D' s.heap e
 locals:∃m,D' env.locals=some (.ns m)
 cells:px T D' ph σ
 gens:s.gens=T.gens
 os:s.os=T.os
noncomputable def KX(T:pg)(D:oN)(φ:af ay)(c:MC)(env:Env){α β:Type}(rel:oN->af ay->β->α->Prop)(r:R α)(Q:β->ah->Prop)(E:ag->ah->Prop):Prop :=
 r≠.stuck/\(∀a st,r=.ok a st->∀b s D' ph,rJ T D φ D' ph c env st s->rel D' ph b a->Q b s) /\
  (∀w p σ,r=.rQ w p σ->∀e s D' ph,Bad T D φ D' ph env w p σ e s->E (.ref e) s)
noncomputable def K(T:pg)(D:oN)(φ:af ay)(c:MC)(env:Env){α β:Type}(rel:oN->af ay->β->α->Prop)(r:R α)(Q:β->ah->Prop)(E:ag->ah->Prop):Prop :=
 r≠.stuck/\(∀a st,r=.ok a st->∀b s D' ph,Good T D φ D' ph c env st s->rel D' ph b a->Q b s) /\
  (∀w p σ,r=.rQ w p σ->∀e s D' ph,Bad T D φ D' ph env w p σ e s->E (.ref e) s)
section
variable{T:pg}{D D':oN}{φ ph:af ay}{c:MC}{env:Env}{st tm:St}{s s':ah}
theorem Good.trans{z:oN}{o:af ay}(x:Good T D φ D' ph c env st s)(y:Good T D' ph z o c env tm s'):Good T D φ z o c env tm s' :=
 ⟨x.le.trans y.le,x.pre.trans y.pre,y.pO,y.link,y.gens,y.os,x.back.trans y.back⟩
theorem Good.bad{z:oN}{o:af ay}{w p:V}{σ:af Cell}{e:ay}(x:Good T D φ D' ph c env st s)(y:Bad T D' ph z o env w p σ e s'):Bad T D φ z o env w p σ e s' :=
 ⟨x.le.trans y.le,x.pre.trans y.pre,y.pO,y.exc,y.L6,y.locals,y.cells,y.gens,y.os⟩
variable{α β:Type}{rel:oN->af ay->β->α->Prop}{Q:β->ah->Prop}{E:ag->ah->Prop}
theorem K.ok{a:α}(k:K T D φ c env rel (.ok a st) Q E){b:β}(g:Good T D φ D' ph c env st s)(h:rel D' ph b a):Q b s:=k.2.1 a st rfl b s D' ph g h
theorem K.rQ{w p:V}{σ:af Cell}{e:ay}(k:K T D φ c env rel (.rQ w p σ) Q E)(g:Bad T D φ D' ph env w p σ e s):E (.ref e) s:=k.2.2 w p σ rfl e s D' ph g
theorem K.oH(k:K T D φ c env rel .stuck Q E):eu:=k.1 rfl
theorem K.L7 {H U:Type} {C:oN->af ay->U->H->Prop} {Q':U->ah->Prop} {r:R H} {f:H->St->R α} {y:oN} {o:af ay} {M:St} {Y:ah} (k:K T D φ c env rel (r.bind f) Q E)
  (YZ:Good T D φ y o c env M Y) (h:∀a st b s D' ph,r=.ok a st->Good T y o D' ph c env st s->C D' ph b a->K T D φ c env rel (f a st) Q E->Q' b s):K T y o c env C r Q' E:=by
 refine qB (λe=>?_) (λa st e b s D' ph g hr=>?_) (λw p σ e x s D' ph g=>?_)
 ·subst e;exact k.1 rfl
 ·subst e;exact h a st b s D' ph rfl g hr (qB k.1 (λa' tm e' b' s' O z g' hr'=>k.2.1 a' tm e' b' s' O z g' hr') (λw p σ e' x s' O z g'=>k.2.2 w p σ e' x s' O z g'))
 ·subst e;exact k.2.2 w p σ rfl x s D' ph (YZ.bad g)
theorem K.sub{r:R α}{D':oN}{ph:af ay}(k:K T D φ c env rel r Q E)(g:Good T D φ D' ph c env st s):K T D' ph c env rel r Q E :=
 (qB k.1 (λa tm e b s y o g' h=>k.2.1 a tm e b s y o (g.trans g') h) (λw p σ e x s y o g'=>k.2.2 w p σ e x s y o (g.bad g')))
theorem K.bind {z H:Type} {y:oN->af ay->H->z->Prop} {Q':H->ah->Prop} {r:R z} {f:z->St->R α} (k:K T D φ c env rel (r.bind f) Q E)
  (h:∀a st b s D' ph,r=.ok a st->Good T D φ D' ph c env st s->y D' ph b a->K T D' ph c env rel (f a st) Q E->Q' b s):K T D φ c env y r Q' E:=by
 refine qB (λe=>?_) (λa st e b s D' ph g hr=>?_) (λw p σ e x s D' ph g=>?_)
 ·subst e;exact k.1 rfl
 ·subst e;refine h a st b s D' ph rfl g hr (qB k.1 (λO tm e' U s' C o g' M=>?_) (λw p σ e' x s' C o g'=>?_))
  ·exact k.2.1 O tm e' U s' C o (g.trans g') M
  ·exact k.2.2 w p σ e' x s' C o (g.bad g')
 ·subst e;exact k.2.2 w p σ rfl x s D' ph g
end
section
variable{T:pg}{D D':oN}{φ ph:af ay}{c:MC}{env:Env}{st tm:St}{s s':ah}
theorem Good.x(g:Good T D φ D' ph c env st s)(u:D.zQ):rJ T D φ D' ph c env st s:=⟨g.le,g.pre,g.pO,g.link,g.gens,g.os,g.back.uniq u⟩
theorem rJ.trans{z:oN}{o:af ay}(x:rJ T D φ D' ph c env st s)(y:rJ T D' ph z o c env tm s'):rJ T D φ z o c env tm s' :=
 ⟨x.le.trans y.le,x.pre.trans y.pre,y.pO,y.link,y.gens,y.os,y.uniq⟩
theorem rJ.bad{z:oN}{o:af ay}{w p:V}{σ:af Cell}{e:ay}(x:rJ T D φ D' ph c env st s)(y:Bad T D' ph z o env w p σ e s'):Bad T D φ z o env w p σ e s' :=
 ⟨x.le.trans y.le,x.pre.trans y.pre,y.pO,y.exc,y.L6,y.locals,y.cells,y.gens,y.os⟩
variable{α β:Type}{rel:oN->af ay->β->α->Prop}{Q:β->ah->Prop}{E:ag->ah->Prop}
theorem KX.ok{a:α}(k:KX T D φ c env rel (.ok a st) Q E){b:β}(g:rJ T D φ D' ph c env st s)(h:rel D' ph b a):Q b s:=k.2.1 a st rfl b s D' ph g h
theorem KX.rQ{w p:V}{σ:af Cell}{e:ay}(k:KX T D φ c env rel (.rQ w p σ) Q E)(g:Bad T D φ D' ph env w p σ e s):E (.ref e) s:=k.2.2 w p σ rfl e s D' ph g
theorem KX.oH(k:KX T D φ c env rel .stuck Q E):eu:=k.1 rfl
theorem KX.sub{r:R α}{D':oN}{ph:af ay}(k:KX T D φ c env rel r Q E)(g:rJ T D φ D' ph c env st s):KX T D' ph c env rel r Q E :=
 (qB k.1 (λa tm e b s y o g' h=>k.2.1 a tm e b s y o (g.trans g') h) (λw p σ e x s y o g'=>k.2.2 w p σ e x s y o (g.bad g')))
theorem KX.bind {y z:Type} {o:oN->af ay->z->y->Prop} {Q':z->ah->Prop} {r:R y} {f:y->St->R α} (k:KX T D φ c env rel (r.bind f) Q E)
  (h:∀a st b s D' ph,r=.ok a st->rJ T D φ D' ph c env st s->o D' ph b a->KX T D' ph c env rel (f a st) Q E->Q' b s):KX T D φ c env o r Q' E:=by
 refine qB (λe=>?_) (λa st e b s D' ph g hr=>?_) (λw p σ e x s D' ph g=>?_)
 ·subst e;exact k.1 rfl
 ·subst e;exact h a st b s D' ph rfl g hr (KX.sub k g)
 ·subst e;exact k.2.2 w p σ rfl x s D' ph g
theorem KX.o3 {y z:Type} {o:oN->af ay->z->y->Prop} {Q':z->ah->Prop} {r:R y} {f:y->St->R α} (k:KX T D φ c env rel (r.bind f) Q E) (u:D.zQ)
  (h:∀a st b s D' ph,r=.ok a st->Good T D φ D' ph c env st s->o D' ph b a->KX T D' ph c env rel (f a st) Q E->Q' b s):K T D φ c env o r Q' E:=by
 refine qB (λe=>?_) (λa st e b s D' ph g hr=>?_) (λw p σ e x s D' ph g=>?_)
 ·subst e;exact k.1 rfl
 ·subst e;exact h a st b s D' ph rfl g hr (KX.sub k (g.x u))
 ·subst e;exact k.2.2 w p σ rfl x s D' ph g
theorem KX.toK{r:R α}(k:KX T D φ c env rel r Q E)(u:D.zQ):K T D φ c env rel r Q E:=(qB k.1 (λa st e b s D' ph g h=>k.2.1 a st e b s D' ph (g.x u) h) k.2.2)
end
structure pI(T:pg)(D:oN)(φ:af ay)(c:MC)(env:Env)(A:aX)(st:St)(s:ah):Prop where
 pO:D.In T s.heap
 link:Link T D φ c env st
 gens:s.gens=T.gens
 os:s.os=T.os
 GJ:JL D env A
 base:∀a o,T.b.get? a=some o->D a=some (.fz o)
 uniq:D.zQ
noncomputable def oN.Sub(D D':oN):Prop:=∀a sp,D a=some sp->D' a=some sp
theorem oN.Sub.refl(D:oN):D.Sub D:=λu_ u_ h=>h
theorem oN.Sub.trans{D D' o:oN}(x:D.Sub D')(y:D'.Sub o):D.Sub o:=λa sp h=>y a sp (x a sp h)
theorem oN.Sub.le{D D':oN}(x:D.Sub D'):D.Le D':=λa sp h u_=>x a sp h
theorem oN.Sub.put{D:oN}{a:ay}{sp:Sp}(h:D a=none):D.Sub (D.put a sp):=λx o hx=>by
 by_cases e:x=a
 ·subst e;rw[h]at hx;exact(nS hx).elim
 ·exact(oN.pj _ _ e)▸(hx)
section
variable{T:pg}{D D':oN}{φ ph:af ay}
theorem oR.mono{mv:ag}{v:V}(x:oR T D φ mv v)(h:D.Le D')(hp:φ <+: ph):oR T D' ph mv v :=
 oR.rec (motive_1:=λmv v u_=>oR T D' ph mv v) (motive_2:=λmvs vs u_=>oK T D' ph mvs vs) .none .bool .int .str .typ (λa b u_ i=>.tup (h _ _ a rfl) b i) (λa b u_ i=>.lst (h _ _ a rfl) b i)
  (λa=>.ptr (hp.elim λr e=>e▸(bW (List.getElem?_eq_some_iff.mp a).1).trans a)) (λa b u_ i=>.ev (h _ _ a rfl) (h _ _ b rfl) i) (λa b u_ u_ i j=>.wx (h _ _ a rfl) (h _ _ b rfl) i j) (λa b d=>.we (h _ _ a rfl) b d) (λa b=>.rO (h _ _ a rfl) b) .nil (λu_ u_ i j=>.cons i j) x
theorem oK.mono{mvs:af ag}{vs:af V}(x:oK T D φ mvs vs)(h:D.Le D')(hp:φ <+: ph):oK T D' ph mvs vs :=
 oK.rec (motive_1:=λmv v u_=>oR T D' ph mv v) (motive_2:=λmvs vs u_=>oK T D' ph mvs vs) .none .bool .int .str .typ (λa b u_ i=>.tup (h _ _ a rfl) b i) (λa b u_ i=>.lst (h _ _ a rfl) b i)
  (λa=>.ptr (hp.elim λr e=>e▸(bW (List.getElem?_eq_some_iff.mp a).1).trans a)) (λa b u_ i=>.ev (h _ _ a rfl) (h _ _ b rfl) i) (λa b u_ u_ i j=>.wx (h _ _ a rfl) (h _ _ b rfl) i j) (λa b d=>.we (h _ _ a rfl) b d) (λa b=>.rO (h _ _ a rfl) b) .nil (λu_ u_ i j=>.cons i j) x
theorem oK.length{mvs:af ag}{vs:af V}(x:oK T D φ mvs vs):mvs.length=vs.length:=by
 induction vs generalizing mvs with
 |nil=>cases x;rfl
 |cons v r ih=>cases x with|cons a b=>simp[ih b]
theorem oK.append{as bs:af ag}{xs ys:af V}(x:oK T D φ as xs)(y:oK T D φ bs ys):oK T D φ (as++bs) (xs++ys):=by
 induction xs generalizing as with
 |nil=>cases x;exact y
 |cons v r ih=>cases x with|cons a b=>exact .cons a (ih b)
theorem oR.bare{mv:ag}{v:V}(x:oR T D φ mv v)(h:v.oQ=true):oR T D ph mv v :=
 oR.rec (motive_1:=λmv v u_=>v.oQ=true->oR T D ph mv v) (motive_2:=λmvs vs u_=>V.qS vs=true->oK T D ph mvs vs) (λu_=>.none) (λb u_=>.bool b) (λi t u_=>.int i t) (λx t k u_=>.str x t k) (λn u_=>.typ n) (λa b u_ i h=>.tup a b (i h)) (λa b u_ i h=>.lst a b (i h))
  (λu_ h=>(nF h).elim) (λa b u_ i h=>.ev a b (i h)) (λa b u_ u_ i j h=>qA (Bool.and_eq_true_iff.mp h) λh1 h2=>.wx a b (i h1) (j h2)) (λa b d u_=>.we a b d) (λa b u_=>.rO a b) (λu_=>.nil) (λu_ u_ i j h=>qA (Bool.and_eq_true_iff.mp h) λh1 h2=>.cons (i h1) (j h2)) x h
theorem oK.bare{mvs:af ag}{vs:af V}(x:oK T D φ mvs vs)(h:V.qS vs=true):oK T D ph mvs vs :=
 oK.rec (motive_1:=λmv v u_=>v.oQ=true->oR T D ph mv v) (motive_2:=λmvs vs u_=>V.qS vs=true->oK T D ph mvs vs) (λu_=>.none) (λb u_=>.bool b) (λi t u_=>.int i t) (λx t k u_=>.str x t k) (λn u_=>.typ n) (λa b u_ i h=>.tup a b (i h)) (λa b u_ i h=>.lst a b (i h))
  (λu_ h=>(nF h).elim) (λa b u_ i h=>.ev a b (i h)) (λa b u_ u_ i j h=>qA (Bool.and_eq_true_iff.mp h) λh1 h2=>.wx a b (i h1) (j h2)) (λa b d u_=>.we a b d) (λa b u_=>.rO a b) (λu_=>.nil) (λu_ u_ i j h=>qA (Bool.and_eq_true_iff.mp h) λh1 h2=>.cons (i h1) (j h2)) x h
theorem tG.mono{o:af (Str×ag)}{c:Cell}(x:tG T D o c)(h:D.Le D'):tG T D' o c:=by
 induction x with
 |nil=>exact .nil
 |cons a b _ ih=>exact .cons (a.mono h (ao _)) b ih
theorem px.sub{σ:af Cell}(x:px T D φ σ)(h:D.Sub D'):px T D' φ σ :=
 ⟨x.len,x.nodup,λi c e=>sF (x.get i c e) λa o p q r=>tD a o p (h _ _ q) (r.mono h.le)⟩
theorem wG.sub{x:Str}{mv:ag}{b:pq}(y:wG T D φ x mv b)(h:D.Sub D'):wG T D' φ x mv b:=by
 cases y with
 |val a=>exact .val (a.mono h.le (ao _))
 |own a b c=>exact .own (h _ _ a) b (c.mono h.le (ao _))
theorem rd.sub{env:Env}{x:Str}{mv:ag}(y:rd D env x mv)(h:D.Sub D'):rd D' env x mv:=by
 refine(let C:Prop:=_;(?_:C))
 refine(y).elim (λo=>?_) (λz=>?_)
 ·obtain⟨a,m,b,d⟩:=o;exact .inl ⟨a,m,h _ _ b,d⟩
 ·obtain⟨a,ca,b,d⟩:=z;exact .inr ⟨a,ca,b,h _ _ d⟩
variable{c:MC}{env:Env}{st:St}{s:ah}{A:aX}
theorem Link.sub(x:Link T D φ c env st)(h:D.Sub D'):Link T D' φ c env st where
 locals:=x.locals.imp λm e=>h _ _ e
 vars:=λy b e n=>o8 (x.vars y b e n) λmv p q=>o5 mv (p.sub h) (q.sub h)
 p6:=λy e=>tW (x.p6 y e) λC v p q=>uL C v p (h _ _ q)
 free:=λy v e=>vp (x.free y v e) λC o mv p q r z=>zF C o mv p (h _ _ q) r (z.mono h.le (ao _))
 cells:=x.cells.sub h
theorem JL.le(x:JL D env A)(h:D.Le D'):JL D' env A :=
 sF x λe o p q r=>tD e o p q λy hy=>(r y hy).imp id λz=>o8 z λL f z=>o5 L f (z.imp id λz=>y9 z λo es ep u v=>zb o es ep (h _ _ u rfl) v)
theorem pI.good(x:pI T D φ c env A st s){tm:St}{s':ah}(g:Good T D φ D' ph c env tm s'):pI T D' ph c env A tm s' :=
 ⟨g.pO,g.link,g.gens,g.os,x.GJ.le g.le,λa o e=>g.le _ _ (x.base a o e) rfl,g.back.uniq x.uniq⟩
theorem pI.zR(x:pI T D φ c env A st s){tm:St}{s':ah}(g:rJ T D φ D' ph c env tm s'):pI T D' ph c env A tm s' :=
 ⟨g.pO,g.link,g.gens,g.os,x.GJ.le g.le,λa o e=>g.le _ _ (x.base a o e) rfl,g.uniq⟩
theorem pI.here(x:pI T D φ c env A st s):Good T D φ D φ c env st s:=⟨.refl _,ao _,x.pO,x.link,x.gens,x.os,.refl _⟩
theorem pI.grown(x:pI T D φ c env A st s){h':bP}{tk:Tok}(k:∀a o,s.heap.get? a=some o->h'.get? a=some o):Good T D φ D φ c env st {s with heap:=h',toks:=tk} :=
 ⟨.refl _,ao _,x.pO.keeps k,x.link,x.gens,x.os,.refl _⟩
theorem pI.toks(x:pI T D φ c env A st s){tk:Tok}:Good T D φ D φ c env st {s with toks:=tk}:=x.grown λu_ u_ e=>e
theorem pI.alloc(x:pI T D φ c env A st s){sp:Sp}{h':bP}{tk:Tok}{a:ay}(ha:D a=none)(k:∀a o,s.heap.get? a=some o->h'.get? a=some o)(hs:sp.holds T h' a)(ho:∀x vs,sp≠.own x vs:=by intro _ _ h;cases h) :
  Good T D φ (D.put a sp) φ c env st {s with heap:=h',toks:=tk} :=
 ⟨(oN.Sub.put ha).le,ao _,(x.pO.keeps k).put hs,x.link.sub (oN.Sub.put ha),x.gens,x.os,.put ho⟩
theorem pI.new(x:pI T D φ c env A st s)(o:Obj)(hf:o.isFreed=false:=by rfl){tk:Tok}:Good T D φ (D.put s.heap.objs.size (.fz o)) φ c env st {s with heap:=s.heap.push o,toks:=tk} :=
 x.alloc x.pO.fresh (λu_ u_ e=>aq _ e) (aF _ hf)
theorem pI.heap(x:pI T D φ c env A st s){a:ay}{o:Obj}(h:D a=some (.fz o)):s.heap.get? a=some o:=x.pO a _ h
theorem pI.stays(x:pI T D φ c env A st s):T.b.StaysIn s.heap:=λa o e=>x.heap (x.base a o e)
end
noncomputable abbrev VR(T:pg):oN->af ay->ag->V->Prop:=λD φ mv v=>oR T D φ mv v
structure FnAt(T:pg)(fn:Fn)(fa:ay):Prop where
 obj:∃o fd,T.b.get? fa=some o/\o.data=.func fd/\T.b.CodeRec fd.code fd.qualname/\fd.body=.stmts fn.body/\fd.globals=bT/\fd.builtins=cX/\fd.closure=[] /\
  fd.scope.kind=.function/\fd.scope.isCoroutine=false/\fd.scope.isGenerator=false/\fd.scope.names=fn.names/\∀vs:af ag,vs.length=fn.params.length->eM fd ⟨vs,[]⟩=pure (fn.params.zip vs)
 params:∀p∈fn.params,fn.names.lookup p=some .local\/fn.names.lookup p=some .cell
 nd:fn.params.Nodup
 names:(fn.names.map (·.1)).Nodup
 plain:∀x k,fn.names.lookup x=some k->(x==("__debug__" : Str))=false/\(x==("__classdict__" : Str))=false
 Es:∀x k,fn.names.lookup x=some k->t6 x=true
structure Ir(T:pg):Prop where
 g:T.b.Ns bT T.mg
 bl:T.b.Ns cX T.mb
 nolimit:T.b.NoLimit
 mods:∃o,T.b.get? ka=some o
 consts:∀x v,T.g.consts x=some v->∃mv,T.mg x=some mv/\∀D,(∀a o,T.b.get? a=some o->D a=some (.fz o))->oR T D [] mv v
 Wi:∀(A:aX)(E Q:ag->ah->Prop)(s:ah)(x dx:ay)(Ti:Int)(tk:Tok)(mv:ag)(n:Nat),T.b.StaysIn s.heap->(∀i,mv≠.builtin i) ->
  s.heap.get? x=some {cls:=.ref T.Pd,dict:=some dx,data:=.plain,slots:=#[]}->s.heap.get? dx=some (bY [⟨Ti,.str (aa "scope") tk,mv⟩] n) ->
  (∀t',Q mv {s with toks:=t'})->wpAny (model T.prog T.w) A (getAttr (.ref x) (aa "scope") true) Q E s
 GK:∀(A:aX)(E Q:ag->ah->Prop)(s:ah)(e d:ay)(vs:bx ag) (sl:bx (au ag)) (h1 h2:Int) (t1 t2:Tok) (m1 m2:ag) (n:Nat),T.b.StaysIn s.heap->(∀i,m1≠.builtin i) ->
  s.heap.get? e=some {cls:=.ref T.Eb,dict:=some d,data:=.fields vs,slots:=sl}->s.heap.get? d=some (bY [⟨h1,.str (aa "what") t1,m1⟩,⟨h2,.str (aa "spot") t2,m2⟩] n) ->
  (∀t',Q m1 {s with toks:=t'})->wpAny (model T.prog T.w) A (getAttr (.ref e) (aa "what") true) Q E s
 GO:∀(A:aX)(E Q:ag->ah->Prop)(s:ah)(e d:ay)(vs:bx ag) (sl:bx (au ag)) (h1 h2:Int) (t1 t2:Tok) (m1 m2:ag) (n:Nat),T.b.StaysIn s.heap->(∀i,m2≠.builtin i) ->
  s.heap.get? e=some {cls:=.ref T.Eb,dict:=some d,data:=.fields vs,slots:=sl}->s.heap.get? d=some (bY [⟨h1,.str (aa "what") t1,m1⟩,⟨h2,.str (aa "spot") t2,m2⟩] n) ->
  (∀t',Q m2 {s with toks:=t'})->wpAny (model T.prog T.w) A (getAttr (.ref e) (aa "spot") true) Q E s
 types:∀x v,T.g.consts x=none->rj x=some v->T.mg x=none/\∃n,v=.typ n/\T.mb x=some (.type n)
 fns:∀f fn,T.g.fns f=some fn->t6 f=true->∃fa,T.mg f=some (.ref fa)/\FnAt T fn fa
 meths:∀m fn,T.g.fns (oU m)=some fn->∃fa,FnAt T fn fa/\∀(A:aX)(E:ag->ah->Prop)(Q:ag×af ag->ah->Prop)(s:ah)(x dx:ay)(Ti:Int)(tk:Tok)(mv:ag)(n:Nat)(pl:Sem aN),T.b.StaysIn s.heap ->
  s.heap.get? x=some {cls:=.ref T.Pd,dict:=some dx,data:=.plain,slots:=#[]}->s.heap.get? dx=some (bY [⟨Ti,.str (aa "scope") tk,mv⟩] n) ->
  Q (.ref fa,[.ref x]) s->wpAny (model T.prog T.w) A (getMethod (.ref x) m pl) Q E s
 Wj:∀p∈qx,T.mg (aa p.1)=none/\T.mb (aa p.1)=some p.2
 ev:T.mg (aa "Evaluator")=some (.ref T.Pd)
 fl:T.mg (aa "EvalFault")=some (.ref T.Eb)
 CQ:∀C,C=T.Pd\/C=T.Eb->∀h,T.b.StaysIn h->fE (model T.prog T.w) h (ke (.ref C)) .machine
 Tn:∀h e d vs sl,T.b.StaysIn h->h.get? e=some {cls:=.ref T.Eb,dict:=some d,data:=.fields vs,slots:=sl} ->
  fE (model T.prog T.w) h (isType (.ref e)) false/\fE (model T.prog T.w) h (iO (.ref e) (.type "BaseException")) true/\fE (model T.prog T.w) h (raisedInstance (.ref e)) (.ref e)/\fE (model T.prog T.w) h (mU (.ref e) (.ref T.Eb)) true
 Sh:∀(A:aX)(E Q:ag->ah->Prop)(s:ah)(a:ay),T.b.StaysIn s.heap->A.handled=none->A.depth+10<cy->A.units+700<iq ->
  (∀h' x dx Ti tk n t',(∀b o,s.heap.get? b=some o->h'.get? b=some o)->s.heap.get? x=none->s.heap.get? dx=none->x≠dx->h'.get? x=some {cls:=.ref T.Pd,dict:=some dx,data:=.plain,slots:=#[]} ->
   h'.get? dx=some (bY [⟨Ti,.str (aa "scope") tk,.ref a⟩] n)->Q (.ref x) {s with heap:=h',toks:=t'})->wpAny (model T.prog T.w) A (call (.ref T.Pd) [.ref a]) Q E s
 L8:∀(A:aX)(E Q:ag->ah->Prop)(s:ah)(m1 m2:ag),T.b.StaysIn s.heap->A.handled=none->A.depth+10<cy->A.units+700<iq ->
  (∀h' e d vs sl h1 t1 h2 t2 n t',(∀b o,s.heap.get? b=some o->h'.get? b=some o)->s.heap.get? e=none->s.heap.get? d=none->e≠d->h'.get? e=some {cls:=.ref T.Eb,dict:=some d,data:=.fields vs,slots:=sl}->1<vs.size->vs[1]?=some .none ->
   h'.get? d=some (bY [⟨h1,.str (aa "what") t1,m1⟩,⟨h2,.str (aa "spot") t2,m2⟩] n)->Q (.ref e) {s with heap:=h',toks:=t'})->wpAny (model T.prog T.w) A (call (.ref T.Eb) [m1,m2]) Q E s
structure qi(T:pg)(c:MC)(env:Env)(A:aX):Prop where
 top:Ir T
 ok:Sf c env
 hd:A.handled=none
 room:A.depth+10<cy
 units:A.units+700<iq
 g:c.g=T.g
theorem rK(ρ:af (Str×pq))(x y:Str)(b:pq):(oZ ρ x b).lookup y=if y=x then some b else ρ.lookup y:=by
 induction ρ with
 |nil =>
  show gM y [(x,b)]=_;simp only[aU,List.lookup_nil];by_cases h:y=x
  ·subst h;simp
  ·have:(y==x)=false:=beq_eq_false_iff_ne.mpr h;simp[h,this]
 |cons p r ih =>
  obtain⟨k,v⟩:=p;simp only[Ed];by_cases hk:(k==x)=true
  ·refine rg (aO hk) ?_;have o:=beq_iff_eq.mp hk;subst o;simp only[aU];by_cases h:y=k
   ·subst h;simp
   ·have:(y==k)=false:=beq_eq_false_iff_ne.mpr h;simp[h,this]
  ·refine rg (aT hk) ?_;have o:k≠x:=λe=>hk (beq_iff_eq.mpr e);simp only[aU,ih];by_cases h:y=k
   ·subst h;simp[o]
   ·have:(y==k)=false:=beq_eq_false_iff_ne.mpr h;simp[this]
section
variable{T:pg}{D D':oN}{φ ph:af ay}{c:MC}{env:Env}{A:aX}{st tm:St}{s s':ah}{Q:ag->ah->Prop}{E:ag->ah->Prop}
theorem rd.loc{x:Str}{mv:ag}(v:rd D env x mv)(h:env.kindOf x=some .local):∃m,D env.locals=some (.ns m)/\m x=some mv:=by
 refine(v).elim (λo=>?_) (λy=>?_)
 ·obtain⟨_,v⟩:=o;exact v
 ·refine(let C:Prop:=_;(?_:C))
  obtain⟨k,_⟩:=y;rw[h]at k;exact nomatch k
theorem rd.Tj{x:Str}{mv:ag}(v:rd D env x mv)(h:env.kindOf x=some .cell):∃z,env.cells.lookup x=some z/\D z=some (.cell (some mv)):=by
 refine(v).elim (λo=>?_) (λy=>?_)
 ·refine(let C:Prop:=_;(?_:C))
  obtain⟨k,_⟩:=o;rw[h]at k;exact nomatch k
 ·obtain⟨_,v⟩:=y;exact v
theorem sQ{x:Str}(h:pQ c x=true):c.names.lookup x=some .local\/c.names.lookup x=some .cell:=by
 unfold pQ at h;cases q:c.names.lookup x with
 |none=>rw[q]at h;exact(cj h).elim
 |some k =>
  rw[q]at h;cases k with
  | «local»=>exact .inl rfl
  |cell=>exact .inr rfl
  |_=>exact(cj h).elim
theorem zS(F:qi T c env A)(P:pI T D φ c env A st s){x:Str}{mv:ag}(hl:pQ c x=true)(hv:rd D env x mv)(h:Q mv s):wpAny (model T.prog T.w) A (loadName env x) Q E s:=by
 refine(let C:Prop:=_;(?_:C))
 refine(sQ hl).elim (λe=>?_) (λe=>?_)
 ·obtain⟨m,hm,hx⟩:=hv.loc (F.ok.loc x e);exact cx F.ok.kind (F.ok.loc x e) (P.pO _ _ hm) hx h
 ·obtain⟨o,hc,hd⟩:=hv.Tj (F.ok.Tj x e);exact mA F.ok.kind (F.ok.Tj x e) hc (P.pO _ _ hd) h
theorem yM{ρ:af (Str×pq)}{ps:af Str}{ns:af (Str×bM)}{x:Str}{b:pq}(h:(ρ++qF ps ns).lookup x=some b)(hn:b≠.no):ρ.lookup x=some b:=by
 rw[List.lookup_append]at h;cases e:ρ.lookup x with
 |some o=>rw[e]at h;exact h
 |none =>
  replace h:=(e)▸h;refine(let C:Prop:=_;(?_:C))
  obtain⟨l,r,e1,_⟩:=List.lookup_eq_some_iff.mp h;have hm:(x,b)∈qF ps ns:=e1▸gG _ (.head _);obtain⟨p,_,hp⟩:=List.mem_map.mp hm;cases hp;exact(hn rfl).elim
theorem oR.own(D:oN){x:Str}{a:ay}{n:Nat}{vs:af ag}{l:af V}(h:D a=some (.own x vs))(hz:vs.length<=qf)(r:oK T D φ vs l) :
  oR T (D.put a (.fz {cls:=.type "list", data:=.seq vs.toArray n})) φ (.ref a) (.lst l) :=
 .lst (oN.oV ..) (hz) (r.mono (oN.Le.put λsp e=>by rw[h]at e;obtain rfl:=ai e;rfl) (ao _))
theorem Link.turn(L:Link T D φ c env st){x:Str}{a:ay}{vs:af ag}{sp:Sp}{b:pq}(h:D a=some (.own x vs))(hx:rd D env x (.ref a))(hb:wG T (D.put a sp) φ x (.ref a) b) :
  Link T (D.put a sp) φ c env {st with ρ:=oZ st.ρ x b}:=by
 have le:D.Le (D.put a sp):=oN.Le.put λH e=>by rw[h]at e;obtain rfl:=ai e;rfl
 have ne:∀y H,D y=some H->(∀z w,H≠.own z w)->(D.put a sp) y=some H:=λy H e hn=>by
  rw[oN.pj]
  ·exact e
  ·rintro rfl;rw[h]at e;obtain rfl:=ai e;exact hn _ _ rfl
 have Wk:∀y mv,rd D env y mv->rd (D.put a sp) env y mv:=λy mv v=>by
  refine(let C:Prop:=_;(?_:C))
  refine(v).elim (λO=>?_) (λU=>?_)
  ·obtain⟨k,m,e,q⟩:=O;exact .inl ⟨k,m,ne _ _ e (λu_ u_=>by simp),q⟩
  ·obtain⟨k,M,e,q⟩:=U;exact .inr ⟨k,M,e,ne _ _ q (λu_ u_=>by simp)⟩
 refine⟨?_,λy b' e n=>?_,λy e=>?_,λy v e=>?_,?_⟩
 ·obtain⟨m,e⟩:=L.locals;exact⟨m,ne _ _ e (λu_ u_=>by simp)⟩
 ·rw[rK]at e;by_cases hy:y=x
  ·subst hy;rw[aO rfl]at e;obtain rfl:=ai e;exact o5 _ (Wk _ _ hx) hb
  ·replace e:=(aT hy)▸e;refine o8 (L.vars y b' e n) λmv hv hr=>?_;refine o5 mv (Wk _ _ hv) ?_;cases hr with
   |val r=>exact .val (r.mono le (ao _))
   |@own Y To l' o z r =>
    refine .own (D:=D.put a sp) ?_ z (r.mono le (ao _));rw[oN.pj]
    ·exact o
    ·rintro rfl;replace o:=(h)▸o;cases o;exact hy rfl
 ·refine tW (L.p6 y e) λM v p q=>?_;exact uL M v p (ne _ _ q (λu_ u_=>by simp))
 ·refine vp (L.free y v e) λM o mv p q r z=>?_;exact zF M o mv p (ne _ _ q (λu_ u_=>by simp)) r (z.mono le (ao _))
 ·exact⟨L.cells.len,L.cells.nodup,λi c e=>let⟨Y,Gu,p,q,r⟩:=L.cells.get i c e;(tD Y Gu p (ne _ _ q (λu_ u_=>by simp)) (r.mono le))⟩
theorem pI.freeze(P:pI T D φ c env A st s){x:Str}{l:af V}(y:st.ρ.lookup x=some (.own l)) :
  ∃a D',rd D env x (.ref a)/\Good T D φ D' φ c env {st with ρ:=oZ st.ρ x (.val (.lst l))} s/\oR T D' φ (.ref a) (.lst l):=by
 refine(let C:Prop:=_;(?_:C))
 refine o8 (P.link.vars x _ y nofun) λmv hv hb=>?_;cases hb with
 |@own a vs l o z r =>
  refine p8 (P.pO _ _ o) λn hn=>?_;have hR:=oR.own (n:=n) D o z r;refine tD a _ hv ⟨oN.Le.put λH e=>?_,ao _,P.pO.put (sp:=.fz _) hn,P.link.turn o hv (.val hR),P.gens,P.os,.put (by intro _ _ h;cases h)⟩ hR
  rw[o]at e;obtain rfl:=ai e;rfl
theorem JM(F:qi T c env A)(P:pI T D φ c env A st s){x:Str}{v:V}(hl:c.names.lookup x=some .free)(hv:c.free.lookup x=some v)(h:∀mv,oR T D φ mv v->Q mv s):wpAny (model T.prog T.w) A (loadName env x) Q E s:=by
 refine(let C:Prop:=_;(?_:C))
 refine vp (P.link.free x v hv) λy o mv p q r z=>?_;refine p8 (P.pO _ _ q) λH hk=>?_;have hc:s.heap.IsCell y (some mv):=(o5 _ hk r);refine(F.ok.fre x hl).elim (λe=>?_) (λe=>?_)
 ·exact mA F.ok.kind e p hc (h mv z)
 ·exact mz F.ok.kind e p hc (h mv z) (F.ok.plain x _ hl).2
theorem pI.nsG(F:qi T c env A)(P:pI T D φ c env A st s):s.heap.Ns env.globals T.mg:=rg (F.ok.glob ..) (F.top.g.keeps P.stays)
theorem pI.nsB(F:qi T c env A)(P:pI T D φ c env A st s):s.heap.Ns env.builtins T.mb:=rg (F.ok.blt ..) (F.top.bl.keeps P.stays)
theorem ta(F:qi T c env A)(P:pI T D φ c env A st s){x:Str}{mv:ag}{pos:Pos}(hl:c.names.lookup x=some .globalImplicit)(h:T.mg x=some mv)(o:Q mv s):wpAny (model T.prog T.w) A (eval (.Name x pos) env) Q E s :=
 iu F.ok.kind (F.ok.YY x hl) (ni (P.nsG F) h o) (F.ok.plain x _ hl).1
theorem sj(F:qi T c env A)(P:pI T D φ c env A st s){x:Str}{mv:ag}{pos:Pos}(hl:c.names.lookup x=some .globalImplicit)(h:T.mg x=none)(hb:T.mb x=some mv)(o:Q mv s):wpAny (model T.prog T.w) A (eval (.Name x pos) env) Q E s :=
 iu F.ok.kind (F.ok.YY x hl) (mT (P.nsG F) h (P.nsB F) hb o) (F.ok.plain x _ hl).1
set_option tactic.hygienic true in
theorem L9(F:qi T c env A)(P:pI T D φ c env A st s){x:Str}{pos:Pos}(k:K T D φ c env (VR T) (tZ c x st) Q E):wpAny (model T.prog T.w) A (eval (.Name x pos) env) Q E s:=by
 unfold tZ at k;by_cases h1:pQ c x=true
 ·rw[aO h1]at k;have hd:(x==("__debug__" : Str))=false:=by rcases sQ h1 with e|e<;>exact(F.ok.plain x _ e).1
  refine d2 ?_ hd;refine(let C:Prop:=_;(?_:C))
  split at k
  ·rename_i v e;refine(let C:Prop:=_;(?_:C))
   refine o8 (P.link.vars x _ e nofun) λmv hv hb=>?_;cases hb with
   |val r=>exact zS F P h1 hv (k.ok P.here r)
  ·rename_i l e;refine sF (P.freeze e) λa D' hv g r=>?_;exact zS F P h1 hv (k.ok g r)
  ·exact k.oH.elim
 ·rw[aT h1]at k;by_cases h2:Gx c x=true
  ·rw[aO h2]at k;have hl:c.names.lookup x=some .free:=beq_iff_eq.mp h2;refine d2 ?_ (F.ok.plain x _ hl).1;unfold R.opt at k;split at k
   ·rename_i v e;exact JM F P hl e λmv r=>k.ok P.here r
   ·exact k.oH.elim
  ·rw[aT h2]at k;by_cases o:qw c x=true
   ·replace k:=(aO o)▸k;have hl:c.names.lookup x=some .globalImplicit:=beq_iff_eq.mp o;refine(let C:Prop:=_;(?_:C))
    split at k
    ·rename_i v e;rw[F.g]at e;refine o8 (F.top.consts x v e) λmv hm hr=>?_;exact ta F P hl hm (k.ok P.here ((hr D P.base).mono (oN.Le.refl _) (mi)))
    ·rename_i e;rw[F.g]at e;unfold R.opt at k;split at k
     ·rename_i v e';obtain⟨hm,n,rfl,hb⟩:=F.top.types x v e e';exact sj F P hl hm hb (k.ok P.here (.typ n))
     ·exact k.oH.elim
   ·rw[aT o]at k;exact k.oH.elim
theorem JN(P:pI T D φ c env A st s){v:nE}{n:Nat}{pos:Pos}(k:K T D φ c env (VR T) (oO c (.Constant v n pos) st) Q E):wpAny (model T.prog T.w) A (eval (.Constant v n pos) env) Q E s:=by
 simp only[GD]at k;unfold yh at k
 induction v using gd with
 |none=>exact aj (k.ok P.here .none)
 |bool b=>exact aj (k.ok P.here (.bool b))
 |int i=>exact dN (k.ok P.toks (.int i _))
 |str x =>
  dsimp only at k;split at k
  ·rename_i h;exact lT (k.ok P.toks (.str x _ h))
  ·exact k.oH.elim
 |_=>exact k.oH.elim
noncomputable def SimT(T:pg)(c:MC)(env:Env)(A:aX)(t:Sem ag)(f:St->R V):Prop :=
 ∀D φ st s (Q E:ag->ah->Prop),pI T D φ c env A st s->K T D φ c env (VR T) (f st) Q E->wpAny (model T.prog T.w) A t Q E s
noncomputable def B0(T:pg)(c:MC)(env:Env)(A:aX)(t:Sem aN)(f:St->R aN):Prop :=
 ∀D φ st s (Q:aN->ah->Prop) (E:ag->ah->Prop),pI T D φ c env A st s->K T D φ c env (λu_ u_ b a=>b=a) (f st) Q E->wpAny (model T.prog T.w) A t Q E s
noncomputable def SimS(T:pg)(c:MC)(env:Env)(A:aX)(t:aN×Sem ag)(f:St->R V):Prop:=SimT T c env A t.2 f/\(t.1=false\/∀st,f st=.stuck)
theorem K.mp{y z:Type}{o:oN->af ay->z->y->Prop}{r:R y}{Q' Q:z->ah->Prop}{E:ag->ah->Prop}(k:K T D φ c env o r Q E)(h:∀b s,Q b s->Q' b s):K T D φ c env o r Q' E :=
 (qB k.1 (λa st e b s D' ph g x=>h _ _ (k.2.1 a st e b s D' ph g x)) k.2.2)
theorem K.opt{z C:Type}{y:oN->af ay->C->z->Prop}{Q:C->ah->Prop}{o:au z}(k:K T D φ c env y (R.opt o st) Q E):∃a,o=some a/\K T D φ c env y (.ok a st) Q E:=by
 induction o using cT with
 |none=>exact k.oH.elim
 |some a=>exact o5 a rfl k
inductive Each{α β:Type}(P:α->β->Prop):af α->af β->Prop
 |nil:Each P [] []
 |cons {a b as bs}:P a b->Each P as bs->Each P (a::as) (b::bs)
theorem rZ{o:af (aN×Sem ag)}{fs:af (St->R V)}(S:Each (SimS T c env A) o fs):∀{D φ st s} {Q:af ag->ah->Prop} {E:ag->ah->Prop},pI T D φ c env A st s ->
  K T D φ c env (λD φ mvs vs=>oK T D φ mvs vs) (pC fs st) Q E->wpAny (model T.prog T.w) A (spliced o) Q E s:=by
 induction S with
 |nil=>intro D φ st s Q E P k;exact er (k.ok P.here .nil)
 |@cons t f o fs h _ ih =>
  intro D φ st s Q E P k;obtain⟨b,t⟩:=t;obtain⟨h1,h2⟩:=h;rcases h2 with rfl|h2
  ·refine cZ (h1 _ _ _ _ _ _ P (K.bind k λv y mv U Y z e g r k1=>?_));refine ih (P.good g) (K.bind k1 λvs H mvs s2 D2 M e2 g2 O k2=>?_);exact k2.ok ((P.good g).good g2).here (.cons (oR.mono r g2.le g2.pre) O)
  ·simp only[show pC (f::fs) st=(f st).bind λv s=>(pC fs s).bind λvs s=>.ok (v::vs) s from rfl,h2 st]at k;refine(let C:Prop:=_;(?_:C))
   exact k.oH.elim
theorem rn{es:af aI}(h:∀e∈es,SimT T c env A (eval e env) (λs=>oO c e s))(pos:Pos):Each (SimS T c env A) (gx pos (dv es env)) (pk c es):=by
 induction es with
 |nil=>exact .nil
 |cons e r ih =>
  have o:=ih λx hx=>h x (aA _ hx);have y:=h e az
  have plain:dv (e::r) env=(false,eval e env)::dv r env->Each (SimS T c env A) (gx pos (dv (e::r) env)) (pk c (e::r)):=λq=>by
   exact rg (q ..) (.cons ⟨y,.inl rfl⟩ o)
  induction e using aQ with
  |Starred x p =>
   refine .cons ⟨λD φ st s Q E P k=>?_,.inr λst=>JF c st x p⟩ o;dsimp only at k;exact k.oH.elim
  |_=>exact plain rfl
theorem GP(P:pI T D φ c env A st s){mvs:af ag}{vs:af V}(r:oK T D φ mvs vs)(k:K T D φ c env (VR T) (vg vs st) Q E):wpAny (model T.prog T.w) A (newTuple mvs) Q E s:=by
 unfold vg at k;split at k
 ·rename_i hz;have hl:=r.length;refine aV (k.ok (P.new _) (.tup (oN.oV ..) (by simp;exact vS .x (.n 1000000) .y .x .y (.n 1000000) rfl hz (ak hl)) (r.mono (P.new _ (tk:=s.toks)).le (ao _)))) ?_
  simp only[qf]at hz;refine(?_:mvs.toArray.size<=dH);exact vS .x .y .y (.n 1000000) .x (.n 16777216) rfl (ak hl) hz
 ·refine(let C:Prop:=_;(?_:C))
  exact k.oH.elim
theorem JO(P:pI T D φ c env A st s){mvs:af ag}{vs:af V}(r:oK T D φ mvs vs)(k:K T D φ c env (VR T) (wg vs st) Q E):wpAny (model T.prog T.w) A (newList mvs) Q E s:=by
 unfold wg at k;split at k
 ·rename_i hz;have hl:=r.length;refine aV (k.ok (P.new _) (.lst (oN.oV ..) (by simp;exact vS .x (.n 1000000) .y .x .y (.n 1000000) rfl hz (ak hl)) (r.mono (P.new _ (tk:=s.toks)).le (ao _)))) ?_
  simp only[qf]at hz;refine(?_:mvs.toArray.size<=dH);exact vS .x .y .y (.n 1000000) .x (.n 16777216) rfl (ak hl) hz
 ·refine(let C:Prop:=_;(?_:C))
  exact k.oH.elim
theorem JP{es:af aI}{n:Nat}{pos:Pos}(h:∀e∈es,SimT T c env A (eval e env) (λs=>oO c e s)):SimT T c env A (eval (.Tuple es n pos) env) (λs=>oO c (.Tuple es n pos) s):=λD φ st s Q E P k=>by
 dsimp only at k;exact Tuple_ (rZ (rn h pos) P (K.bind k λvs o mvs z C y e g r k1=>GP (P.good g) r k1))
theorem Ma{es:af aI}{pos:Pos}(h:∀e∈es,SimT T c env A (eval e env) (λs=>oO c e s)):SimT T c env A (eval (.List es pos) env) (λs=>oO c (.List es pos) s):=λD φ st s Q E P k=>by
 dsimp only at k;exact List_ (rZ (rn h pos) P (K.bind k λvs o mvs z C y e g r k1=>JO (P.good g) r k1))
end
end
section
open PySem PySem.Calls PyProof.Rows PySem.SeqAt
section
variable{T:pg}{D:oN}{φ:af ay}
theorem oR.reads{h:bP}(I:D.In T h){mv:ag}{v:V}(x:oR T D φ mv v){d:gy}(e:v.toPy=some d):(∃as,Reads h mv d as)/\d.canLay0=true:=by
 revert d;refine @(oA ?_)
 exact oR.rec (motive_1:=λmv v u_=>v.toPy.elim fh λd=>(∃as,Reads h mv d as)/\d.canLay0=true) (motive_2:=λmvs vs u_=>(V.qv vs).elim fh λds=>(∃as,ReadsAll h mvs ds as)/\hV ds=true)
  ⟨⟨_,.none⟩,rfl⟩ (λb=>⟨⟨_,.bool b⟩,rfl⟩) (λi t=>⟨⟨_,.int i t⟩,rfl⟩) (λx t k=>⟨⟨_,.str x t⟩,k⟩) (λu_=>trivial) (λp u_ u_ i=>oM i λds H=>qA H λr hc=>r.elim λas o=>⟨⟨_,.tuple (I _ _ p) rfl rfl o⟩,hc⟩)
  (λp u_ u_ i=>oM i λds H=>qA H λr hc=>r.elim λas o=>⟨⟨_,.list (I _ _ p) rfl rfl o⟩,hc⟩) (λu_=>trivial) (λu_ u_ u_ u_=>trivial) (λu_ u_ u_ u_ u_ u_=>trivial) (λu_ u_ u_=>trivial) (λu_ u_=>trivial)
  ⟨⟨_,.nil⟩,rfl⟩ (λu_ u_ i j=>oE λds e=>yf e λd y e1 e2 e=>e▸qA (oA i d e1) λr h1=>qA (oA j y e2) λz h2=>r.elim λas o=>z.elim λbs C=>⟨⟨_,.cons o C⟩,gP.2 ⟨h1,h2⟩⟩) x
theorem oK.reads{h:bP}(I:D.In T h){mvs:af ag}{vs:af V}(x:oK T D φ mvs vs){ds:af gy}(e:V.qv vs=some ds):(∃as,ReadsAll h mvs ds as)/\hV ds=true:=by
 revert ds;refine @(oA ?_)
 exact oK.rec (motive_1:=λmv v u_=>v.toPy.elim fh λd=>(∃as,Reads h mv d as)/\d.canLay0=true) (motive_2:=λmvs vs u_=>(V.qv vs).elim fh λds=>(∃as,ReadsAll h mvs ds as)/\hV ds=true)
  ⟨⟨_,.none⟩,rfl⟩ (λb=>⟨⟨_,.bool b⟩,rfl⟩) (λi t=>⟨⟨_,.int i t⟩,rfl⟩) (λx t k=>⟨⟨_,.str x t⟩,k⟩) (λu_=>trivial) (λp u_ u_ i=>oM i λds H=>qA H λr hc=>r.elim λas o=>⟨⟨_,.tuple (I _ _ p) rfl rfl o⟩,hc⟩)
  (λp u_ u_ i=>oM i λds H=>qA H λr hc=>r.elim λas o=>⟨⟨_,.list (I _ _ p) rfl rfl o⟩,hc⟩) (λu_=>trivial) (λu_ u_ u_ u_=>trivial) (λu_ u_ u_ u_ u_ u_=>trivial) (λu_ u_ u_=>trivial) (λu_ u_=>trivial)
  ⟨⟨_,.nil⟩,rfl⟩ (λu_ u_ i j=>oE λds e=>yf e λd y e1 e2 e=>e▸qA (oA i d e1) λr h1=>qA (oA j y e2) λz h2=>r.elim λas o=>z.elim λbs C=>⟨⟨_,.cons o C⟩,gP.2 ⟨h1,h2⟩⟩) x
end
section
variable{prog:b0}{w:bQ}{A:aX}{E:ag->ah->Prop}{s:ah}{Q:ag->ah->Prop}
theorem Et{a:Int}{t:Tok}{b:aN}(h:Q (.bool (decide (a<if b then 1 else 0))) s):wpAny (model prog w) A (compareOp .Lt (.int a t) (.bool b)) Q E s:=by
 refine(?_:wpAny _ _ (richCompare .Lt (.int a t) (.bool b)) Q E s)
 refine rc_sub_first_or (j9 s a t) rfl (rfl) F.sub_bool_int F.slot_bool_gt_refl
  (call_gives F.slot_bool_gt_refl rfl F.entry_int_gt (F.args_int_gt_2 _ _) (m:=.val (ew ((λo y=>decide (o>y)) (if b=true then(1:Int)else 0) a))) (.of_wp λM A E s Q h=>by obtain⟨hp,g,d,tk,os⟩:=s;wp_walk;exact⟨_,rfl,h⟩) ⟨nofun,h⟩) (.inl rfl)
theorem Eu{a:aN}{b:Int}{u:Tok}(h:Q (.bool (decide ((if a then 1 else 0)<b))) s):wpAny (model prog w) A (compareOp .Lt (.bool a) (.int b u)) Q E s:=by
 refine(?_:wpAny _ _ (richCompare .Lt (.bool a) (.int b u)) Q E s)
 exact rc_left_or rfl (j9 s b u) (rfl) F.sub_int_bool F.slot_bool_lt
  (call_gives F.slot_bool_lt rfl F.entry_int_lt (F.args_int_lt_2 _ _) (m:=.val (ew ((λo y=>decide (o<y)) (if a=true then(1:Int)else 0) b))) (.of_wp λM A E s Q h=>by obtain⟨hp,g,d,tk,os⟩:=s;wp_walk;exact⟨_,rfl,h⟩) ⟨nofun,h⟩) (.inl rfl)
end
section
open AutoSeq1 (wpAny_loadPart')
open MeetsSeq MeetsSeq2 MeetsSeq3
variable{T:pg}{D:oN}{φ:af ay}
noncomputable def Y0(T:pg)(D:oN)(φ:af ay)(x:ag):V->Prop
 |.none=>x=.none
 |.bool b=>x=.bool b
 |.int i=>∃t,x=.int i t
 |.str b=>∃t,x=.str b t/\b4 b=true
 |.typ n=>x=.type n
 |.tup l=>∃a vs n,x=.ref a/\D a=some (.fz {cls:=.type "tuple", dict:=aC,data:=.seq vs n,slots:=#[]})/\vs.size<=qf/\oK T D φ vs.toList l
 |.lst l=>∃a vs n,x=.ref a/\D a=some (.fz {cls:=.type "list", dict:=aC,data:=.seq vs n,slots:=#[]})/\vs.size<=qf/\oK T D φ vs.toList l
 |.ptr i=>∃a,x=.ref a/\φ[i]?=some a
 |.we a b=>∃r t u v,x=.ref r/\D r=some (.fz {cls:=.type "range", dict:=aC,data:=.fields #[.int a t,.int b u,.int 1 v],slots:=#[]})/\small a=true/\small b=true
 |.rO l=>∃a o,x=.ref a/\D a=some (.fz o)/\L5 T o l
 |.ev v=>∃a z y tk mv n,x=.ref a/\D a=some (.fz {cls:=.ref T.Pd,dict:=some z,data:=.plain,slots:=#[]})/\D z=some (.fz (bY [⟨y,.str (aa "scope") tk,mv⟩] n))/\oR T D φ mv v
 |.wx w p=>∃e d h1 M C h2 O H n,x=.ref e/\D e=some (.xc d)/\D d=some (.fz (bY [⟨h1,.str (aa "what") M,C⟩,⟨h2,.str (aa "spot") O,H⟩] n))/\oR T D φ C w/\oR T D φ H p
theorem oR.inv{x:ag}{v:V}(h:oR T D φ x v):Y0 T D φ x v:=by
 cases h with
 |none=>exact rfl
 |bool b=>exact rfl
 |int i t=>exact⟨t,rfl⟩
 |str b t k=>exact o5 t rfl k
 |typ n=>exact rfl
 |tup p q r=>exact zF _ _ _ rfl p q r
 |lst p q r=>exact zF _ _ _ rfl p q r
 |ptr p=>exact o5 _ rfl p
 |we p q r=>exact YR _ _ _ _ rfl p q r
 |rO p q=>exact tD _ _ rfl p q
 |ev p q r=>exact⟨_,_,_,_,_,_,rfl,p,q,r⟩
 |wx p q r o=>exact⟨_,_,_,_,_,_,_,_,_,rfl,p,q,r,o⟩
theorem oK.nil_inv{l:af V}(h:oK T D φ [] l):l=[]:=by cases h;rfl
theorem oR.none_inv{x:ag}(h:oR T D φ x .none):x=.none:=h.inv
theorem oR.xm{x:ag}{i:Nat}(h:oR T D φ x (.ptr i)):∃a,x=.ref a/\φ[i]?=some a:=h.inv
theorem oR.bool_inv{x:ag}{b:aN}(h:oR T D φ x (.bool b)):x=.bool b:=h.inv
theorem oR.int_inv{x:ag}{i:Int}(h:oR T D φ x (.int i)):∃t,x=.int i t:=h.inv
theorem oR.str_inv{x:ag}{b:Str}(h:oR T D φ x (.str b)):∃t,x=.str b t/\b4 b=true:=h.inv
theorem oR.rN{x:ag}{l:af V}(h:oR T D φ x (.tup l)):∃a vs n,x=.ref a/\D a=some (.fz {cls:=.type "tuple", dict:=aC,data:=.seq vs n,slots:=#[]})/\vs.size<=qf/\oK T D φ vs.toList l:=h.inv
theorem oR.lst_inv{x:ag}{l:af V}(h:oR T D φ x (.lst l)):∃a vs n,x=.ref a/\D a=some (.fz {cls:=.type "list", dict:=aC,data:=.seq vs n,slots:=#[]})/\vs.size<=qf/\oK T D φ vs.toList l:=h.inv
theorem Ew{x y:V}{xs ys:af V}{r:aN}(h:rR (x::xs) (y::ys)=some r):∃i j,x=.int i/\y=.int j/\(if i=j then rR xs ys else some (decide (i<j)))=some r:=by
 revert r;refine @(oA ?_)
 induction x using V.casesOn with
 |int i=>induction y using V.casesOn with
  |int j=>exact oE λr h=>⟨i,j,rfl,rfl,h⟩
  |_=>trivial
 |_=>trivial
theorem GQ{y:V}{ys:af V}{r:aN}(h:rR [] (y::ys)=some r):r=true:=by
 revert r;refine @(oA ?_)
 induction y using V.casesOn with
 |int i=>rfl
 |_=>trivial
theorem GR{x:V}{xs:af V}{r:aN}(h:rR (x::xs) []=some r):r=false:=by
 revert r;refine @(oA ?_)
 induction x using V.casesOn with
 |int i=>rfl
 |_=>trivial
noncomputable def VH(T:pg)(D:oN)(φ:af ay)(r:aN)(y n2:Nat)(rest:af (ag×ag)):Prop :=
 ∃o vs xs ys,rest=List.zip o vs/\oK T D φ o xs/\oK T D φ vs ys/\rR xs ys=some r/\∃k,y=o.length+k/\n2=vs.length+k
theorem VH.turn {r:aN} {M n2:Nat} {p:ag×ag} {rest:af (ag×ag)} (U:VH T D φ r M n2 (p::rest)) {C:Prop}
  (h:∀i j ti y,p=(.int i ti,.int j y)->(i=j->VH T D φ r M n2 rest)->(i≠j->decide (i<j)=r)->C):C:=by
 refine V4 U λO vs xs ys hz h1 h2 hr hk=>?_;cases h1 with
 |nil=>cases hz
 |@cons u O x1 z a1 b1 =>
  cases h2 with
  |nil=>cases hz
  |@cons v vs y1 H a2 Y =>
   refine sF (Ew hr) λi j e e' o=>?_;subst e e';refine p8 a1.int_inv λti e=>p8 a2.int_inv λy e'=>?_;subst e e';refine h i j ti y (ly hz).1 (λq=>?_) (λq=>ai ((aT q).symm.trans o));exact o8 hk λk k1 k2=>⟨O,vs,z,H,(ly hz).2,b1,Y,(aO q).symm.trans o,k+1,k1.trans (ir _ 1 k),k2.trans (ir _ 1 k)⟩
theorem VH.done{r:aN}{o n2:Nat}(y:VH T D φ r o n2 []):gI .Lt o n2=.bool r:=by
 refine V4 y λC vs xs ys hz h1 h2 hr hk=>o8 hk λk k1 k2=>?_;subst k1 k2;unfold gI;cases h1 with
 |nil =>
  cases h2 with
  |nil=>obtain rfl:=ai hr;simp
  |cons a2 z=>cases GQ hr;simp
 |cons a1 b1 =>
  cases h2 with
  |nil=>cases GR hr;simp
  |cons a2 z=>cases hz
theorem Bn(l b:ay)(items o:bx ag)(n n2:Nat)(xs ys:af V)(hx:oK T D φ items.toList xs)(hy:oK T D φ o.toList ys)(r:aN)(hr:rR xs ys=some r) :
  Meets (c0.«tuple.__lt__» ⟨[.ref l,.ref b],[]⟩)
   (λA R s=>s.heap.get? l=some {cls:=.type "tuple", dict:=none,data:=.seq items n,slots:=#[]}/\s.heap.get? b=some {cls:=.type "tuple", dict:=none,data:=.seq o n2,slots:=#[]}/\R (.ok (.ret (.bool r))) s) :=
 .of_wp λprog w A R s h=>by
  obtain⟨hp,g,d,tk,os⟩:=s;obtain⟨hl,hb,h⟩:=h;have f2:=AutoSeq1.sub_tuple_tuple
  wp_walk using wpAny_loadPart' hl,wpAny_loadPart' hb,wpAny_forIn_list _ (λrest b H=>b.1=none/\H=⟨hp,g,d,tk,os⟩/\VH T D φ r items.size o.size rest) _
  case turn =>
   intro p rest b H hI;refine y8 hI λz e M=>?_;clear hI;subst e;refine(let C:Prop:=_;(?_:C))
   refine M.turn λi j ti Y e h1 h2=>?_;subst e;refine(let O:_->ah->Prop:=_;let U:ag->ah->Prop:=_;(?_:wpAny _ _ _ O U _))
   refine ae (EqAt.int_int i ti j Y prog w _ _ ?_);by_cases y:i=j
   ·rw[beq_iff_eq.mpr y,aT (by decide)]
    exact aj ⟨rfl,rfl,h1 y⟩
   ·refine(beq_eq_false_iff_ne.mpr y).symm▸?_;refine(aO (show(!false)=true from rfl)).symm▸?_;obtain rfl:=h2 y;refine(let C:Prop:=_;(?_:C))
    refine ae (fb (ae ?_));refine lt_int (t:=ti) (u:=Y) (ae (aj (aj ?_)));exact aj (o5 _ rfl h)
  case fin =>
   intro b H hI;refine y8 hI λz e M=>?_;clear hI;subst e;obtain⟨b1,b2⟩:=b;obtain rfl:b1=none:=z;refine aj (o5 _ rfl ?_);rw[M.done];exact h
  case h =>
   exact⟨rfl,rfl,items.toList,o.toList,xs,ys,rfl,hx,hy,hr,0,by simp,by simp⟩
end
theorem tG.valueAt{T:pg}{D:oN}{o:af (Str×ag)}{c:Cell}(x:tG T D o c)(k:Str) :
  (c.lookup k=none/\ez o k=none)\/∃mv v,c.lookup k=some v/\ez o k=some mv/\oR T D [] mv v/\v.oQ=true:=by
 induction x with
 |nil=>exact .inl ⟨rfl,rfl⟩
 |@cons y mv v o c a b _ ih =>
  by_cases h:k=y
  ·subst h;exact .inr (Pl mv v (by simp[aU]) (by simp[ez]) a b)
  ·have h':(k==y)=false:=beq_eq_false_iff_ne.mpr h;have h2:¬y=k:=λe=>h e.symm;have e1:gM k ((y,v)::c)=c.lookup k:=by simp[aU,h']
   have e2:ez ((y,mv)::o) k=ez o k:=by simp[ez,List.find?_cons,h2]
   refine(e1).symm▸?_;refine(e2).symm▸?_;exact ih
theorem Ex{x:V}{l:af V}{r:aN}(h:zc x l=some r):∃d ds,x.toPy=some d/\V.qv l=some ds/\d.depth<=500/\(ds.any λy=>a9 y d)=r:=by
 unfold zc at h;cases h1:x.toPy with
 |none=>replace h:=(h1)▸h;exact(nS h).elim
 |some d =>
  cases h2:V.qv l with
  |none=>replace h:=(h1)▸h;replace h:=(h2)▸h;exact(nS h).elim
  |some ds =>
   replace h:=(h1)▸h;replace h:=(h2)▸h;refine(let C:Prop:=_;(?_:C))
   by_cases hd:d.depth<=500
   ·exact Pl d ds rfl rfl hd (ai ((aO hd).symm.trans h))
   ·cases(aT hd).symm.trans h
theorem Mb{x v:V}{σ:af Cell}{r:aN}(h:wy x v σ=some r):(∃l,v=.tup l/\zc x l=some r)\/(∃l,v=.lst l/\zc x l=some r)\/∃i k cell,v=.ptr i/\x=.str k/\σ[i]?=some cell/\(cell.lookup k).isSome=r:=by
 revert r;refine @(oA ?_)
 induction v using V.casesOn with
 |tup l=>exact oE λr h=>.inl ⟨l,rfl,h⟩
 |lst l=>exact oE λr h=>.inr (.inl ⟨l,rfl,h⟩)
 |ptr i=>induction x using V.casesOn with
  |str k =>
   refine oE λr h=>.inr (.inr ?_);refine(let C:Prop:=_;(?_:C))
   cases q:σ[i]? with
   |none=>have h:wy (.str k) (.ptr i) σ=some r:=h;delta wy at h;dsimp only at h;replace h:=(q)▸h;exact(nS h).elim
   |some cell=>have h:wy (.str k) (.ptr i) σ=some r:=h;delta wy at h;dsimp only at h;replace h:=(q)▸h;exact zF i k cell rfl rfl q (ai h)
  |_=>trivial
 |_=>trivial
theorem Mc{a b:V}{r:aN}(h:JD a b=some r):(∃i j,a=.int i/\b=.int j/\decide (i<j)=r)\/(∃i j,a=.int i/\b=.bool j/\decide (i<if j then 1 else 0)=r)\/(∃i j,a=.bool i/\b=.int j/\decide ((if i then 1 else 0)<j)=r) \/
  (∃i j,a=.bool i/\b=.bool j/\decide ((if i then(1:Int)else 0)<if j then 1 else 0)=r)\/∃l m,a=.tup l/\b=.tup m/\rR l m=some r:=by
 revert r;refine @(oA ?_)
 induction a using V.casesOn with
 |int i=>induction b using V.casesOn with
  |int j=>exact .inl ⟨i,j,rfl,rfl,rfl⟩
  |bool j=>exact .inr (.inl ⟨i,j,rfl,rfl,rfl⟩)
  |_=>trivial
 |bool i=>induction b using V.casesOn with
  |int j=>exact .inr (.inr (.inl ⟨i,j,rfl,rfl,rfl⟩))
  |bool j=>exact .inr (.inr (.inr (.inl ⟨i,j,rfl,rfl,rfl⟩)))
  |_=>trivial
 |tup l=>induction b using V.casesOn with
  |tup m=>exact oE λr h=>.inr (.inr (.inr (.inr ⟨l,m,rfl,rfl,h⟩)))
  |_=>trivial
 |_=>trivial
section
variable{T:pg}{D D':oN}{φ ph:af ay}{c:MC}{env:Env}{A:aX}{st tm:St}{s s':ah}{Q Q':ag->ah->Prop}{E:ag->ah->Prop}
theorem zT(F:qi T c env A)(P:pI T D φ c env A st s){a:ay}{y:af (Str×ag)}(h:D a=some (.dct y)):(a==ka)=false:=by
 refine beq_eq_false_iff_ne.mpr λe=>?_;subst e;refine p8 (F.top.mods) λo ho=>?_;rw[P.base _ _ ho]at h;exact nomatch h
set_option tactic.hygienic true in
theorem Tp(F:qi T c env A)(P:pI T D φ c env A st s){x y:ag}{a b:V}{r:aN}(hx:oR T D φ x a)(hy:oR T D φ y b)(hr:vt a b=some r)(h:Q (.bool r) s):wpAny (model T.prog T.w) A (compareOp .Eq x y) Q E s:=by
 unfold vt at hr;refine(let C:Prop:=_;(?_:C))
 split at hr
 ·rename_i d e h1 h2;split at hr
  ·rename_i hd;obtain rfl:=ai hr;obtain⟨⟨as,ra⟩,ca⟩:=hx.reads P.pO h1;obtain⟨⟨bs,rb⟩,cb⟩:=hy.reads P.pO h2;exact compareEq_reads ra rb ca cb (by have:=F.units;exact vS (.a (.a .x (.n 700)) (.n 1)) (.n 9900) .y (.n 500) (.a (.a .x .y) (.n 1)) (.n 9900) rfl this hd) h
  ·exact(nS hr).elim
 ·exact(nS hr).elim
set_option tactic.hygienic true in
theorem Tq(F:qi T c env A)(P:pI T D φ c env A st s){x y:ag}{a b:V}{r:aN}(hx:oR T D φ x a)(hy:oR T D φ y b)(hr:vt a b=some r)(h:Q (.bool (!r)) s):wpAny (model T.prog T.w) A (compareOp .NotEq x y) Q E s:=by
 unfold vt at hr;refine(let C:Prop:=_;(?_:C))
 split at hr
 ·rename_i d e h1 h2;split at hr
  ·rename_i hd;obtain rfl:=ai hr;obtain⟨⟨as,ra⟩,ca⟩:=hx.reads P.pO h1;obtain⟨⟨bs,rb⟩,cb⟩:=hy.reads P.pO h2;exact compareNe_reads ra rb ca cb (by have:=F.units;exact vS (.a (.a .x (.n 700)) (.n 1)) (.n 9900) .y (.n 500) (.a (.a .x .y) (.n 1)) (.n 9900) rfl this hd) h
  ·exact(nS hr).elim
 ·exact(nS hr).elim
theorem Md(F:qi T c env A)(P:pI T D φ c env A st s){x y:ag}{a b:V}{r:aN}(hx:oR T D φ x a)(hy:oR T D φ y b)(hr:wy a b st.σ=some r)(h:∀tk,Q (.bool r) {s with toks:=tk})(h':∀tk,Q' (.bool (!r)) {s with toks:=tk}) :
  wpAny (model T.prog T.w) A (compareOp .In x y) Q E s/\wpAny (model T.prog T.w) A (compareOp .NotIn x y) Q' E s:=by
 have hu:=F.units;refine(let C:Prop:=_;(?_:C))
 rcases Mb hr with⟨l,rfl,hr⟩|⟨l,rfl,hr⟩|⟨i,k,cell,rfl,rfl,hk,rfl⟩
 ·refine vp (hy.rN) λad vs n H p u_ rs=>?_;subst H;refine(let C:Prop:=_;(?_:C))
  refine S8 (Ex hr) λd ds h1 h2 hd M=>?_;subst M;obtain⟨⟨as,ra⟩,ca⟩:=hx.reads P.pO h1;refine qA (rs.reads P.pO h2) λY U=>?_;obtain⟨bs,rb⟩:=Y;have rt:Reads s.heap (.ref ad) (.tuple ds) _:=.tuple (P.heap p) rfl rfl rb;have o:A.units+1+min (d3 ds) d.depth<iq:=by exact Pa (.a (.a .x (.n 700)) (.n 1)) (.n 9900) .y (.n 500) .z .y (.a (.a (.a .x (.n 1)) .z) (.n 1)) (.n 9900) rfl hu hd (dC _ _)
  exact⟨in_tuple_reads rt ra U ca o (h _),notIn_tuple_reads rt ra U ca o (h' _)⟩
 ·refine vp (hy.lst_inv) λad vs n H p u_ rs=>?_;subst H;refine S8 (Ex hr) λd ds h1 h2 hd M=>?_;subst M;obtain⟨⟨as,ra⟩,ca⟩:=hx.reads P.pO h1;refine qA (rs.reads P.pO h2) λn8_ U=>?_;obtain⟨bs,rb⟩:=n8_;have rt:Reads s.heap (.ref ad) (.list ds) _:=.list (P.heap p) rfl rfl rb;have o:A.units+1+min (d3 ds) d.depth<iq:=by exact Pa (.a (.a .x (.n 700)) (.n 1)) (.n 9900) .y (.n 500) .z .y (.a (.a (.a .x (.n 1)) .z) (.n 1)) (.n 9900) rfl hu hd (dC _ _)
  exact⟨in_list_reads rt ra U ca o (h _),notIn_list_reads rt ra U ca o (h' _)⟩
 ·refine o8 (hy.xm) λad O p=>?_;subst O;refine o8 (hx.str_inv) λt O u_=>?_;subst O;refine sF (P.link.cells.get i cell hk) λa' Gu q1 q2 q3=>?_;obtain rfl:=ai (p.symm.trans q1)
  have e:(cell.lookup k).isSome=(valueAt Gu k).isSome:=by
   rcases q3.valueAt k with⟨e1,e2⟩|⟨mv,v,e1,e2,-⟩<;>rw[e1,e2]<;>rfl
  rw[e]at h h';have hm:=jU (P.pO _ _ q2);exact⟨wpAny_in_of (iM _ _ k t) (zT F P q2) hm (h _),wpAny_notIn_of (iM _ _ k t) (zT F P q2) hm (h' _)⟩
theorem Ts(F:qi T c env A)(P:pI T D φ c env A st s){x y:ag}{a b:V}{r:aN}(hx:oR T D φ x a)(hy:oR T D φ y b)(hr:JD a b=some r)(h:Q (.bool r) s):wpAny (model T.prog T.w) A (compareOp .Lt x y) Q E s:=by
 refine(let C:Prop:=_;(?_:C))
 rcases Mc hr with⟨i,j,rfl,rfl,rfl⟩|⟨i,j,rfl,rfl,rfl⟩|⟨i,j,rfl,rfl,rfl⟩|⟨i,j,rfl,rfl,rfl⟩|⟨l,m,rfl,rfl,hl⟩
 ·obtain⟨t,rfl⟩:=hx.int_inv;obtain⟨u,rfl⟩:=hy.int_inv;exact lt_int h
 ·obtain⟨t,rfl⟩:=hx.int_inv;obtain rfl:=hy.bool_inv;exact Et h
 ·obtain rfl:=hx.bool_inv;obtain⟨u,rfl⟩:=hy.int_inv;exact Eu h
 ·obtain rfl:=hx.bool_inv;obtain rfl:=hy.bool_inv
  induction i using aJ<;>induction j using aJ<;>exact lt_bool h
 ·refine vp (hx.rN) λa vs n z p u_ r=>?_;subst z;refine vp (hy.rN) λO H U o M u_ Y=>?_;subst o
  exact richCompare_meets_room (op:=.Lt) ⟨_,P.heap p,rfl⟩ ⟨_,P.heap M,rfl⟩ PySem.F.slot_tuple_lt PySem.F.entry_tuple_lt (PySem.F.args_tuple_lt_2 _ _) (Bn a O vs H n U l m r Y _ hl)
   ⟨P.heap p,P.heap M,show ew _≠Value.notImplemented/\Q (.bool _) s from⟨(λx=>nomatch x),h⟩⟩ (by have:=F.units;exact qu (.a (.a .x (.n 700)) (.n 1)) (.n 9900) (.a .x (.n 1)) (.n 9900) rfl this)
theorem zU{x:ag}{a:V}{r:aN}(hx:oR T D φ x a)(hr:isNone a=some r):plainIs x .none=true/\(x==.none)=r:=by
 refine(let C:Prop:=_;(?_:C))
 cases hx<;>first|(cases hr;exact⟨rfl,rfl⟩)|cases hr
theorem Si{op:fv}{a b:V}{σ:af Cell}{r:aN}(ho:op=.Is\/op=.IsNot)(hr:sX op a b σ=some r):b=.none/\∃q,isNone a=some q/\(if op=.Is then q else !q)=r:=by
 refine(ho).elim (λy=>?_) (λz=>?_)
 ·subst y
  induction b using V.casesOn with
  |none=>exact⟨rfl,r,hr,rfl⟩
  |_=>exact(nS hr).elim
 ·subst z
  induction b using V.casesOn with
  |none=>refine o8 (Option.map_eq_some_iff.mp hr) λq e o=>?_;subst o;exact⟨rfl,q,e,rfl⟩
  |_=>exact(nS hr).elim
theorem zV{op:fv}{a b:V}{σ:af Cell}{r:aN}(ho:op=.Gt\/op=.LtE\/op=.GtE)(hr:sX op a b σ=some r):∃i j,a=.int i/\b=.int j:=by
 refine oI (P:=λu_=>∃i j,a=.int i/\b=.int j) r hr ?_;clear hr;rcases ho with rfl|rfl|rfl
 all_goals
  induction a using V.casesOn with
  |int i=>induction b using V.casesOn with
   |int j=>exact⟨i,j,rfl,rfl⟩
   |_=>trivial
  |_=>trivial
theorem vX(F:qi T c env A)(P:pI T D φ c env A st s){op:fv}{x y:ag}{a b:V}{r:aN}(hx:oR T D φ x a)(hy:oR T D φ y b)(hr:sX op a b st.σ=some r)(h:∀tk,Q (.bool r) {s with toks:=tk}) :
  wpAny (model T.prog T.w) A (compareOp op x y) Q E s:=by
 have h0:Q (.bool r) s:=h s.toks;refine(let C:Prop:=_;(?_:C))
 induction op using PySem.CmpOp.casesOn with
 |Eq=>exact Tp F P hx hy hr h0
 |NotEq =>
  obtain⟨q,e,rfl⟩:=Option.map_eq_some_iff.mp hr;exact Tq F P hx hy e h0
 |Is =>
  obtain⟨rfl,q,e,rfl⟩:=Si (.inl rfl) hr;obtain rfl:=hy.none_inv;obtain⟨e1,rfl⟩:=zU hx e;exact wpAny_is_plain e1 h0
 |IsNot =>
  obtain⟨rfl,q,e,rfl⟩:=Si (.inr rfl) hr;obtain rfl:=hy.none_inv;obtain⟨e1,rfl⟩:=zU hx e;exact wpAny_isNot_plain e1 h0
 |Lt=>exact Ts F P hx hy hr h0
 |In=>exact(Md (Q':=λu_ u_=>fh) F P hx hy hr h λu_=>trivial).1
 |NotIn =>
  obtain⟨q,e,rfl⟩:=Option.map_eq_some_iff.mp hr;exact(Md (Q:=λu_ u_=>fh) F P hx hy e (λu_=>trivial) h).2
 |Gt =>
  obtain⟨i,j,rfl,rfl⟩:=zV (.inl rfl) hr;obtain⟨t,rfl⟩:=hx.int_inv;obtain⟨u,rfl⟩:=hy.int_inv;obtain rfl:=ai hr;exact gt_int h0
 |LtE =>
  obtain⟨i,j,rfl,rfl⟩:=zV (.inr (.inl rfl)) hr;obtain⟨t,rfl⟩:=hx.int_inv;obtain⟨u,rfl⟩:=hy.int_inv;obtain rfl:=ai hr;exact le_int h0
 |GtE =>
  obtain⟨i,j,rfl,rfl⟩:=zV (.inr (.inr rfl)) hr;obtain⟨t,rfl⟩:=hx.int_inv;obtain⟨u,rfl⟩:=hy.int_inv;obtain rfl:=ai hr;exact ge_int h0
end
theorem Me{o:Type}(n:Nat):wd ([]:af o) n=[]:=by induction n with|zero=>rfl|succ n ih=>exact ih
theorem Ey{o:Type}(l:af o)(n:Nat):(wd l n).length=n*l.length:=by induction n with|zero=>exact(bF _).symm|succ n ih=>exact(av ..).trans (rg (ih ..) (rg (Nat.succ_mul ..) (rg (kx ..) rfl)))
theorem JQ{y:Type}(o:af (bx y))(a:bx y):(jv (λz C=>z++C) a o).toList=a.toList++(o.map Array.toList).flatten:=by
 induction o generalizing a with
 |nil=>simp
 |cons x r ih=>simp[ih,a8]
theorem Py{o:Type}(items:bx o)(n:Nat):(jv (λy z=>y++z) #[] (js (if items.isEmpty=true then 0 else n) items)).toList=wd items.toList n:=by
 simp only[JQ];by_cases h:items.isEmpty=true
 ·refine rg (aO h) ?_;have:items.toList=[]:=by simpa using h
  simp only[this,Me];simp
 ·refine rg (aT h) ?_;simp only[eY]
  induction n with
  |zero=>rfl
  |succ n ih=>refine rg (show wd items.toList (n+1)=items.toList++wd items.toList n from rfl) ?_;refine rl (ih ..) ?_;simp[List.replicate_succ]
section
variable{T:pg}{D D':oN}{φ ph:af ay}{c:MC}{env:Env}{A:aX}{st tm:St}{s s':ah}{Q:ag->ah->Prop}{E:ag->ah->Prop}
theorem oK.rep{mvs:af ag}{vs:af V}(x:oK T D φ mvs vs)(n:Nat):oK T D φ (wd mvs n) (wd vs n):=by
 induction n with
 |zero=>exact .nil
 |succ n ih=>exact x.append ih
theorem r0{i:Int}:small i=true↔-(2^29)<=i/\i<=2^29:=by unfold small;simp
theorem Wl{a b:Int}(h:small a=true):IntMulOk a b:=by
 have:=r0.mp h;refine IntMulOk.of_left ?_;exact intBits_le_64 (by exact vf (.g 536870911) .x (.a (.g 18446744073709551615) (.n 1)) .x rfl this.1) (by exact vf .x (.n 536870912) (.a .x (.n 1)) (.n 18446744073709551616) rfl this.2)
theorem JR(P:pI T D φ c env A st s){op:fu}{i j:Int}{t u:Tok}(y:op≠.Add)(o:op≠.Mult)(k:K T D φ c env (VR T) (intOp op i j st) Q E):wpAny (model T.prog T.w) A (binaryOp op (.int i t) (.int j u)) Q E s:=by
 unfold intOp at k
 induction op using fk with
 |Sub=>exact om (k.ok P.toks (.int _ _))
 |FloorDiv =>
  dsimp only at k;split at k
  ·rename_i h;refine(let C:Prop:=_;(?_:C))
   have h2:=r0.mp h.2.2;exact floordiv_int h.1 (k.ok P.toks (.int _ _)) (.inl (PyProof.noPylong_small (cI (VY (n:=536870912) h2.1 h2.2) (by decide))))
  ·exact k.oH.elim
 |Mod =>
  dsimp only at k;split at k
  ·exact k.oH.elim
  ·rename_i h;exact mod_int' h (k.ok P.toks (.int _ _))
 |Pow =>
  dsimp only at k;split at k
  ·rename_i h;obtain⟨rfl,rfl⟩:=h;exact pow_int_small (by decide) (by decide) (by decide) (k.ok P.toks (.int _ _))
  ·exact k.oH.elim
 |Add=>exact(y rfl).elim
 |Mult=>exact(o rfl).elim
 |_=>exact k.oH.elim
theorem qa{n:Nat}(h:n<=qf):n<=dH:=by rw[ik];unfold qf at h;exact qu .x (.n 1000000) .x (.n 16777216) rfl h
theorem B3(P:pI T D φ c env A st s){vs:bx ag}{l:af V}{tk:Tok}(r:oK T D φ vs.toList l)(hz:l.length<=qf)(k:K T D φ c env (VR T) (.ok (.tup l) st) Q E) :
  Q (.ref s.heap.objs.size) {s with heap:=s.heap.push {cls:=.type "tuple", data:=.seq vs},toks:=tk} :=
 k.ok (P.new _) (.tup (oN.oV ..) (by have:=r.length;simp at this;exact vS .x (.n 1000000) .y .x .y (.n 1000000) rfl hz (ak this)) (r.mono (P.new _ (tk:=tk)).le (ao _)))
theorem ym(P:pI T D φ c env A st s){vs:bx ag}{l:af V}{tk:Tok}(r:oK T D φ vs.toList l)(hz:l.length<=qf)(k:K T D φ c env (VR T) (.ok (.lst l) st) Q E) :
  Q (.ref s.heap.objs.size) {s with heap:=s.heap.push {cls:=.type "list", data:=.seq vs},toks:=tk} :=
 k.ok (P.new _) (.lst (oN.oV ..) (by have:=r.length;simp at this;exact vS .x (.n 1000000) .y .x .y (.n 1000000) rfl hz (ak this)) (r.mono (P.new _ (tk:=tk)).le (ao _)))
theorem JS{a b:V}(h:Ee a b st≠.stuck):(∃i j,a=.int i/\b=.int j)\/(∃l m,a=.tup l/\b=.tup m)\/∃l m,a=.lst l/\b=.lst m:=by
 refine rI h ?_;clear h
 induction a using V.casesOn with
 |int i=>induction b using V.casesOn with
  |int j=>exact rP (.inl ⟨i,j,rfl,rfl⟩)
  |_=>trivial
 |tup l=>induction b using V.casesOn with
  |tup m=>exact rP (.inr (.inl ⟨l,m,rfl,rfl⟩))
  |_=>trivial
 |lst l=>induction b using V.casesOn with
  |lst m=>exact rP (.inr (.inr ⟨l,m,rfl,rfl⟩))
  |_=>trivial
 |_=>trivial
theorem JT{a b:V}(h:Ef a b st≠.stuck):(∃i j,a=.int i/\b=.int j)\/∃l j,a=.lst l/\b=.int j:=by
 refine rI h ?_;clear h
 induction a using V.casesOn with
 |int i=>induction b using V.casesOn with
  |int j=>exact rP (.inl ⟨i,j,rfl,rfl⟩)
  |_=>trivial
 |lst l=>induction b using V.casesOn with
  |int j=>exact rP (.inr ⟨l,j,rfl,rfl⟩)
  |_=>trivial
 |_=>trivial
theorem K.ite{y z:Type}{o:oN->af ay->z->y->Prop}{p:Prop}[fR p]{r:R y}{Q:z->ah->Prop}{E:ag->ah->Prop}(k:K T D φ c env o (if p then r else .stuck) Q E):p/\K T D φ c env o r Q E:=by
 by_cases h:p
 ·rw[aO h]at k;exact⟨h,k⟩
 ·rw[aT h]at k;exact k.oH.elim
theorem Pz(P:pI T D φ c env A st s){x y:ag}{a b:V}(hx:oR T D φ x a)(hy:oR T D φ y b)(k:K T D φ c env (VR T) (Ee a b st) Q E):wpAny (model T.prog T.w) A (binaryOp .Add x y) Q E s:=by
 refine(let C:Prop:=_;(?_:C))
 rcases JS k.1 with⟨i,j,rfl,rfl⟩|⟨l,l',rfl,rfl⟩|⟨l,l',rfl,rfl⟩
 ·obtain⟨t,rfl⟩:=hx.int_inv;obtain⟨u,rfl⟩:=hy.int_inv;exact ou (k.ok P.toks (.int _ _))
 ·obtain⟨a,vs,n,rfl,p,q,r⟩:=hx.rN;obtain⟨H,To,n',rfl,p',q',r'⟩:=hy.rN;obtain⟨hz,k⟩:=K.ite (p:=(l++l').length<=qf) k;have hl:=r.length;have o:=r'.length;rw[av]at hz;refine(let C:Prop:=_;(?_:C))
  by_cases h1:vs.isEmpty=true
  ·refine(let C:Prop:=_;(?_:C))
   have h0:vs.toList=[]:=by simpa using h1
   rw[h0]at r;obtain rfl:=r.nil_inv
   exact concat_meets ⟨_,P.heap p,rfl⟩ ⟨_,P.heap p',rfl⟩ nR seq_tuple_add jB jo (jg _ _) (AutoSeq1.tuple___add___tuple_tuple_0 _ _ _ _ _ _ h1)
    ⟨P.heap p,P.heap p',k.ok P.toks (.tup p' q' r')⟩
  ·by_cases h2:To.isEmpty=true
   ·have h0:To.toList=[]:=by simpa using h2
    rw[h0]at r';obtain rfl:=r'.nil_inv;rw[aY]at k
    exact concat_meets ⟨_,P.heap p,rfl⟩ ⟨_,P.heap p',rfl⟩ nR seq_tuple_add jB jo (jg _ _) (AutoSeq1.tuple___add___tuple_tuple_1 _ _ _ _ _ _ h1 h2)
     ⟨P.heap p,P.heap p',k.ok P.toks (.tup p q r)⟩
   ·exact PySem.P.add_tuple (P.heap p) (P.heap p') h1 h2 (B3 P (by rw[gX];exact r.append r') (by rw[av];exact pZ (.a .x .y) (.n 1000000) (.a .x .y) (.n 1000000) rfl hz) k) (qa (by exact CJ (.a .x .y) (.n 1000000) .z .x .w .y (.a .z .w) (.n 1000000) rfl hz (ak hl) (ak o)))
 ·obtain⟨a,vs,n,rfl,p,q,r⟩:=hx.lst_inv;obtain⟨H,To,n',rfl,p',q',r'⟩:=hy.lst_inv;obtain⟨hz,k⟩:=K.ite (p:=(l++l').length<=qf) k;have hl:=r.length;have o:=r'.length;rw[av]at hz;refine(let C:Prop:=_;(?_:C))
  rw[aM]at hl o;exact PySem.P.add_list (P.heap p) (P.heap p') (ym P (by rw[gX];exact r.append r') (by rw[av];exact pZ (.a .x .y) (.n 1000000) (.a .x .y) (.n 1000000) rfl hz) k) (qa (by exact CJ (.a .x .y) (.n 1000000) .z .x .w .y (.a .z .w) (.n 1000000) rfl hz (ak hl) (ak o)))
theorem PC(P:pI T D φ c env A st s){x y:ag}{a b:V}(hx:oR T D φ x a)(hy:oR T D φ y b)(k:K T D φ c env (VR T) (Ef a b st) Q E):wpAny (model T.prog T.w) A (binaryOp .Mult x y) Q E s:=by
 refine(let C:Prop:=_;(?_:C))
 refine(JT k.1).elim (λz=>?_) (λH=>?_)
 ·obtain⟨i,j,rfl,rfl⟩:=z;obtain⟨t,rfl⟩:=hx.int_inv;obtain⟨u,rfl⟩:=hy.int_inv;obtain⟨h,k⟩:=K.ite k;simp only[aw]at h;exact oo (k.ok P.toks (.int _ _)) (Wl h.1)
 ·obtain⟨l,j,rfl,rfl⟩:=H;refine vp (hx.lst_inv) λa vs n o p q r=>?_;subst o;obtain⟨u,rfl⟩:=hy.int_inv;obtain⟨h,k⟩:=K.ite k;have hl:=r.length;simp only[aM]at hl;have hm:vs.size*j.toNat<=800:=aB (Nat.mul_le_mul (by exact vS .x (.n 100) .y .x .y (.n 100) rfl h.2.2 (ak hl):vs.size<=100) (Int.toNat_le.2 h.2.1:j.toNat<=8)) (by decide)
  refine wpAny_binaryOp_repeat_ref (T:="list") (U:="int") (rfl) ⟨_,P.heap p,rfl⟩ (λs'=>j9 s' j u) noFill_list_mul PySem.F.fills_int_mul jN repeat_list PySem.F.slot_int_index.lookup
   (kj jN (j9 s j u) PySem.F.entry_int_rmul (PySem.F.args_int_rmul_2 _ _) (int___rmul___int_list j u a vs n)
    ⟨P.heap p,rfl,⟨_,P.heap p,rfl⟩,kj PySem.F.slot_list_mul ⟨_,P.heap p,rfl⟩ PySem.F.entry_list_mul (PySem.F.args_list_mul_2 _ _)
     (AutoListH.list___mul___list_int_3 a vs n j u (by simp[oF];exact⟨(vf (.n 0) .x (.g 9223372036854775807) .x rfl h.1),(vf .x (.n 8) (.a .x (.n 1)) (.n 9223372036854775808) rfl h.2.1)⟩) (Nat.not_lt.2 (aB hm (by decide))) (by simp[oB,dH];exact qu .x (.n 800) .x (.n 16777216) rfl hm))
     ⟨P.heap p,?_⟩⟩)
  refine ym P (l:=wd l j.toNat) ?_ ?_ k
  ·exact rg (Py ..) (r.rep _)
  ·refine rg (Ey ..) ?_;refine rl (hl ..) ?_;refine rg (kq ..) ?_;unfold qf;exact qu .x (.n 800) .x (.n 1000000) rfl hm
noncomputable def Iu(op:fu)(a b:V)(s:St):R V:=match a,b with
 |.int a,.int b=>intOp op a b s
 |_,_=>.stuck
theorem GS{op:fu}{a b:V}(h1:op≠.Add)(h2:op≠.Mult):sy op a b st=Iu op a b st:=by
 cases op<;>first|exact absurd rfl h1|exact absurd rfl h2|rfl
theorem Ez{op:fu}{a b:V}(h:Iu op a b st≠.stuck):∃i j,a=.int i/\b=.int j:=by
 refine rI h ?_;clear h
 induction a using V.casesOn with
 |int i=>induction b using V.casesOn with
  |int j=>exact rP ⟨i,j,rfl,rfl⟩
  |_=>trivial
 |_=>trivial
theorem GU{v:V}{b:aN}(h:truthy v=some b):v=.bool b:=by
 revert b;refine @(oA ?_)
 induction v using V.casesOn with
 |bool c=>rfl
 |_=>trivial
theorem Mf{v:V}(h:Lw .USub v st≠.stuck):∃i,v=.int i:=by
 refine rI h ?_;clear h
 induction v using V.casesOn with
 |int i=>exact⟨i,rfl⟩
 |_=>trivial
theorem JU(P:pI T D φ c env A st s){op:fu}{x y:ag}{a b:V}(hx:oR T D φ x a)(hy:oR T D φ y b)(k:K T D φ c env (VR T) (sy op a b st) Q E):wpAny (model T.prog T.w) A (binaryOp op x y) Q E s:=by
 by_cases h1:op=.Add
 ·subst h1;exact Pz P hx hy k
 by_cases h2:op=.Mult
 ·subst h2;exact PC P hx hy k
 replace k:=(GS h1 h2)▸k;refine tW (Ez k.1) λi j o z=>?_;subst o;subst z;obtain⟨t,rfl⟩:=hx.int_inv;obtain⟨u,rfl⟩:=hy.int_inv;exact JR P h1 h2 k
theorem JV{l r:aI}{op:fu}{pos:Pos}(hl:SimT T c env A (eval l env) (λs=>oO c l s))(hr:SimT T c env A (eval r env) (λs=>oO c r s)) :
  SimT T c env A (eval (.BinOp l op r pos) env) (λs=>oO c (.BinOp l op r pos) s):=λD φ st s Q E P k=>by
 dsimp only at k;refine wpAny_BinOp (hl _ _ _ _ _ _ P (K.bind k λv o mv U Y y e1 g1 z k1=>?_));refine hr _ _ _ _ _ _ (P.good g1) (K.bind k1 λv2 C H s2 D2 M e2 g2 O k2=>?_);exact JU ((P.good g1).good g2) (oR.mono z g2.le g2.pre) O k2
theorem uQ(P:pI T D φ c env A st s){x:ag}{v:V}{b:aN}(hx:oR T D φ x v)(h:truthy v=some b){Q:aN->ah->Prop}(q:Q b s):wpAny (model T.prog T.w) A (jW x) Q E s:=by
 obtain rfl:=GU h;obtain rfl:=hx.bool_inv;exact dU q
theorem EN{x:aI}{op:nu}{pos:Pos}(hx:SimT T c env A (eval x env) (λs=>oO c x s)):SimT T c env A (eval (.UnaryOp op x pos) env) (λs=>oO c (.UnaryOp op x pos) s):=λD φ st s Q E P k=>by
 dsimp only at k;refine UnaryOp_ (hx _ _ _ _ _ _ P (K.bind k λv y mv C H z e1 g1 o k1=>?_))
 induction op using fG with
 |Not =>
  refine o8 (k1.opt) λa e k2=>?_;rw[c9]at e;obtain⟨b,e,rfl⟩:=e;exact not_of (uQ (P.good g1) o e (k2.ok (P.good g1).here (.bool _)))
 |USub =>
  obtain⟨i,rfl⟩:=Mf k1.1;obtain⟨t,rfl⟩:=o.int_inv;exact iX (k1.ok (P.good g1).toks (.int _ _))
 |_=>exact k1.oH.elim
theorem Bo{e:aI}{o:Sem ag}{f:St->R V}(hw:SimT T c env A o f)(y:isTrue e env o=(do let v <- o;gQ e.pos;fJ [v] (jW v))) :
  B0 T c env A (isTrue e env o) (λs=>tu (f s)):=λD φ st s Q E P k=>by
 dsimp only[tu]at k;refine isTrue_plain (hw _ _ _ _ _ _ P (K.bind k λv z mv M O C e1 g1 H k1=>?_)) y;refine o8 (k1.opt) λb e k2=>?_;exact uQ (P.good g1) H e (k2.ok (P.good g1).here rfl)
theorem JW{t a b:aI}{pos:Pos}(ht:B0 T c env A (isTrue t env (eval t env)) (λs=>s9 c t (λs=>oO c t s) s))(ha:SimT T c env A (eval a env) (λs=>oO c a s))(hb:SimT T c env A (eval b env) (λs=>oO c b s)) :
  SimT T c env A (eval (.IfExp t a b pos) env) (λs=>oO c (.IfExp t a b pos) s):=λD φ st s Q E P k=>by
 dsimp only at k;refine IfExp_ (ht _ _ _ _ _ _ P (K.bind k λv o mv C H y e1 g1 z k1=>?_));subst z
 induction mv using aJ with
 |true=>exact ha _ _ _ _ _ _ (P.good g1) k1
 |false=>exact hb _ _ _ _ _ _ (P.good g1) k1
set_option tactic.hygienic true in
theorem GV{op:BoolOp}{es:af aI}{pos:Pos}(h:∀e∈es,SimT T c env A (eval e env) (λs=>oO c e s)):SimT T c env A (eval (.BoolOp op es pos) env) (λs=>oO c (.BoolOp op es pos) s):=λD φ st s Q E P k=>by
 dsimp only at k;simp only[Ly]at k
 induction es generalizing D φ st s with
 |nil=>exact k.oH.elim
 |cons e r ih =>
  have z:=h e az;cases r with
  |nil=>exact BoolOp_one (z _ _ _ _ _ _ P k)
  |cons e2 U =>
   have o:=ih λx hx=>h x (aA _ hx)
   induction op using iW with
   |And =>
    refine BoolOp_and (z _ _ _ _ _ _ P (K.bind k λv C mv M O H e1 g1 y k1=>?_));split at k1
    ·rename_i b hb;refine uQ (P.good g1) y hb ?_;cases b with
     |true=>exact o _ _ _ _ (P.good g1) (rg (rY ..) k1)
     |false=>exact k1.ok (P.good g1).here y
    ·exact k1.oH.elim
   |Or =>
    refine BoolOp_or (z _ _ _ _ _ _ P (K.bind k λv C mv M O H e1 g1 y k1=>?_));split at k1
    ·rename_i b hb;refine uQ (P.good g1) y hb ?_;cases b with
     |false=>exact o _ _ _ _ (P.good g1) (rg (rY ..) k1)
     |true=>exact k1.ok (P.good g1).here y
    ·exact k1.oH.elim
theorem zW{es:af aI}(h:∀e∈es,SimT T c env A (eval e env) (λs=>oO c e s)):∀z,Each (SimT T c env A) (markedEach z es (evalEach es env)) (pk c es):=by
 induction es with
 |nil=>intro z;rcases z with _|⟨o,_|⟨O,z⟩⟩<;>exact .nil
 |cons e r ih =>
  have H:=h e az;have C:=ih λx hx=>h x (aA _ hx)
  have yl:∀r:af aI,(∀e∈r,SimT T c env A (eval e env) (λs=>oO c e s))->Each (SimT T c env A) (evalEach r env) (pk c r):=λr=>by
   induction r with
   |nil=>intro _;exact .nil
   |cons x r M=>intro hx;exact .cons (hx x az) (M λy hy=>hx y (aA _ hy))
  intro z;rcases z with _|⟨o,z⟩
  ·exact .cons H (yl r λx hx=>h x (aA _ hx))
  ·rcases z with _|⟨O,z⟩
   ·cases r with
    |nil =>
     refine .cons ?_ .nil
     induction e using aQ with
     |Set es n p =>
      refineλD φ st s Q E P k=>?_
      exact k.oH.elim
     |_=>exact H
    |cons e2 U=>exact .cons H (C [])
   ·exact .cons H (C (O::z))
end
theorem Tt(a:V)(op:fv)(r:St->R V)(s:St):q8 a [op] [r] s=(r s).bind λv s=>R.opt ((sX op a v s.σ).map .bool) s:=rfl
theorem Tu(a:V)(op R8:fv)(o:af fv)(r y:St->R V)(rs:af (St->R V))(s:St):q8 a (op::R8::o) (r::y::rs) s=(r s).bind λv s=>match sX op a v s.σ with
  |some true=>q8 v (R8::o) (y::rs) s
  |some false=>.ok (.bool false) s
  |none=>.stuck:=rfl
theorem uR{o:aI}(h:sG o=true)(a:Str)(env:Env)(w:Sem ag):attributeBase o a env w=w:=by
 cases o with
 |Call f as y p =>
  induction as using bN with
  |nil =>
   induction y using bN with
   |nil=>exact dA h
   |cons _ _=>induction f using aQ<;>rfl
  |cons _ _=>induction f using aQ<;>rfl
 |_=>rfl
section
variable{T:pg}{D D':oN}{φ ph:af ay}{c:MC}{env:Env}{A:aX}{st tm:St}{s s':ah}{Q:ag->ah->Prop}{E:ag->ah->Prop}
theorem oK.at{mvs:af ag}{vs:af V}(x:oK T D φ mvs vs){i:Nat}{v:V}(h:vs[i]?=some v):∃mv,mvs[i]?=some mv/\oR T D φ mv v:=by
 induction vs generalizing mvs i with
 |nil=>simp at h
 |cons a r ih =>
  cases x with
  |@cons m o _ _ p q =>
   induction i using i0 with
   |zero=>simp at h;subst h;exact o5 m rfl p
   |succ i=>exact ih q h
theorem oK.drop{mvs:af ag}{vs:af V}(x:oK T D φ mvs vs)(n:Nat):oK T D φ (mvs.drop n) (vs.drop n):=by
 induction vs generalizing mvs n with
 |nil=>cases x;simp;exact .nil
 |cons a r ih =>
  cases x with
  |cons p q=>induction n using i0 with
   |zero=>exact .cons p q
   |succ n=>exact ih q n
theorem oK.take{mvs:af ag}{vs:af V}(x:oK T D φ mvs vs)(n:Nat):oK T D φ (mvs.take n) (vs.take n):=by
 induction vs generalizing mvs n with
 |nil=>cases x;simp;exact .nil
 |cons a r ih =>
  cases x with
  |cons p q=>induction n using i0 with
   |zero=>exact .nil
   |succ n=>exact .cons p (ih q n)
noncomputable def isB(v:ag):aN:=match v with
 |.builtin _=>true
 |_=>false
theorem oR.uz{mv:ag}{v:V}(x:oR T D φ mv v):∀i,mv≠.builtin i:=by
 intro i e;have h:isB mv=false:=by cases x<;>rfl
 subst e;exact(cj h.symm).elim
theorem JX(F:qi T c env A){pos:Pos}{H:af (Sem ag)}{fs:af (St->R V)}(S:Each (SimT T c env A) H fs):∀(y:af fv){x:ag} {a:V} {D φ st s} {Q E:ag->ah->Prop},pI T D φ c env A st s->oR T D φ x a ->
  K T D φ c env (VR T) (q8 a y fs st) Q E->wpAny (model T.prog T.w) A (compareChain pos x y H) Q E s:=by
 induction S with
 |nil=>intro y x a D φ st s Q E P hx k;rcases y with _|⟨o,_|⟨U,y⟩⟩<;>exact k.oH.elim
 |@cons t f H fs h Y ih =>
  intro y x a D φ st s Q E P hx k;rcases y with _|⟨o,_|⟨U,y⟩⟩
  ·exact k.oH.elim
  ·refine(let C:Prop:=_;(?_:C))
   cases Y with
   |nil =>
    refine chain_last (h _ _ _ _ _ _ P (K.bind k λv M mv s1 D1 O e1 g1 z k1=>?_));refine(let C:Prop:=_;(?_:C))
    refine o8 (k1.opt) λb e k2=>?_;rw[c9]at e;obtain⟨b,e,rfl⟩:=e;exact vX F (P.good g1) (hx.mono g1.le g1.pre) z e λtk=>k2.ok (P.good g1).toks (.bool _)
   |cons=>exact k.oH.elim
  ·cases Y with
   |nil=>exact k.oH.elim
   |@cons t2 f2 H fs h2 S2 =>
    refine chain_link (h _ _ _ _ _ _ P (K.bind k λv M mv s1 D1 O e1 g1 z k1=>?_));refine(let C:Prop:=_;(?_:C))
    have Sj:=hx.mono g1.le g1.pre;split at k1
    ·rename_i e;exact vX F (P.good g1) Sj z e λtk=>dU (ih (U::y) ((P.good g1).good (P.good g1).toks) z k1)
    ·rename_i e;exact vX F (P.good g1) Sj z e λtk=>dU (k1.ok (P.good g1).toks (.bool _))
    ·exact k1.oH.elim
theorem vC{o:Type}(r:R o)(f:o->St->R V):tu (r.bind f)=r.bind λa s=>tu (f a s):=by induction r using R.casesOn<;>rfl
theorem Bp(F:qi T c env A){pos:Pos}{M:af (Sem ag)}{fs:af (St->R V)}(S:Each (SimT T c env A) M fs):∀(y:af fv){x:ag} {a:V} {D φ st s} {Q:aN->ah->Prop} {E:ag->ah->Prop},pI T D φ c env A st s->oR T D φ x a ->
  K T D φ c env (λu_ u_ b a=>b=a) (tu (q8 a y fs st)) Q E->wpAny (model T.prog T.w) A (testChain pos x y M) Q E s:=by
 induction S with
 |nil=>intro y x a D φ st s Q E P hx k;rcases y with _|⟨o,_|⟨Y,y⟩⟩<;>exact k.oH.elim
 |@cons t f M fs h S' ih =>
  intro y x a D φ st s Q E P hx k;rcases y with _|⟨o,_|⟨Y,y⟩⟩
  ·exact k.oH.elim
  ·refine(let C:Prop:=_;(?_:C))
   cases S' with
   |nil =>
    simp only[Tt,vC]at k;refine test_last (h _ _ _ _ _ _ P (K.bind k λv z mv s1 D1 O e1 g1 H k1=>?_));refine(let C:Prop:=_;(?_:C))
    cases e:sX o a v z.σ with
    |none=>replace k1:=(e)▸k1;exact k1.oH.elim
    |some b =>
     replace k1:=(e)▸k1;refine(let U:_->ah->Prop:=_;(?_:wpAny _ _ _ U _ _))
     exact vX F (P.good g1) (hx.mono g1.le g1.pre) H e λtk=>dU (k1.ok (P.good g1).toks rfl)
   |cons=>exact k.oH.elim
  ·cases S' with
   |nil=>exact k.oH.elim
   |@cons t2 f2 M fs h2 S2 =>
    simp only[Tu,vC]at k;refine test_link (h _ _ _ _ _ _ P (K.bind k λv z mv s1 D1 O e1 g1 H k1=>?_));have Sj:=hx.mono g1.le g1.pre;refine(let C:Prop:=_;(?_:C))
    split at k1
    ·rename_i e;exact vX F (P.good g1) Sj H e λtk=>dU (ih (Y::y) ((P.good g1).good (P.good g1).toks) H k1)
    ·rename_i e;exact vX F (P.good g1) Sj H e λtk=>dU (k1.ok (P.good g1).toks rfl)
    ·exact k1.oH.elim
theorem EO(F:qi T c env A){l:aI}{o:af fv}{cs:af aI}{pos:Pos}(hl:SimT T c env A (eval l env) (λs=>oO c l s))(h:∀e∈cs,SimT T c env A (eval e env) (λs=>oO c e s)) :
  SimT T c env A (eval (.Compare l o cs pos) env) (λs=>oO c (.Compare l o cs pos) s):=λD φ st s Q E P k=>by
 refine ae (hl _ _ _ _ _ _ P (K.bind k λv y mv H M z e1 g1 C k1=>?_));exact JX F (zW h o) o (P.good g1) C k1
theorem CR(F:qi T c env A){l:aI}{o:af fv}{cs:af aI}{pos:Pos}(hl:SimT T c env A (eval l env) (λs=>oO c l s))(h:∀e∈cs,SimT T c env A (eval e env) (λs=>oO c e s))(y:Sem ag) :
  B0 T c env A (isTrue (.Compare l o cs pos) env y) (λs=>tu (oO c (.Compare l o cs pos) s)):=λD φ st s Q E P k=>by
 dsimp only at k;simp only[JE,vC]at k;refine ae (hl _ _ _ _ _ _ P (K.bind k λv z mv M O C e1 g1 H k1=>?_));exact Bp F (zW h o) o (P.good g1) H k1
theorem EP{l:af V}{k:Int}{v:V}(h:itemAt l k=some v){n:Nat}(hn:n=l.length):∃j,nK k n=some j/\l[j]?=some v/\-(n:Int)<=k/\k<n:=by
 subst hn;unfold itemAt at h;unfold nK;refine(let C:Prop:=_;(?_:C))
 split at h
 ·rename_i h0;have ug:=(List.getElem?_eq_some_iff.mp h).1;refine⟨k.toNat,?_,h,bO (Int.neg_nonpos_of_nonneg (bq _)) h0,(kC h0).1 ug⟩;simp only[aT (show ¬k<0 by exact dt.2 h0)]
  exact rg (aO (by simp;exact⟨h0,(kC h0).1 ug⟩)) rfl
 ·split at h
  ·rename_i h0 h1;refine⟨_,?_,h,by assumption,by exact R5 (.a .x (.n 1)) (.n 0) (.n 0) .y (.a .x (.n 1)) .y rfl (iU h0) (bq _)⟩
   simp only[aO (show k<0 by exact iU h0)]
   exact rg (aO (gP.2 ⟨b5 (Int.sub_neg ..▸kX h1),b5 (lR (Int.add_lt_add_right (Int.not_le.1 h0) _) (Int.le_of_eq (b8 _)))⟩)) rfl
  ·exact(nS h).elim
theorem Mg{n:Nat}{k:Int}(hz:n<=1000000)(h1:-(n:Int)<=k):-2^63<=k:=bO (bO (by decide:(-2^63:Int)<=-(1000000:Nat)) (m8 (b9.2 hz))) h1
theorem B4{a:ay}{mvs:af ag}{l:af V}{k:Int}{u:Tok}{v:V}(hl:s.heap.PlainList a mvs.toArray)(hz:mvs.length<=qf)(r:oK T D φ mvs l)(h:itemAt l k=some v)(o:∀mv,oR T D φ mv v->Q mv s):wpAny (model T.prog T.w) A (getItem (.ref a) (.int k u)) Q E s:=by
 unfold qf at hz;have pd:=r.length;unfold itemAt at h;refine(let C:Prop:=_;(?_:C))
 split at h
 ·rename_i h0;have ug:=(List.getElem?_eq_some_iff.mp h).1;refine o8 (r.at h) λmv e hr=>?_;exact wpAny_getItem_list hl.isList h0 (lR (lS (Int.self_le_toNat k) (eo.2 ug)) (bO (b9.2 (pd▸hz:l.length<=1000000)) (by decide))) (by simpa using e) (o _ hr)
 ·split at h
  ·rename_i h0 h1;refine o8 (r.at h) λmv e hr=>?_;rw[<-pd]at e;exact wpAny_getItem_list_neg hl.isList (by exact iU h0) (by simp;exact pd.symm▸h1) (Mg (pd▸hz) h1) (by simpa using e) (o _ hr)
  ·exact(nS h).elim
theorem B5{i:aI}(hi:ue i=none)(hn:∀a b d p,i≠.Slice a b d p)(o x:ag):jK i false o x=nh [o,x] (getItem o x):=by
 induction i using aQ<;>first|rfl|exact absurd rfl (hn _ _ _ _)
theorem GW{a b:V}(h:pW a b st≠.stuck):(∃l j,a=.tup l/\b=.int j)\/(∃l j,a=.lst l/\b=.int j)\/∃n x,a=.ptr n/\b=.str x:=by
 refine rI h ?_;clear h
 induction a using V.casesOn with
 |tup l=>induction b using V.casesOn with
  |int j=>exact rP (.inl ⟨l,j,rfl,rfl⟩)
  |_=>trivial
 |lst l=>induction b using V.casesOn with
  |int j=>exact rP (.inr (.inl ⟨l,j,rfl,rfl⟩))
  |_=>trivial
 |ptr n=>induction b using V.casesOn with
  |str x=>exact rP (.inr (.inr ⟨n,x,rfl,rfl⟩))
  |_=>trivial
 |_=>trivial
theorem Mh (P:pI T D φ c env A st s) {value z:aI} {o i:ag} {l:af V} {j:Int} (hs:jK z false o i=nh [o,i] (getItem o i)) (ho:oR T D φ o (.tup l)) (hi:oR T D φ i (.int j))
  (k:K T D φ c env (VR T) (R.opt (itemAt l j) st) Q E):wpAny (model T.prog T.w) A (subscriptTail value z o i) Q E s:=by
 refine vp ho.rN λad vs n e p q r=>?_;subst e;refine p8 hi.int_inv λu e=>?_;subst e;refine(let C:Prop:=_;(?_:C))
 refine o8 k.opt λv e k1=>?_;have pd:=Array.length_toList.symm.trans r.length;unfold qf at q;refine JB (EP e pd) λM h1 h2 H h4=>?_;refine o8 (r.at h2) λmv e2 hr=>?_;exact ja (T:="tuple") (o5 _ (P.heap p) rfl) slot_tuple_getitem.lookup (PySem.P.getItem_tuple (P.heap p) (Mg q H) (by exact R5 (.a .x (.n 1)) .y .y (.n 1000000) (.a .x (.n 1)) (.n 9223372036854775808) rfl h4 (b9.2 q)) h1 (cD▸e2) (k1.ok P.here hr)) hs
theorem Mi (P:pI T D φ c env A st s) {value y:aI} {o i:ag} {n:Nat} {x:Str} (hs:jK y false o i=nh [o,i] (getItem o i)) (ho:oR T D φ o (.ptr n)) (hi:oR T D φ i (.str x))
  (k:K T D φ c env (VR T) (match st.σ[n]? with|some c=>R.opt (c.lookup x) st|none=>.stuck) Q E):wpAny (model T.prog T.w) A (subscriptTail value y o i) Q E s:=by
 refine o8 ho.xm λad e p=>?_;subst e;refine(let C:Prop:=_;(?_:C))
 refine o8 hi.str_inv λt e u_=>?_;subst e;refine(let C:Prop:=_;(?_:C))
 cases hk:st.σ[n]? with
 |none=>replace k:=(hk)▸k;exact k.oH.elim
 |some cell =>
  replace k:=(hk)▸k;refine o8 k.opt λv e k1=>?_;refine(let C:Prop:=_;(?_:C))
  refine sF (P.link.cells.get n cell hk) λU z H M O=>?_;refine(let C:Prop:=_;(?_:C))
  obtain rfl:=ai (p.symm.trans H);refine(O.valueAt x).elim (λo=>(nS (o.1.symm.trans e)).elim) (λo=>S8 o λmv Y e1 e2 hr u_=>?_);obtain rfl:=ai (e1.symm.trans e);have hm:=jU (P.pO _ _ M);exact ja hm.typeIs slot_dict_getitem.lookup (wpAny_getItem_of (iM _ _ x t) hm e2 (k1.ok P.toks (hr.mono (oN.Le.refl _) (mi)))) hs
theorem Mj (F:qi T c env A) (P:pI T D φ c env A st s) {value y:aI} {o i:ag} {a b:V} (hs:jK y false o i=nh [o,i] (getItem o i)) (ho:oR T D φ o a) (hi:oR T D φ i b)
  (k:K T D φ c env (VR T) (pW a b st) Q E):wpAny (model T.prog T.w) A (subscriptTail value y o i) Q E s:=by
 refine(let C:Prop:=_;(?_:C))
 rcases GW k.1 with⟨l,j,rfl,rfl⟩|⟨l,j,rfl,rfl⟩|⟨n,x,rfl,rfl⟩
 ·exact Mh P hs ho hi k
 ·refine vp ho.lst_inv λad vs n e p q r=>?_;subst e;refine p8 hi.int_inv λu e=>?_;subst e;refine o8 (K.opt (o:=itemAt l j) k) λv e k1=>?_;exact ja (T:="list") (o5 _ (P.heap p) rfl) slot_list_getitem.lookup (B4 (mvs:=vs.toList) ⟨n,P.heap p⟩ q r e λmv hr=>k1.ok P.here hr) hs
 ·exact Mi P hs ho hi k
theorem JY(items:bx ag){lo:au Int}(o:lo=none\/lo=some 0)(b:Nat):slicePick items lo (some (b:Int)) none=(items.toList.take b).toArray:=by
 have e:l9 lo (some (b:Int)) none items.size=(((0:Nat):Int),((min b items.size:Nat):Int),1):=by
  rcases o with rfl|rfl
  ·simp only[l9,lq,show(1:Int)>0 by decide,if_true,aT (show ¬((b:Int)<0) by exact dt.2 (bq _))]
   congr 1;congr 1;exact mm _ _
  ·simp only[l9,lq,show(1:Int)>0 by decide,if_true,aT (show ¬((b:Int)<0) by exact dt.2 (bq _)),aT (show ¬((0:Int)<0) by exact dt.2 (by decide))]
   refine jr ?_ (jr ?_ rfl)
   ·exact(mm 0 _).trans (aD _ (Nat.zero_min _))
   ·exact mm _ _
 refine rg (PySem.W.kmk_pick_nat _ e) ?_;exact rg mJ (rg (Nat.sub_zero ..) (rl (aM ..) (rg (PySem.W.kmk_take_min ..) rfl)))
theorem JZ(a b n:Nat)(h1:a<=b)(h2:b<=n):ie (some (a:Int)) (some (b:Int)) 1 (n:Int)=((a:Int),(b:Int)):=by
 have c:∀v:Nat,v<=n->(if(v:Int)<0 then max ((v:Int)+n) 0 else min (v:Int) n)=v:=λv h=>(aT (dt.2 (bq v))).trans (mK (b9.2 h))
 exact jr (c a (aB h1 h2)) (c b h2)
theorem J0(a b:Nat)(h1:a<=b):dI (a:Int) (b:Int) 1=b-a:=by
 unfold dI;have h1:(1:Int)>0:=by exact by decide
 simp only[h1,if_true,Int.ediv_one];split
 ·exact rg (Int.sub_add_cancel ..) (Int.toNat_sub b a)
 ·rename_i hc;exact(Nat.sub_eq_zero_of_le (b9.1 (dt.1 hc))).symm
theorem ze{prog:b0}{w:bQ}{z:ay}{a b n:Nat}{u u2:Tok}{Q:Int×Int×Nat->ah->Prop}(hs:s.heap.IsSliceOf z (.int a u) (.int b u2) .none)(h1:a<=b)(h2:b<=n)(h:Q ((a:Int),1,b-a) s) :
  wpAny (model prog w) A (og (.ref z) (pure (n:Int))) Q E s:=by
 refine tq (id hs) λos o VI y=>?_;refine ae (ae (bg o y (x:=.int a u) rfl (ae (bg o y (x:=.int b u2) rfl (ae (bg o y (x:=.none) rfl (aj ?_)))))));refine ae (slicePart_none ?_);refine(?_:wpAny _ _ (if((1:Int)==0)=true then _ else _) _ _ s)
 refine ae (slicePart_int (ae (slicePart_int (ae (aj ?_)))));refine(?_:wpAny _ _ (match ie (some (a:Int)) (some (b:Int)) 1 (n:Int)with|(lo,hi)=>pure (lo,(1:Int),dI lo hi 1)) _ _ s)
 refine rg (JZ a b n h1 h2) ?_;refine(?_:wpAny _ _ (pure ((a:Int),(1:Int),dI (a:Int) (b:Int) 1)) _ _ s);refine rg (J0 a b h1) ?_;exact aj h
theorem PD(xs:bx ag)(a n:Nat):((jt n).filterMap λ(k:Nat)=>xs[((a:Int)+(k:Int)*1).toNat]?).toArray=((xs.toList.drop a).take n).toArray:=by
 have e:(λ(k:Nat)=>xs[((a:Int)+(k:Int)*1).toNat]?)=λk=>xs[a+k]?:=by
  funext k
  have:((a:Int)+(k:Int)*1).toNat=a+k:=rg (gW ..) rfl;exact rg (this ..) rfl
 refine rg (e) ?_;have:=pick_run xs a n;rw[List.filterMap_map]at this;have e2:((λx=>xs[x]?) ∘ λx=>a+x)=λk=>xs[a+k]?:=rfl;rw[e2]at this;exact rg (this ..) rfl
theorem yn {prog:b0} {w:bQ} {t o:ay} {items:bx ag} {a b:Nat} {u u2:Tok} (ht:mq s.heap t items) (hs:s.heap.IsSliceOf o (.int a u) (.int b u2) .none) (h0:1<=a) (h1:a<=b) (h2:b<=items.size)
  (h:Q (.ref s.heap.objs.size) {s with heap:=s.heap.push {cls:=.type "tuple", data:=.seq ((items.toList.drop a).take (b-a)).toArray}})
  (hsz:items.size<=dH):wpAny (model prog w) A (getItem (.ref t) (.ref o)) Q E s:=by
 have Iv:sizeOk (.seq ((items.toList.drop a).take (b-a)).toArray):=by
  show((items.toList.drop a).take (b-a)).toArray.size<=dH;simp only[bo,dZ,l5,aM];exact aB (dC _ _) (aB (aP _ _) hsz)
 refine tq (id hs) λos y VI C=>?_;have hTs:s.TypeIs (.ref o) "slice":=(o5 os y VI);unfold getItem
 try with_reducible refine a7 ?_
 first|refine ae (aj ?_)|skip
 refine ae (wpAny_sequenceKey ht.typeIs (rfl) ?_)
 refine ae (bU (name:=aa "__getitem__") ht.typeIs mR
  (bE mR ht.typeIs entry_tuple_getitem ?_ (args_tuple_getitem _ _)))
 refine(?_:wpAny _ _ (ob (.ref t) >>= _) _ _ s);refine(let z:_->ah->Prop:=_;(?_:wpAny _ _ _ z _ _))
 refine ae (tupleItemsOf_ ht ?_);refine ae (fI hTs ?_);refine ae (ze hs h1 h2 ?_)
 have Tv:¬(((a:Int)==0&&(1:Int)==1&&(b-a)==items.size)=true):=by
  have:((a:Int)==0)=false:=by rw[mD];exact gE (b9.2 h0)
  refine rg (this ..) ?_;simp
 refine(?_:wpAny _ _ (if((a:Int)==0&&(1:Int)==1&&(b-a)==items.size)=true then _ else _) _ _ s)
 refine rg (aT Tv) ?_;rw[PD items a]
 first
  |exact ae (m:=dc _) (aV (aj (o5 _ rfl (aj h))) Iv)
  |exact ae (m:=dc _) (aV (ae (aj (aj ⟨_,rfl,aj h⟩))) Iv)
  |exact ae (ae (m:=dc _) (aV (aj (aj ⟨_,rfl,aj h⟩)) Iv))
  |exact ae (ae (m:=dc _) (aV (aj ⟨_,rfl,aj h⟩) Iv))
theorem zX{e:aI}{x:Str}{l:af V}(h:owned c e st=some (x,l)):∃p,e=.Name x p/\pQ c x=true/\st.ρ.lookup x=some (.own l):=by
 refine(let C:Prop:=_;(?_:C))
 induction e using aQ with
 |Name y p =>
  have h:(if pQ c y=true then(match st.ρ.lookup y with|some (.own l)=>some (y,l)|_=>none)else none)=some (x,l):=h
  by_cases hl:pQ c y=true
  ·replace h:=(aO hl)▸h;cases q:st.ρ.lookup y with
   |none=>replace h:=(q)▸h;exact(nS h).elim
   |some b =>
    induction b using pq.casesOn with
    |val v=>replace h:=(q)▸h;exact(nS h).elim
    |no=>replace h:=(q)▸h;exact(nS h).elim
    |own l' =>
     replace h:=(q)▸h;refine qA (jY (ai h)) λo z=>?_;subst o;subst z;exact qZ p rfl hl q
  ·replace h:=(aT hl)▸h;exact(nS h).elim
 |_=>exact(nS h).elim
theorem Tw{i:aI}{k:Int}(h:zI i=some k):(∃n p,i=.Constant (.int k) n p)\/∃j n p q,i=.UnaryOp .USub (.Constant (.int j) n p) q/\k=-j:=by
 unfold zI at h;cases q:Lu i with
 |some j=>rw[q]at h;exact .inl (ai h▸zL q)
 |none =>
  rw[q]at h;refine o8 (Option.map_eq_some_iff.mp h) λj h1 h2=>qH h1 λe y h4=>?_;refine uK (zL h4) λn p z=>?_;refine .inr (p8 (oI (P:=λe=>∃q,i=.UnaryOp .USub e q) _ y ?_) λq e1=>⟨j,n,p,q,z▸e1,h2.symm⟩);clear h h1 y q
  induction i using aQ with
  |UnaryOp o e q=>induction o using fG with
   |USub=>exact⟨q,rfl⟩
   |_=>trivial
  |_=>trivial
theorem Mk{i:aI}{k:Int}(h:zI i=some k){prog:b0}{w:bQ}(M:∀u tk,Q (.int k u) {s with toks:=tk}):wpAny (model prog w) A (eval i env) Q E s:=by
 refine(let C:Prop:=_;(?_:C))
 refine(Tw h).elim (λo=>?_) (λy=>?_)
 ·obtain⟨n,p,rfl⟩:=o;exact dN (M _ _)
 ·refine V2 (y) λj n p q z H=>?_;subst z;subst H;exact UnaryOp_ (dN (iX (M _ _)))
theorem wH (F:qi T c env A) (P:pI T D φ c env A st s) {x:Str} {p:Pos} {l:af V} (hl:pQ c x=true) (y:st.ρ.lookup x=some (.own l))
  (H:∀a mvs,D a=some (.own x mvs)->rd D env x (.ref a)->mvs.length<=qf->oK T D φ mvs l->Q (.ref a) s):wpAny (model T.prog T.w) A (eval (.Name x p) env) Q E s:=by
 refine(let C:Prop:=_;(?_:C))
 refine o8 (P.link.vars x _ y nofun) λmv hv hb=>?_;refine(let C:Prop:=_;(?_:C))
 cases hb with
 |@own a vs l o z r =>
  exact d2 (zS F P hl hv (H a vs o hv z r)) (by rcases sQ hl with e|e<;>exact(F.ok.plain x _ e).1)
theorem ER{e:aI}{n:Nat}(h:Gz (some e)=some n):∃k p,e=.Constant (.int n) k p:=qH h λi h1 h2=>by
 refine qA (tM h2) λq o=>?_;exact(ai o▸(lA q.1).symm:i=n)▸zL h1
theorem Ml{i:aI}{a b:Nat}(h:ue i=some (a,b)):∃lo n2 p2 p,i=.Slice lo (some (.Constant (.int b) n2 p2)) none p/\((lo=none/\a=0)\/∃C p1,lo=some (.Constant (.int a) C p1)):=by
 refine qH h λr h1 h2=>qH h2 λe H h4=>?_;refine qA (tM h4) λM O=>qH O λx o U=>?_;refine o8 (Option.map_eq_some_iff.mp U) λy Y z=>?_;refine qA (jY z) λe1 e2=>?_;subst e1;cases e2;refine uK (ER Y) λk2 p2 e3=>?_;refine p8 (oI (P:=λr=>∃p,i=.Slice r.1 r.2.1 r.2.2 p) _ h1 ?_) λp e4=>?_
 ·clear h h1
  induction i using aQ with
  |Slice a b c p=>exact⟨p,rfl⟩
  |_=>trivial
 ·refine YQ r.1 k2 p2 p (rg (e4 ..) (rg (H ..) (rg (e3 ..) (rg (Option.isNone_iff_eq_none.mp M) rfl)))) ?_;cases q:r.1 with
  |none=>replace o:=(q)▸o;exact .inl ⟨rfl,(ai o).symm⟩
  |some e=>replace o:=(q)▸o;refine uK (ER o) λk1 p1 e5=>?_;subst e5;exact .inr (zD _ _ rfl)
theorem ES{v:V}{a b:Nat}(h:sP v a b st≠.stuck):(∃l,v=.tup l/\1<=a/\a<=b/\b<=l.length)\/∃l,v=.lst l/\a=0:=by
 induction v using V.casesOn with
 |tup l=>exact .inl ⟨l,rfl,iL λn=>h (aT n)⟩
 |lst l=>exact .inr ⟨l,rfl,iL λn=>h (aT n)⟩
 |_=>exact(h rfl).elim
theorem GX {lo:au aI} {n2 a b:Nat} {p2 p:Pos} (z:(lo=none/\a=0)\/∃C p1,lo=some (.Constant (.int a) C p1)) {Q:ag->ah->Prop}
  (h:∀(vl:ag)(u2:Tok)(tk:Tok),((vl=.none/\a=0)\/∃u,vl=.int a u)->Q (.ref s.heap.objs.size) {s with heap:=s.heap.push {cls:=.type "slice", data:=.fields #[vl,.int b u2,.none]},toks:=tk}) :
  wpAny (model T.prog T.w) A (eval (.Slice lo (some (.Constant (.int b) n2 p2)) none p) env) Q E s:=by
 refine wpAny_Slice ?_;refine z.elim (λo=>?_) (λo=>uK o λC p1 e=>?_)
 ·refine rg (o.1 ..) ?_;refine(?_:wpAny (model T.prog T.w) A (pure cf) _ E s);refine(let y:_->ah->Prop:=_;(?_:wpAny _ _ _ y _ _))
  refine(let y:_->ah->Prop:=_;let H:ag->ah->Prop:=_;(?_:wpAny _ _ _ y H _))
  exact aj (dN (k:=n2) (pos:=p2) (aj (h _ _ _ (.inl ⟨rfl,o.2⟩))))
 ·refine rg (e) ?_;exact dN (k:=C) (pos:=p1) (dN (k:=n2) (pos:=p2) (aj (h _ _ _ (.inr ⟨_,rfl⟩))))
theorem J1(P:pI T D φ c env A st s){lo:au aI}{n2 a b:Nat}{p2 p:Pos}(U:(lo=none/\a=0)\/∃n1 p1,lo=some (.Constant (.int a) n1 p1)){o:aI}{v:V}{mv:ag}(r1:oR T D φ mv v)(k:K T D φ c env (VR T) (sP v a b st) Q E) :
  wpAny (model T.prog T.w) A (eval (.Slice lo (some (.Constant (.int b) n2 p2)) none p) env) (λi s'=>wpAny (model T.prog T.w) A (subscriptTail o (.Slice lo (some (.Constant (.int b) n2 p2)) none p) mv i) Q E s') E s:=by
 refine GX U λvl u2 tk O=>?_;have gS:Good T D φ D φ c env st {s with heap:=s.heap.push {cls:=.type "slice", data:=.fields #[vl,.int b u2,.none]},toks:=tk}:=P.grown λu_ u_ e=>aq _ e
 have P2:=P.good gS;have hS:(s.heap.push {cls:=.type "slice", data:=.fields #[vl,.int b u2,.none]}).IsSliceOf s.heap.objs.size vl (.int b u2) .none:=nC ..;refine(let C:Prop:=_;(?_:C))
 refine(ES k.1).elim (λo=>JB o λl e h1 h2 h3=>?_) (λo=>o8 o λl e ha=>?_)
 ·subst e;replace k:K T D φ c env (VR T) (if 1<=a/\a<=b/\b<=l.length then .ok (.tup ((l.drop a).take (b-a))) st else .stuck) Q E:=k
  rw[aO ⟨h1,h2,h3⟩]at k;refine vp r1.rN λad vs n e q z r=>?_;subst e;refine O.elim (λo=>absurd (o.2▸h1) (by decide)) (λo=>p8 o λu e=>?_);subst e
  refine(let Y:ag->ah->Prop:=_;(?_:wpAny _ _ _ _ Y _))
  refine ja (T:="tuple") ⟨_,P2.heap q,rfl⟩ slot_tuple_getitem.lookup ?_ rfl;refine yn (items:=vs) ⟨_,P2.heap q,rfl,n,rfl⟩ hS h1 h2 (rl (aM ..) (rg (r.length ..) h3)) ?_ (qa z);refine B3 P2 (l:=(l.drop a).take (b-a)) (kS▸(r.drop a).take (b-a)) ?_ (k.sub gS);have:=r.length;simp only[aM]at this;exact rg (dZ ..) (rg (l5 ..) (aB (dC _ _) (aB (aP _ _) (this▸z))))
 ·subst e ha;refine vp r1.lst_inv λad vs n e q z r=>?_;subst e;refine ja (T:="list") (o5 _ (P2.heap q) rfl) slot_list_getitem.lookup ?_ rfl;refine(let C:Prop:=_;(?_:C))
  have H:∃M,IsPart vl M/\(M=none\/M=some 0):=O.elim (λo=>o.1▸o5 none .none (.inl rfl)) (λo=>p8 o λu e=>e▸o5 (some 0) (.int ..) (.inr rfl));refine o8 H λM hp H=>?_;refine wpAny_getItem_list_slice (items:=vs) ⟨_,P2.heap q,rfl,n,rfl⟩ hS hp (.int ..) .none (by simp) ?_ (qa z)
  refine rg (JY vs H b) ?_;refine ym P2 (l:=l.take b) (kS▸r.take b) ?_ (K.sub (r:=.ok _ _) k gS);have:=r.length;refine rg (dZ ..) ?_;unfold qf at z ⊢;exact Pa .x (.n 1000000) .y .x .z .y .z (.n 1000000) rfl z (ak this.symm) (dC _ _)
theorem CS (F:qi T c env A) (P:pI T D φ c env A st s) {x:Str} {l:af V} {n:Int} {o i:aI} {pos:Pos} (h1:owned c o st=some (x,l)) (h2:zI i=some n) (hs:ue i=none) (hn:∀a b d p,i≠.Slice a b d p)
  (k:K T D φ c env (VR T) (R.opt (itemAt l n) st) Q E):wpAny (model T.prog T.w) A (eval (.Subscript o i pos) env) Q E s:=by
 refine tq (zX h1) λp e hl y=>?_;subst e;refine ko (wH F P hl y λa mvs ha hv hz r=>?_);refine Mk h2 λu tk=>?_;refine(let C:Prop:=_;(?_:C))
 have P1:=P.good (P.toks (tk:=tk));refine o8 k.opt λv e k1=>?_;exact ja (T:="list") (P1.pO _ _ ha).isList.typeIs slot_list_getitem.lookup (B4 (P1.pO _ _ ha) hz r e λmv hr=>k1.ok P.toks hr) (B5 hs hn _ _)
theorem Bq(F:qi T c env A){o i:aI}{pos:Pos}(ho:SimT T c env A (eval o env) (λs=>oO c o s))(hi:SimT T c env A (eval i env) (λs=>oO c i s)) :
  SimT T c env A (eval (.Subscript o i pos) env) (λs=>oO c (.Subscript o i pos) s):=λD φ st s Q E P k=>by
 replace k:K T D φ c env (VR T) (match ue i with
  |some (a,b)=>(oO c o st).bind λv s=>sP v a b s
  |none=>match owned c o st,zI i with
   |some (_,l),some n=>pW (.lst l) (.int n) st
   |_,_=>(oO c o st).bind λv s=>(oO c i s).bind λn s=>pW v n s) Q E:=k
 cases hs:ue i with
 |some ab =>
  rw[hs]at k;refine V2 (Ml (a:=ab.1) (b:=ab.2) hs) λlo n2 p2 p e U=>?_;subst e;refine(let Y:_->ah->Prop:=_;let z:ag->ah->Prop:=_;(?_:wpAny _ _ _ Y z _))
  refine(let z:ag->ah->Prop:=_;(?_:wpAny _ _ _ _ z _))
  exact ko (ho _ _ _ _ _ _ P (K.bind k λv H mv s1 D1 M e1 g1 O k1=>J1 (P.good g1) U O k1))
 |none =>
  rw[hs]at k
  have y:(∀a b d p,i≠.Slice a b d p)->K T D φ c env (VR T) ((oO c o st).bind λv s=>(oO c i s).bind λn s=>pW v n s) Q E->wpAny (model T.prog T.w) A (eval (.Subscript o i pos) env) Q E s:=λhn k =>
   ko (ho _ _ _ _ _ _ P (K.bind k λv H mv s1 D1 M e1 g1 O k1=>hi _ _ _ _ _ _ (P.good g1) (K.bind k1 λv2 CT mv2 s2 D2 Mm e2 g2 r2 k2=>Mj F ((P.good g1).good g2) (B5 hs hn _ _) (oR.mono O g2.le g2.pre) r2 k2)))
  by_cases hsl:∃a b d p,i=.Slice a b d p
  ·refine V1 hsl λa b d p e=>?_;subst e
   have k:K T D φ c env (VR T) ((oO c o st).bind λv s=>.stuck) Q E:=by
    refine(let C:Prop:=_;(?_:C))
    cases q:owned c o st with
    |none=>replace k:=(q)▸k;exact k
    |some _=>rw[q]at k;exact k
   exact ko (ho _ _ _ _ _ _ P (K.bind k λv H mv s1 D1 M e1 g1 O k1=>k1.oH.elim))
  ·have hn:∀a b d p,i≠.Slice a b d p:=λa b d p e=>hsl ⟨a,b,d,p,e⟩;refine(let PE:_->ah->Prop:=_;let PF:ag->ah->Prop:=_;(?_:wpAny _ _ _ PE PF _))
   refine(let C:Prop:=_;(?_:C))
   cases h1:owned c o st with
   |none=>rw[h1]at k;exact y hn k
   |some xl=>cases h2:zI i with
    |none=>rw[h1,h2]at k;exact y hn k
    |some n=>rw[h1,h2]at k;exact CS F P h1 h2 hs hn k
theorem GY{v:V}{a:Str}(h:wz v a st≠.stuck):(∃u,v=.ev u/\a=aa "scope")\/(∃w p,v=.wx w p/\a=aa "what")\/∃w p,v=.wx w p/\a=aa "spot":=by
 refine rI h ?_;clear h
 induction v using V.casesOn with
 |ev u=>exact rE λe=>.inl ⟨u,rfl,beq_iff_eq.mp e⟩
 |wx w p=>exact Sb (λe=>.inr (.inl ⟨w,p,rfl,beq_iff_eq.mp e⟩)) (rE λe=>.inr (.inr ⟨w,p,rfl,beq_iff_eq.mp e⟩))
 |_=>trivial
theorem Mn(F:qi T c env A)(P:pI T D φ c env A st s){x:ag}{v:V}{a:Str}(hx:oR T D φ x v)(k:K T D φ c env (VR T) (wz v a st) Q E):wpAny (model T.prog T.w) A (getAttr x a true) Q E s:=by
 refine(let C:Prop:=_;(?_:C))
 rcases GY k.1 with⟨u,rfl,rfl⟩|⟨w,p,rfl,rfl⟩|⟨w,p,rfl,rfl⟩
 ·obtain⟨_,_,_,_,_,_,rfl,p,q,r⟩:=hx.inv;exact F.top.Wi A E Q s _ _ _ _ _ _ P.stays r.uz (P.heap p) (P.heap q) λt=>K.ok k P.toks r
 ·obtain⟨_,_,_,_,_,_,_,_,_,rfl,p,q,r,r2⟩:=hx.inv;refine tW (P.pO _ _ p) λvs y o u_=>?_;exact F.top.GK A E Q s _ _ _ _ _ _ _ _ _ _ _ P.stays r.uz o (P.heap q) λt=>K.ok k P.toks r
 ·obtain⟨_,_,_,_,_,_,_,_,_,rfl,p,q,r,r2⟩:=hx.inv;refine tW (P.pO _ _ p) λvs y o u_=>?_;exact F.top.GO A E Q s _ _ _ _ _ _ _ _ _ _ _ P.stays r2.uz o (P.heap q) λt=>K.ok k P.toks r2
theorem Br(F:qi T c env A){o:aI}{a:Str}{pos:Pos}(ho:SimT T c env A (eval o env) (λs=>oO c o s)) :
  SimT T c env A (eval (.Attribute o a pos) env) (λs=>oO c (.Attribute o a pos) s):=λD φ st s Q E P k=>by
 dsimp only at k;simp only[Ek]at k;split at k
 ·rename_i hp;refine kE (ho _ _ _ _ _ _ P (K.bind k λv y mv H M z e1 g1 C k1=>Mn F (P.good g1) C k1)) ?_;show(do let O <- attributeBase o a env (eval o env);_)=_
  rw[uR hp]
 ·exact k.oH.elim
end
noncomputable def Sp.loose:Sp->aN
 |.fz o=>match o.data with
  |.dict es _=>es.isEmpty
  |_=>false
 |.dct _=>true
 |_=>false
noncomputable def Sp.hard:Sp->aN
 |.fz o=>!(Sp.fz o).loose
 |.xc _=>true
 |_=>false
noncomputable def oN.Vl(D D':oN):Prop:=∀a sp,D a=some sp->sp.hard=true->D' a=some sp
noncomputable def oN.Mv(D D':oN):Prop:=∀a sp,D a=some sp->sp.loose=false->D' a=some sp
theorem Sp.J2{sp:Sp}(h:sp.hard=true):sp.loose=false:=by
 cases sp with
 |fz o=>exact lU _▸h
 |xc _=>rfl
 |_=>exact dA h
theorem oN.Mv.vl{D D':oN}(h:D.Mv D'):D.Vl D':=λa sp e hs=>h a sp e (Sp.J2 hs)
theorem oN.Le.vl{D D':oN}(h:D.Le D'):D.Vl D':=λa sp e hs=>h a sp e (by cases sp<;>first|rfl|cases hs)
theorem oN.Mv.put{D:oN}{a:ay}{sp:Sp}(h:∀o,D a=some o->o.loose=true):D.Mv (D.put a sp):=λx o hx hs=>by
 by_cases e:x=a
 ·subst e;rw[h o hx]at hs;exact(nT hs).elim
 ·exact(oN.pj _ _ e)▸(hx)
section
variable{T:pg}{D D':oN}{φ ph:af ay}
mutual
theorem oR.vl{mv:ag}{v:V}(x:oR T D φ mv v)(h:D.Vl D')(hp:φ <+: ph):oR T D' ph mv v:=by
 cases x with
 |none=>exact .none
 |bool b=>exact .bool b
 |int i t=>exact .int i t
 |str x t k=>exact .str x t k
 |typ n=>exact .typ n
 |tup a b c=>exact .tup (h _ _ a rfl) b (oK.vl c h hp)
 |lst a b c=>exact .lst (h _ _ a rfl) b (oK.vl c h hp)
 |ptr a=>exact .ptr (by obtain⟨r,rfl⟩:=hp;rw[bW (List.getElem?_eq_some_iff.mp a).1];exact a)
 |ev a b d=>exact .ev (h _ _ a rfl) (h _ _ b rfl) (oR.vl d h hp)
 |wx a b d e=>exact .wx (h _ _ a rfl) (h _ _ b rfl) (oR.vl d h hp) (oR.vl e h hp)
 |we a b d=>exact .we (h _ _ a rfl) b d
 |rO a b=>exact .rO (h _ _ a (by obtain⟨es,ep,t,e,_⟩:=b;subst e;rfl)) b
theorem oK.vl{mvs:af ag}{vs:af V}(x:oK T D φ mvs vs)(h:D.Vl D')(hp:φ <+: ph):oK T D' ph mvs vs:=by
 cases x with
 |nil=>exact .nil
 |cons a b=>exact .cons (oR.vl a h hp) (oK.vl b h hp)
end
theorem oR.mv{mv:ag}{v:V}(x:oR T D φ mv v)(h:D.Mv D')(hp:φ <+: ph):oR T D' ph mv v:=x.vl h.vl hp
theorem oK.mv{mvs:af ag}{vs:af V}(x:oK T D φ mvs vs)(h:D.Mv D')(hp:φ <+: ph):oK T D' ph mvs vs:=x.vl h.vl hp
theorem tG.vl{o:af (Str×ag)}{c:Cell}(x:tG T D o c)(h:D.Vl D'):tG T D' o c:=by
 induction x with
 |nil=>exact .nil
 |cons a b _ ih=>exact .cons (a.vl h (ao _)) b ih
theorem tG.mv{o:af (Str×ag)}{c:Cell}(x:tG T D o c)(h:D.Mv D'):tG T D' o c:=by
 induction x with
 |nil=>exact .nil
 |cons a b _ ih=>exact .cons (a.mv h (ao _)) b ih
theorem px.vl{σ:af Cell}(x:px T D φ σ)(h:D.Vl D')(hd:∀a o,D a=some (.dct o)->D' a=some (.dct o)):px T D' φ σ :=
 ⟨x.len,x.nodup,λi c e=>let⟨a,o,p,q,r⟩:=x.get i c e;(tD a o p (hd _ _ q) (r.vl h))⟩
theorem wG.mv{x:Str}{mv:ag}{b:pq}(y:wG T D φ x mv b)(h:D.Mv D')(hp:φ <+: ph):wG T D' ph x mv b:=by
 cases y with
 |val a=>exact .val (a.mv h hp)
 |own a b c=>exact .own (h _ _ a rfl) b (c.mv h hp)
theorem rd.mv{env:Env}{x:Str}{mv:ag}(y:rd D env x mv)(h:D.Mv D'):rd D' env x mv:=by
 refine(let C:Prop:=_;(?_:C))
 refine(y).elim (λo=>?_) (λz=>?_)
 ·obtain⟨a,m,b,d⟩:=o;exact .inl ⟨a,m,h _ _ b rfl,d⟩
 ·obtain⟨a,ca,b,d⟩:=z;exact .inr ⟨a,ca,b,h _ _ d rfl⟩
variable{c:MC}{env:Env}{st tm:St}{s:ah}{A:aX}
theorem Link.mv(x:Link T D φ c env st)(h:D.Mv D')(hp:φ <+: ph){σ:af Cell}(hc:px T D' ph σ):Link T D' ph c env {st with σ:=σ} where
 locals:=x.locals.imp λm e=>h _ _ e rfl
 vars:=λy b e n=>o8 (x.vars y b e n) λmv p q=>o5 mv (p.mv h) (q.mv h hp)
 p6:=λy e=>tW (x.p6 y e) λC v p q=>uL C v p (h _ _ q rfl)
 free:=λy v e=>vp (x.free y v e) λC o mv p q r z=>zF C o mv p (h _ _ q rfl) r (z.mv h hp)
 cells:=hc
theorem px.push{σ:af Cell}{d:ay}{o:af (Str×ag)}{cl:Cell}(x:px T D φ σ)(hd:D d=some (.dct o))(hn:d∉φ)(hc:tG T D o cl):px T D (φ++[d]) (σ++[cl]):=by
 refine⟨by simp[x.len],?_,λi c e=>?_⟩
 ·rw[List.nodup_append];exact⟨x.nodup,by simp,by intro a ha b hb;simp at hb;subst hb;rintro rfl;exact hn ha⟩
 ·by_cases hi:i<σ.length
  ·rw[bW hi]at e;refine tW (x.get i c e) λa k p q=>?_;exact uL a k (rg (bW (rg (x.len ..) hi)) p) q
  ·rw[df (by exact pZ .x .y .x .y rfl (gj hi))]at e
   refine(let C:Prop:=_;(?_:C))
   have z:i-σ.length=0:=by
    refine(let C:Prop:=_;(?_:C))
    have:=(List.getElem?_eq_some_iff.mp e).1;simp at this;omega
   rw[z]at e;obtain rfl:=ai e;refine tD d o ?_ hd hc;exact rg (df (by rw[x.len];exact pZ .x .y .x .y rfl (gj hi))) (rg (x.len ..) (rg (z ..) rfl))
theorem px.Mo{σ:af Cell}(x:px T D φ σ){a:ay}(h:a∈φ):∃o,D a=some (.dct o):=by
 refine p8 (List.getElem?_of_mem h) λi hi=>?_;have ug:=(List.getElem?_eq_some_iff.mp hi).1;refine(let C:Prop:=_;(?_:C))
 refine sF (x.get i _ (aW (rl (x.len ..) ug))) λy o p q u_=>?_;rw[hi]at p;obtain rfl:=ai p;exact⟨o,q⟩
end
section
variable{T:pg}{D D':oN}{φ ph:af ay}{c:MC}{env:Env}{A:aX}{st tm:St}{s s':ah}{Q:ag->ah->Prop}{E:ag->ah->Prop}
theorem yN{k:au aI}{r:af (au aI)}{o:af Str}(h:uf (k::r)=some o):∃x n p rest,k=some (.Constant (.str x) n p)/\uf r=some rest/\o=x::rest :=
 qH h λx h1 h2=>qH h1 λe y h4=>uK (En h4) λn p z=>o8 (Option.map_eq_some_iff.mp h2) λrest C H=>⟨x,n,p,rest,z▸y,C,H.symm⟩
theorem GZ{y:af (au aI)}{o:af Str}(h:uf y=some o):y.all (·.isSome)=true/\y.length=o.length:=by
 induction y generalizing o with
 |nil=>cases h;exact⟨rfl,rfl⟩
 |cons k r ih =>
  refine V3 (yN h) λx n p rest z e C=>?_;subst z;subst C;obtain⟨h1,h2⟩:=ih e;exact⟨h1,by simp[h2]⟩
theorem J3{pos:Pos}{z:af (au aI)}{o:af Str}(hk:uf z=some o):∀{vs:af aI},(∀e∈vs,SimT T c env A (eval e env) (λs=>oO c e s))->z.length=vs.length->∀{D φ st s} {Q:af (ag×ag)->ah->Prop} {E:ag->ah->Prop},pI T D φ c env A st s ->
  K T D φ c env (λD φ H y=>∃mvs,Carries (strKind T.prog T.w) H (o.zip mvs)/\mvs.length=o.length/\oK T D φ mvs y) (pC (pk c vs) st) Q E ->
  wpAny (model T.prog T.w) A (PySem.evalPairs (pairTrees z vs env pos)) Q E s:=by
 induction z generalizing o with
 |nil =>
  intro vs h hl D φ st s Q E P k;obtain rfl:=ai hk;have hv:vs=[]:=by induction vs using bN with|nil=>rfl|cons=>simp at hl
  subst hv;exact evalPairs_nil (k.ok P.here (qZ ([]) trivial rfl .nil))
 |cons k0 z ih =>
  intro vs h hl D φ st s Q E P k;refine V3 (yN hk) λx n p rest M e O=>?_;subst M;subst O
  induction vs using bN with
  |nil=>simp at hl
  |cons v vs =>
   have hv:=h v az;have Tg:=λx hx=>h x (aA _ hx);refine evalPairs_cons (lT ?_);have g0:Good T D φ D φ c env st {s with toks:=s.toks+1}:=P.toks
   have U:=P.good g0;refine(let Y:_->ah->Prop:=_;let Tx:ag->ah->Prop:=_;(?_:wpAny _ _ _ Y Tx _))
   refine ae (hv _ _ _ _ _ _ U (K.bind (k.sub g0) λa CU ma s1 D1 Tz e1 g1 r1 k1=>ae (bh (aj ?_))));refine ih e Tg (by simpa using hl) (U.good g1) (K.bind k1 λy CT H s2 D2 Mm e2 g2 r2 k2=>?_)
   refine(let C:Prop:=_;(?_:C))
   refine tq (r2) λmvs h1 h2 h3=>?_;exact k2.ok ((U.good g1).good g2).here (qZ (ma::mvs) (qB (iM _ _ _ _) rfl h1) (by simp[h2]) (.cons (oR.mono r1 g2.le g2.pre) h3))
theorem tG.of{o:af Str}{mvs:af ag}{y:af V}(r:oK T D φ mvs y)(h:(o.zip y).all (λp=>p.2.oQ)=true):tG T D (o.zip mvs) (o.zip y):=by
 induction o generalizing mvs y with
 |nil=>exact .nil
 |cons x o ih =>
  cases r with
  |nil=>exact .nil
  |cons a b =>
   simp only[de,eQ,aw]at h;exact .cons (a.bare h.1) h.1 (ih b h.2)
theorem CV(prog:b0)(w:bQ){h:bP}{a:ay}(e:h.get? a=some {cls:=.type "dict", data:=.dict #[]}):h.DictOf (strKind prog w) a [] :=
 ⟨_,#[],0,e,(qB rfl rfl rfl),rfl,λu_ o=>by simp at o,Pairs.nil,mH⟩
set_option tactic.hygienic true in
theorem Mp{ks:af (au aI)}{vs:af aI}{pos:Pos}(h:∀e∈vs,SimT T c env A (eval e env) (λs=>oO c e s)):SimT T c env A (eval (.Dict ks vs pos) env) (λs=>oO c (.Dict ks vs pos) s):=λD φ st s Q E P k=>by
 dsimp only at k;simp only[Td]at k;unfold s8 at k;refine(let C:Prop:=_;(?_:C))
 split at k
 ·rename_i o hk;split at k
  ·rename_i hc;obtain⟨h1,h2,h3,h4⟩:=hc;obtain⟨yl,pd⟩:=GZ hk;refine wpAny_Dict_any yl (by exact aZ (uJ .x .y .z .x .z .y rfl (ak h1) (ak pd)) (uJ .x .y .y .z .x .z rfl (ak h1.symm) (ak pd.symm))) (by rintro rfl;simp at pd;lia) (by exact Pa .x .y .y (.n 15) .z .x .z (.n 15) rfl (ak h1) h2 (ak pd)) ?_
   have g0:Good T D φ (D.put s.heap.objs.size (.fz {cls:=.type "dict", data:=.dict #[]})) φ c env st {s with heap:=s.heap.push {cls:=.type "dict", data:=.dict #[]}} :=
    P.alloc (tk:=s.toks) P.pO.fresh (λu_ u_ e=>aq _ e) (aF _ rfl)
   have P0:=P.good g0;refine J3 hk h (by exact aZ (uJ .x .y .z .x .z .y rfl (ak h1) (ak pd)) (uJ .x .y .y .z .x .z rfl (ak h1.symm) (ak pd.symm))) P0 ?_
   refine K.L7 k g0 λvals CU mps s1 D1 O e1 g1 r1 k1=>?_;refine(let C:Prop:=_;(?_:C))
   refine tq (r1) λmvs q1 q2 q3=>?_;have P1:=P0.good g1;unfold rk at k1;split at k1
   ·rename_i U;simp only[aw]at U;have Ln:D1 s.heap.objs.size=some (.fz {cls:=.type "dict", data:=.dict #[]}):=g1.le _ _ (oN.oV ..) rfl;have hz:(o.zip mvs).length=o.length:=rg (List.length_zip ..) (rg (q2 ..) (rg (Nat.min_self ..) rfl));have hm:(o.zip mvs).map (·.1)=o:=List.map_fst_zip (by exact pZ .x .y .x .y rfl (ak q2.symm))
    have Y:=P1.pO _ _ Ln;have M:s1.heap.DictOf (strKind T.prog T.w) s.heap.objs.size []:=CV _ _ Y;refine wpAny_storeAll (knd:=strKind T.prog T.w) mps (o.zip mvs) [] s1 _ q1 M (by rw[ik];simp only[ml];exact Pa .x .y .y (.n 15) .z .x (.a (.n 0) .z) (.n 16777216) rfl (ak h1) h2 (ak hz)) λh' hm' Y1=>?_
    rw[merged_nil_of_nodup _ (rg (hm ..) h4)]at hm';have J4:D1.Mv (D1.put s.heap.objs.size (.dct (o.zip mvs))):=oN.Mv.put λsp e=>by rw[Ln]at e;obtain rfl:=ai e;rfl
    have Y2:s.heap.objs.size∉O:=λYp=>by
     refine(let C:Prop:=_;(?_:C))
     refine p8 (P1.link.cells.Mo Yp) λGu e=>?_;refine(let C:Prop:=_;(?_:C))
     rw[Ln]at e;exact nomatch e
    have H:=(P1.link.cells.vl J4.vl λa Gu e=>by rw[oN.pj _ _ (by rintro rfl;rw[Ln]at e;cases e)];exact e).push (oN.oV ..) Y2 ((tG.of q3 U.1).mv J4)
    refine k1.2.1 _ _ rfl _ _ (D1.put s.heap.objs.size (.dct (o.zip mvs))) (O++[s.heap.objs.size]) ?_ (.ptr ?_)
    ·refine⟨λa sp e hs=>?_,g1.pre.trans (fw _ _),P1.pO.turn Y1 hm',P1.link.mv J4 (fw _ _) H,P1.gens,P1.os,(oN.Back.trans (oN.Back.trans (.put (by intro _ _ h;cases h)) g1.back) (.put (by intro _ _ h;cases h)))⟩
     have sx:a≠s.heap.objs.size:=by rintro rfl;rw[P.pO.fresh]at e;exact(nS e).elim
     refine rg (oN.pj _ _ sx) ?_;exact g1.le _ _ (rg (oN.pj _ _ sx) e) hs
    ·exact rg (df (ak P1.link.cells.len)) (rg (P1.link.cells.len ..) (rg (gz ..) rfl))
   ·exact k1.oH.elim
  ·exact k.oH.elim
 ·exact k.oH.elim
end
theorem yO:b4 cM=true:=by delta b4 cM;simp
theorem CY{a b:Str}(ha:b4 a=true)(hb:b4 b=true):b4 (a++b)=true:=by
 unfold b4 at *;refine(?_:(a.cps++b.cps).all _=true);simp only[Array.all_append,ha,hb];rfl
theorem vD(x:cR):b4 (aa x)=true:=by
 rw[Str.ofString_eq_toList];show(x.toList.map Char.toNat).toArray.all _=true;rw[List.all_toArray,j6,iJ];intro o _;have h:=o.valid
 have h2:o.toNat<0x110000:=by
  rcases h with h|h
  ·exact kr h (by decide)
  ·exact h.2
 exact b5 h2
section
variable{T:pg}{D D':oN}{φ ph:af ay}{c:MC}{env:Env}{A:aX}{st tm:St}{s s':ah}{Q:ag->ah->Prop}{E:ag->ah->Prop}
theorem PG(P:pI T D φ c env A st s){x:ag}{v:V}{r:Str}(hx:oR T D φ x v)(h:vu v=some r)(k:K T D φ c env (VR T) (.ok (.str r) st) Q E):wpAny (model T.prog T.w) A (formatField x cM) Q E s:=by
 unfold vu at h;refine(let C:Prop:=_;(?_:C))
 cases hx with
 |str y t hy =>
  dsimp only at h;split at h
  ·rename_i hz;obtain rfl:=ai h;exact formatField_str (λo tk=>k.ok P.toks (.str _ _ hy)) (qa hz)
  ·exact(nS h).elim
 |int i t =>
  dsimp only at h;refine(let C:Prop:=_;(?_:C))
  split at h
  ·rename_i hs;obtain rfl:=ai h;refine(let C:Prop:=_;(?_:C))
   have:=r0.mp hs;refine formatField_int_small ?_ (k.ok P.toks (.str _ _ (vD _)));by_cases h0:i.natAbs=0
   ·refine(h0).symm▸?_;decide +kernel
   ·have:i.natAbs.log2<30:=(Nat.log2_lt h0).mpr (by omega)
    exact qu (.a .x (.n 1)) (.n 30) (.a .x (.n 1)) (.n 1920) rfl this
  ·exact(nS h).elim
 |_=>exact(nS h).elim
theorem wI{x:aI}{conv:Int}{o:au aI}{pos:Pos}(hx:SimT T c env A (eval x env) (λs=>oO c x s)):SimT T c env A (eval (.FormattedValue x conv o pos) env) (λs=>oO c (.FormattedValue x conv o pos) s):=λD φ st s Q E P k=>by
 dsimp only at k;simp only[yi]at k;split at k
 ·rename_i h;refine qA (h) λy h2=>?_;subst y
  induction o using cT with
  |some _=>simp at h2
  |none =>
   refine FormattedValue_plain (hx _ _ _ _ _ _ P (K.bind k λv z mv O U H e1 g1 M k1=>?_));refine(let C:Prop:=_;(?_:C))
   refine o8 (k1.opt) λb e k2=>?_;rw[c9]at e;obtain⟨r,e,rfl⟩:=e;exact PG (P.good g1) M e k2
 ·exact k.oH.elim
theorem ET{z:af (Sem ag)}{fs:af (St->R V)}(S:Each (SimT T c env A) z fs):∀{acc:Str} {D φ st s} {Q E:ag->ah->Prop},b4 acc=true->acc.length<=qf->pI T D φ c env A st s ->
  K T D φ c env (VR T) (wB acc fs st) Q E->wpAny (model T.prog T.w) A (joinParts acc z) Q E s:=by
 induction S with
 |nil=>intro acc D φ st s Q E ha hz P k;exact joinParts_nil (k.ok P.toks (.str _ _ ha)) (qa hz)
 |@cons t f z fs h U ih =>
  intro acc D φ st s Q E ha hz P k;refine joinParts_cons (h _ _ _ _ _ _ P (K.bind k λv H mv Y D1 M e1 g1 O k1=>?_));refine(let C:Prop:=_;(?_:C))
  cases O with
  |str y t hy =>
   dsimp only at k1 ⊢;refine(let C:Prop:=_;(?_:C))
   split at k1
   ·rename_i o;have hl:(acc++y).length=acc.length+y.length:=strLen_append ..;exact⟨by rw[hl];exact qa o,ih (CY ha hy) (by rw[hl];exact o) (P.good g1) k1⟩
   ·exact k1.oH.elim
  |_=>exact k1.oH.elim
theorem G1{es:af aI}(h:∀e∈es,SimT T c env A (eval e env) (λs=>oO c e s)):Each (SimT T c env A) (evalEach es env) (pk c es):=by
 induction es with
 |nil=>exact .nil
 |cons x r ih=>exact .cons (h x az) (ih λy hy=>h y (aA _ hy))
theorem Bs{es:af aI}{pos:Pos}(h:∀e∈es,SimT T c env A (eval e env) (λs=>oO c e s)):SimT T c env A (eval (.JoinedStr es pos) env) (λs=>oO c (.JoinedStr es pos) s):=λD φ st s Q E P k=>by
 dsimp only at k;simp only[Ej]at k;have S:=G1 h;rcases es with _|⟨e1,_|⟨e2,r⟩⟩
 ·exact ET S yO (bL _) P k
 ·refine JoinedStr_one (h e1 az _ _ _ _ _ _ P ?_);simp only[rY,wD]at k;refine K.bind k λv o mv M O z e1 g1 H k1=>?_;cases H with
  |str y t hy =>
   dsimp only at k1;refine(let C:Prop:=_;(?_:C))
   split at k1
   ·refine k1.ok (P.good g1).here ?_
    have:cM++y=y:=by
     refine(?_:Str.mk (#[]++y.cps)=y);simp
    exact(this).symm▸(.str _ _ hy)
   ·exact k1.oH.elim
  |_=>exact k1.oH.elim
 ·exact JoinedStr_many (ET S yO (bL _) P k)
end
section
variable{T:pg}{D:oN}{h h':bP}
theorem oN.In.slots(x:D.In T h){S:af ay}(hs:mM S h h')(hS:∀a∈S,(∃m,D a=some (.ns m))\/∃o,D a=some (.kp o)):D.In T h':=λa sp e=>by
 refine(let C:Prop:=_;(?_:C))
 by_cases ha:a∈S
 ·refine(hS a ha).elim (λy=>?_) (λz=>?_)
  ·obtain⟨m,h1⟩:=y;rw[h1]at e;obtain rfl:=ai e;refine za (x a _ h1) λo es ep ho hd r=>?_;refine p8 (hs.2.2 a o ho) λM e'=>?_;exact zE _ es ep e' hd r
  ·obtain⟨o,h1⟩:=z;rw[h1]at e;obtain rfl:=ai e;refine p8 (x a _ h1) λM ho=>?_;refine p8 (hs.2.2 a _ ho) λH e'=>?_;exact⟨H,e'⟩
 ·exact(x a sp e).at λo ho=>(hs.2.1 a ha).trans ho
theorem oN.In.other(x:D.In T h){t:ay}(hn:D t=none)(hs:∀a o,a≠t->h.get? a=some o->h'.get? a=some o):D.In T h':=λa sp e=>by
 have:a≠t:=by rintro rfl;rw[hn]at e;exact(nS e).elim
 exact(x a sp e).at λo ho=>hs a o this ho
theorem oN.In.xc (x:D.In T h) {e d:ay} {vs:bx ag} {y:bx (au ag)} (hx:D e=some (.xc d)) (hs:∀a o,a≠e->h.get? a=some o->h'.get? a=some o)
  (z:h'.get? e=some {cls:=.ref T.Eb,dict:=some d,data:=.fields vs,slots:=y}) (hz:1<vs.size):D.In T h':=λa sp q=>by
 by_cases ha:a=e
 ·subst ha;rw[hx]at q;obtain rfl:=ai q;exact uL vs y z hz
 ·exact(x a sp q).at λo ho=>hs a o ha ho
end
section
variable{T:pg}{D D':oN}{φ ph:af ay}{c:MC}{env:Env}{A:aX}{st tm:St}{s s':ah}{E:ag->ah->Prop}
theorem JL.frames(x:JL D env A)(I:D.In T s.heap)(hb:∀a o,T.b.get? a=some o->D a=some (.fz o))(hl:∃m,D env.locals=some (.ns m)) :
  ∃H M L,A.frames=some (H::M)/\H.frame=env.frame/\env.frame=some L/\s.heap.FunFrames T.b (H::M) /\
   ∀a∈(H::M).filterMap (·.frame),(∃m,D a=some (.ns m))\/∃o,D a=some (.kp o):=by
 refine(let C:Prop:=_;(?_:C))
 refine sF (x) λH M h1 h2 U=>?_;refine p8 (hl) λm hm=>?_
 have key:∀e∈H::M,e.scope.kind≠.module/\∃L,e.frame=some L/\((∃m,D L=some (.ns m))\/∃o es ep,D L=some (.kp o)/\o.data=.dict es ep):=λe O=>by
  refine(let C:Prop:=_;(?_:C))
  obtain⟨k,L,f,z⟩:=U e O;exact⟨k,L,f,z.imp (λq=>⟨m,by rw[q];exact hm⟩) id⟩
 obtain⟨_,L,hL,_⟩:=key H az;refine YO H M L h1 h2 (h2▸hL) ?_ (λa ha=>?_)
 ·have all:∀l:af Env,(∀e∈l,e∈H::M)->s.heap.FunFrames T.b l:=λl=>by
   induction l with
   |nil=>intro _;trivial
   |cons e r ih =>
    intro hl;obtain⟨k,L',f,z⟩:=key e (hl e az);refine qB k ?_ (ih λy hy=>hl y (aA _ hy))
    have hn:T.b.get? L'=none:=by
     cases q:T.b.get? L' with
     |none=>rfl
     |some o =>
      have:=hb _ _ q;refine(let C:Prop:=_;(?_:C))
      rcases z with⟨Y,z⟩|⟨o',_,_,z,_⟩<;>rw[this]at z<;>cases z
    refine(let C:Prop:=_;(?_:C))
    rcases z with⟨Y,z⟩|⟨o',es,ep,z,hd⟩
    ·refine za (I _ _ z) λo es ep ho hd u_=>?_;exact Pl L' o f hn ho (λvs q=>by rw[hd]at q;cases q)
    ·refine p8 (I _ _ z) λsl ho=>?_;exact Pl L' _ f hn ho (λvs q=>by change o'.data=_ at q;rw[hd]at q;cases q)
  exact all _ λe O=>O
 ·refine o8 (List.mem_filterMap.mp ha) λe O hf=>?_;obtain⟨_,L',f,z⟩:=key e O;rw[f]at hf;obtain rfl:=ai hf;exact z.imp id λ⟨o,_,_,q,_⟩=>⟨o,q⟩
theorem G2 {Q:ag->ah->Prop} (x:JL D env A) (I:D.In T s.heap) (hb:∀a o,T.b.get? a=some o->D a=some (.fz o)) (hl:∃m,D env.locals=some (.ns m))
  (h:∀L h',mM [L] h' h'->D.In T h'->(∀a o,(∀m,D a≠some (.ns m))->(∀o,D a≠some (.kp o))->s.heap.get? a=some o->h'.get? a=some o)->h'.objs.size=s.heap.objs.size->Q (.ref L) {s with heap:=h'}):wpAny (model T.prog T.w) A (mE env) Q E s:=by
 refine Lq (x.frames I hb hl) λz C L h1 h2 Y h4 U=>?_;refine ae (wpAny_frameEnvs h1 ?_);have hdw:((z::C).dropWhile λx=>x.frame != env.frame)=z::C:=by simp[List.dropWhile,h2]
 refine rg (hdw) ?_;refine ae (ae (wpAny_readyFrames_fun h4 λH y=>aj ?_));refine(h2).symm▸?_;refine(Y).symm▸?_;refine aj (h L H (.refl ..) (I.slots y U) (λa o n1 n2 e=>?_) y.1);refine(y.2.1 a λha=>?_).trans e;refine(U a ha).elim (λM=>?_) (λO=>?_)
 ·obtain⟨m,q⟩:=M;exact n1 _ q
 ·obtain⟨o,q⟩:=O;exact n2 _ q
noncomputable def zf(T:pg)(D:oN)(h:bP)(e:ay):Prop :=
 ∃d vs y,D e=some (.xc d)/\h.get? e=some {cls:=.ref T.Eb,dict:=some d,data:=.fields vs,slots:=y} /\
  ∃t ot o,vs[1]?=some (.ref t)/\D t=none/\h.get? t=some ot/\ot.data=.fields o/\3<o.size
theorem zf.Mq{h:bP}{e:ay}(x:zf T D h e):Px T D h e:=za x λd vs o a b c=>zE d vs o a b (.inr c)
theorem zf.L6{e:ay}(x:zf T D s.heap e):Px T D s.heap e:=x.Mq
theorem xn {Q:cV->ah->Prop} {e:ay} (x:JL D env A) (I:D.In T s.heap) (hb:∀a o,T.b.get? a=some o->D a=some (.fz o)) (hl:∃m,D env.locals=some (.ns m)) (hf:Px T D s.heap e)
  (h:∀h',D.In T h'->zf T D h' e->Q () {s with heap:=h'}):wpAny (model T.prog T.w) A (noteFrame (.ref e) env) Q E s:=by
 refine Lq (x.frames I hb hl) λMr outer L h1 h2 h3 h4 h5=>?_;refine za (hf) λd vs sl hx he hv=>?_;refine tW (I _ _ hx) λu_ u_ he' hz=>?_;rw[he]at he';cases he'
 have entry:∀(head:ag)(b:aN)(H:bP),D.In T H->H.get? e=some {cls:=.ref T.Eb,dict:=some d,data:=.fields vs,slots:=sl} ->
   wpAny (model T.prog T.w) A (do let a <- mE env;let pl <- entryPlaceOf L b;let b <- EntryCells.newEntry head a .none (c7 L) .none pl;setField (.ref e) 1 b) Q E {s with heap:=H}:=λhead b H Y3 U=>by
  refine ae (G2 x Y3 hb hl λL' y u_ O k₁ acu=>?_);refine ae (wpAny_entryPlaceOf λpl Pc=>?_);refine ae (aV ?_ (Pc.sizeOk5 _ _ _ _ _));have B6:y.get? e=some {cls:=.ref T.Eb,dict:=some d,data:=.fields vs,slots:=sl}:=k₁ e _ (λm q=>by rw[hx]at q;cases q) (λo q=>by rw[hx]at q;cases q) U
  have z:=aq (h:=y) {cls:=.type "traceback", dict:=none,data:=.fields ([head,.ref L',.none,c7 L,.none]++(if pl.isEmpty then js 6 cf else pl)).toArray} B6
  refine cv z rfl hz (h _ ?_ ?_)
  ·have xo:=bS (o:={cls:=.ref T.Eb,dict:=some d,data:=.fields vs,slots:=sl}) rfl (·.setIfInBounds 1 (aH y.objs.size));have C:=bu (da (·.setIfInBounds 1 (aH y.objs.size))) z (b6 xo);exact(O.push _).xc hx (λa o ha ho=>rg (cu _ _ (b3 ha)) ho) C (by simpa using hz)
  ·have xo:=bS (o:={cls:=.ref T.Eb,dict:=some d,data:=.fields vs,slots:=sl}) rfl (·.setIfInBounds 1 (aH y.objs.size));have C:=bu (da (·.setIfInBounds 1 (aH y.objs.size))) z (b6 xo);have sx:e≠y.objs.size:=a5 (aS B6)
   have Y:=(cu (y.push {cls:=.type "traceback", dict:=none,data:=.fields ([head,.ref L',.none,c7 L,.none]++(if pl.isEmpty then js 6 cf else pl)).toArray})
    (da (·.setIfInBounds 1 (aH y.objs.size))) sx).trans (aF y rfl)
   exact zE d _ _ hx C ⟨y.objs.size,_,_,by simp[hz],O.fresh,Y,rfl,by simp⟩
 unfold noteFrame;simp only[h3];refine(hv).elim (λhv=>?_) (λPN=>?_)
 ·refine ae (bg he rfl hv ?_);exact entry _ _ _ I he
 ·refine Lq (PN) λt ot ts hv M VJ J5 VK=>?_;refine ae (bg he rfl hv ?_);refine ae (bg VJ J5 (x:=ts[3]) (by simp[VK]) ?_)
  split
  ·exact aj (h _ I (zE d vs sl hx he ⟨t,ot,ts,hv,M,VJ,J5,VK⟩))
  ·refine ae (cv VJ J5 VK ?_);have Wm:e≠t:=by rintro rfl;rw[hx]at M;exact(nN M).elim
   exact entry _ _ _ (I.other M λa o ha ho=>rg (cu _ _ (b3 ha)) ho) ((cu _ _ (b3 Wm)).symm▸he)
theorem B7{Q:cV->ah->Prop}{e:ay}{f:au ay}(I:D.In T s.heap)(hf:Px T D s.heap e)(h:∀h',D.In T h'->Px T D h' e->Q () {s with heap:=h'}):wpAny (model T.prog T.w) A (setFlight (.ref e) f) Q E s:=by
 refine(let C:Prop:=_;(?_:C))
 refine za (hf) λd vs U hx M hv=>?_;refine(hv).elim (λhv=>?_) (λO=>?_)
 ·refine ae (bg M rfl hv ?_);exact aj (h _ I (zE d vs U hx M (.inl hv)))
 ·refine Lq (O) λt ot Y hv y z J5 H=>?_;refine ae (bg M rfl hv ?_);have Wm:e≠t:=by rintro rfl;rw[hx]at y;exact(nN y).elim
  have xo:=bS J5 (·.setIfInBounds 3 (f.elim cf λf=>c7 f));have Ms:=bu (da (·.setIfInBounds 3 (f.elim cf λf=>c7 f))) z (b6 xo);refine cv z J5 H (h _ (I.other y λa o ha ho=>(cu _ _ (b3 ha)).symm▸ho) (zE d vs U hx ((cu _ _ (b3 Wm)).symm▸M) (.inr ⟨t,_,_,hv,y,Ms,xo,by simpa using H⟩)))
theorem uS{Q:cV->ah->Prop}{e:ay}{f:au ay}(I:D.In T s.heap)(hf:zf T D s.heap e)(h:∀h',D.In T h'->zf T D h' e->Q () {s with heap:=h'}):wpAny (model T.prog T.w) A (setFlight (.ref e) f) Q E s:=by
 refine(let C:Prop:=_;(?_:C))
 obtain⟨d,vs,sl,hx,he,t,ot,ts,hv,Yq,VJ,J5,VK⟩:=hf;refine ae (bg he rfl hv ?_);have Wm:e≠t:=by rintro rfl;rw[hx]at Yq;exact(nN Yq).elim
 have xo:=bS J5 (·.setIfInBounds 3 (f.elim cf λf=>c7 f));have Ms:=bu (da (·.setIfInBounds 3 (f.elim cf λf=>c7 f))) VJ (b6 xo);refine cv VJ J5 VK (h _ (I.other Yq λa o ha ho=>rg (cu _ _ (b3 ha)) ho) ⟨d,vs,sl,hx,by rw[cu _ _ (b3 Wm)];exact he,t,_,_,hv,Yq,Ms,xo,by simpa using VK⟩)
theorem yP{e:ay}(I:D.In T s.heap)(hf:zf T D s.heap e)(h:∀h',D.In T h'->zf T D h' e->E (.ref e) {s with heap:=h'}):iP (model T.prog T.w) A env E (.ref e) s:=by
 refine(let C:Prop:=_;(?_:C))
 obtain⟨d,vs,sl,hx,he,t,ot,ts,hv,hr⟩:=id hf;refine ae (bg he rfl hv ?_);exact uS I hf h
theorem J6{y:Type}{o:cR}{Q:y->ah->Prop}{e:ay}(I:D.In T s.heap)(hf:zf T D s.heap e)(h:∀h',D.In T h'->zf T D h' e->E (.ref e) {s with heap:=h'}):wpAny (model T.prog T.w) A (mX o (.ref e) env:Sem y) Q E s:=by
 refine(let C:Prop:=_;(?_:C))
 obtain⟨d,vs,sl,hx,he,t,ot,ts,hv,hr⟩:=id hf;refine ae (bg he rfl hv ?_);exact ae (uS I hf λh' a b=>jI (h h' a b))
theorem G3 {Q:cV->ah->Prop} {e:ay} (x:JL D env A) (I:D.In T s.heap) (hb:∀a o,T.b.get? a=some o->D a=some (.fz o)) (hl:∃m,D env.locals=some (.ns m)) (hf:Px T D s.heap e)
  (h:∀h',D.In T h'->Px T D h' e->Q () {s with heap:=h'}):wpAny (model T.prog T.w) A (leaving env (.ref e)) Q E s:=by
 exact ae (xn x I hb hl hf λO y z=>B7 y z.Mq λC H M=>h C H M)
end
theorem uh:∀(names:af (Str×bM)) (n:Nat) (acc:af (Str×ay)) (x:Str),(acc.lookup x).isSome=true->((fN n names acc).lookup x).isSome=true
 |[],n,acc,x,h=>h
 |(name,kind)::r,n,acc,x,h=>by
  unfold fN;split
  ·refine uh r _ _ x ?_;rw[aU];split
   ·rfl
   ·exact h
  ·exact uh r _ _ x h
theorem cellsFrom_some:∀(names:af (Str×bM)) (n:Nat) (acc:af (Str×ay)) (x:Str),names.lookup x=some .cell->((fN n names acc).lookup x).isSome=true
 |[],n,acc,x,h=>by cases h
 |(name,kind)::r,n,acc,x,h=>by
  unfold fN;rw[aU]at h;by_cases hx:x=name
  ·subst hx;simp only[cC]at h;cases h;rw[aO (by decide)]
   exact uh r _ _ x (by simp[aU])
  ·have hb:(x==name)=false:=beq_eq_false_iff_ne.mpr hx;simp only[hb]at h;split<;>exact cellsFrom_some r _ _ x h
theorem tw:∀(names:af (Str×bM)) (n:Nat) (acc:af (Str×ay)),(names.map (·.1)).Nodup->(acc.map (·.1)).Nodup->(∀x∈names.map (·.1),x∉acc.map (·.1))->((fN n names acc).map (·.1)).Nodup
 |[],n,acc,_,h,_=>h
 |(name,kind)::r,n,acc,h1,h2,h3=>by
  unfold fN;rw[a6,cN]at h1;split
  ·refine tw r _ _ h1.2 ?_ λx hx=>?_
   ·rw[a6,cN];exact⟨h3 name az,h2⟩
   ·rw[a6,bk,gR];exact⟨λe=>h1.1 (e▸hx),h3 x (aA _ hx)⟩
  ·exact tw r _ _ h1.2 h2 λx hx=>h3 x (aA _ hx)
theorem zY(k:Str->au bM):∀(binds:af (Str×ag)) (m:Str->au ag) (x:Str),x∉binds.map (·.1)->bindL k binds m x=m x
 |[],m,x,_=>rfl
 |(n,v)::r,m,x,h=>by
  rw[a6,bk,gR]at h;rw[bindL,zY k r _ x h.2];split
  ·exact aT h.1
  ·rfl
theorem zZ(k:Str->au bM):∀(binds:af (Str×ag)) (m:Str->au ag) (x:Str) (v:ag),(binds.map (·.1)).Nodup->k x=some .local->binds.lookup x=some v->bindL k binds m x=some v
 |[],m,x,v,_,_,h=>by cases h
 |(n,u)::r,m,x,v,hn,hk,h=>by
  rw[a6,cN]at hn;rw[aU]at h;rw[bindL];by_cases hx:x=n
  ·subst hx;simp only[cC]at h;cases h;rw[zY k r _ x hn.1,aO hk];exact aO rfl
  ·have hb:(x==n)=false:=beq_eq_false_iff_ne.mpr hx;simp only[hb]at h;exact zZ k r _ x v hn.2 hk h
theorem z0(k:Str->au bM):∀(binds:af (Str×ag)) (m:Str->au ag) (x:Str),x∉binds.map (·.1)->bindC k binds m x=m x
 |[],m,x,_=>rfl
 |(n,v)::r,m,x,h=>by
  rw[a6,bk,gR]at h;rw[bindC,z0 k r _ x h.2];split
  ·rfl
  ·exact aT h.1
theorem z6(k:Str->au bM):∀(binds:af (Str×ag)) (m:Str->au ag) (x:Str) (v:ag),(binds.map (·.1)).Nodup->k x≠some .local->binds.lookup x=some v->bindC k binds m x=some v
 |[],m,x,v,_,_,h=>by cases h
 |(n,u)::r,m,x,v,hn,hk,h=>by
  rw[a6,cN]at hn;rw[aU]at h;rw[bindC];by_cases hx:x=n
  ·subst hx;simp only[cC]at h;cases h;rw[z0 k r _ x hn.1,aT hk];exact aO rfl
  ·have hb:(x==n)=false:=beq_eq_false_iff_ne.mpr hx;simp only[hb]at h;exact z6 k r _ x v hn.2 hk h
noncomputable def Sp.locked(h:bP)(a:ay)(sp:Sp):au Sp:=match sp with
 |.ns _=>(h.get? a).map .kp
 |.cell _=>(h.get? a).map .kp
 |.own _ _=>(h.get? a).map .lk
 |_=>some sp
noncomputable def oN.lock(D:oN)(h:bP):oN:=λa=>(D a).bind (Sp.locked h a)
noncomputable def Sp.tx:Sp->aN
 |.ns _|.cell _|.own _ _=>true
 |_=>false
theorem oN.wJ{D:oN}{h:bP}{a:ay}(hn:∀sp,D a=some sp->sp.tx=false):D.lock h a=D a:=by
 unfold oN.lock;cases e:D a with
 |none=>rfl
 |some sp=>have:=hn sp e;cases sp<;>first|rfl|exact(cj this.symm).elim
theorem oN.CZ{T:pg}{D:oN}{h:bP}(I:D.In T h):(D.lock h).In T h:=λa sp e=>by
 refine(let C:Prop:=_;(?_:C))
 refine qH e λy q e=>?_
 induction y using Sp.casesOn with
 |ns m=>obtain⟨o,ho,rfl⟩:=Option.map_eq_some_iff.mp e;exact⟨o.slots,ho⟩
 |cell v=>obtain⟨o,ho,rfl⟩:=Option.map_eq_some_iff.mp e;exact⟨o.slots,ho⟩
 |own x vs=>obtain⟨o,ho,rfl⟩:=Option.map_eq_some_iff.mp e;exact ho
 |_=>obtain rfl:=ai e;exact I a _ q
theorem Sp.uT{sp:Sp}(h:sp.stays=true):sp.tx=false:=by cases sp<;>first|rfl|cases h
noncomputable def oN.back(D D₂:oN):oN:=λa=>match D a with
 |some (.ns m)=>some (.ns m)
 |some (.cell v)=>some (.cell v)
 |some (.own x vs)=>some (.own x vs)
 |_=>match D₂ a with
  |some (.own _ _)=>none
  |r=>r
theorem oN.r4{D D₂:oN}{a:ay}{sp:Sp}(e:D a=some sp)(h:sp.tx=true):D.back D₂ a=some sp:=by
 unfold oN.back
 induction sp using Sp.casesOn with
 |ns m=>exact rg (e ..) rfl
 |cell v=>exact rg (e ..) rfl
 |own y vs=>exact rg (e ..) rfl
 |_=>exact(nF h).elim
theorem oN.wK{D D₂:oN}{a:ay}(h:∀sp,D a=some sp->sp.tx=false):(D.back D₂ a=D₂ a/\∀x vs,D₂ a≠some (.own x vs))\/(D.back D₂ a=none/\∃x vs,D₂ a=some (.own x vs)):=by
 have key:(match D₂ a with|some (.own _ _)=>none|r=>r)=D.back D₂ a:=by
  unfold oN.back;cases e:D a with
  |none=>rfl
  |some sp=>have:=h sp e;cases sp<;>first|rfl|cases this
 refine(key)▸?_;cases e:D₂ a with
 |none=>exact .inl ⟨rfl,λx vs h=>by cases h⟩
 |some sp=>cases sp<;>first|exact .inl ⟨rfl,λx vs h=>by cases h⟩|exact .inr ⟨rfl,_,_,rfl⟩
theorem oN.uU{D D₂:oN}{a:ay}(h:∀sp,D a=some sp->sp.tx=false)(h2:∀x vs,D₂ a≠some (.own x vs)):D.back D₂ a=D₂ a:=by
 refine(let C:Prop:=_;(?_:C))
 refine(oN.wK (D₂:=D₂) h).elim (λo=>?_) (λy=>?_)
 ·obtain⟨e,_⟩:=o;exact e
 ·obtain⟨_,x,vs,e⟩:=y;exact absurd e (h2 x vs)
theorem oN.yo(D D₂:oN):D.Back (D.back D₂):=λa x vs e=>by
 refine(let C:Prop:=_;(?_:C))
 by_cases hm:∃o,D a=some o/\o.tx=true
 ·refine o8 (hm) λo e' hm=>?_;rw[oN.r4 e' hm]at e;obtain rfl:=ai e;exact⟨_,e'⟩
 ·refine(oN.wK (D₂:=D₂) (λo e'=>by cases q:o.tx with|false=>rfl|true=>exact absurd (o5 o e' q) hm)).elim (λy=>?_) (λz=>?_)
  ·obtain⟨e1,e2⟩:=y;rw[e1]at e;exact absurd e (e2 _ _)
  ·obtain⟨e1,_⟩:=z;rw[e1]at e;exact(nS e).elim
section
variable{T:pg}{D D₁ D₂:oN}{h z7:bP}{φ Iw:af ay}
structure qp(T:pg)(D D₂:oN)(h z7:bP):Prop where
 Iy:D.In T h
 Iz:D₂.In T z7
 le:(D.lock h).Le D₂
theorem qp.tx(x:qp T D D₂ h z7){a:ay}{sp:Sp}(e:D a=some sp)(hm:sp.tx=true):(∃o,D₂ a=some (.kp o))\/∃o,D₂ a=some (.lk o):=by
 refine(let C:Prop:=_;(?_:C))
 refine p8 ((x.Iy a sp e).get) λo ho=>?_
 induction sp using Sp.casesOn with
 |ns m=>exact .inl ⟨o,x.le a _ (by unfold oN.lock;rw[e];exact aD (cO _) ho) rfl⟩
 |cell v=>exact .inl ⟨o,x.le a _ (by unfold oN.lock;rw[e];exact aD (cO _) ho) rfl⟩
 |own y vs=>exact .inr ⟨o,x.le a _ (by unfold oN.lock;rw[e];exact aD (cO _) ho) rfl⟩
 |_=>exact(nF hm).elim
theorem qp.stays(x:qp T D D₂ h z7){a:ay}{sp:Sp}(e:D a=some sp)(hs:sp.stays=true):D₂ a=some sp :=
 x.le a sp ((oN.wJ λo e'=>by rw[e]at e';cases e';exact Sp.uT hs).trans e) hs
theorem qp.t9(x:qp T D D₂ h z7):D.Le (D.back D₂):=λa sp e hs=>by
 refine rg (oN.uU (λo e'=>by rw[e]at e';cases e';exact Sp.uT hs) (λy vs q=>by rw[x.stays e hs]at q;obtain rfl:=ai q;cases hs)) ?_
 exact x.stays e hs
theorem qp.back_in(x:qp T D D₂ h z7):(D.back D₂).In T z7:=λa sp e=>by
 refine(let C:Prop:=_;(?_:C))
 by_cases hm:∃z,D a=some z/\z.tx=true
 ·refine o8 (hm) λz e' hm=>?_;replace e:=(oN.r4 e' hm)▸e;cases e;have hh:=x.Iy a _ e'
  induction sp using Sp.casesOn with
  |ns m =>
   refine za (hh) λo es ep ho hd r=>?_;have:D₂ a=some (.kp o):=x.le a _ (by unfold oN.lock;rw[e'];exact aD (cO _) ho) rfl
   refine p8 (x.Iz a _ this) λM q=>?_;exact zE _ es ep q hd r
  |cell v =>
   refine o8 (hh) λo ho hd=>?_;have:D₂ a=some (.kp o):=x.le a _ (by unfold oN.lock;rw[e'];exact aD (cO _) ho) rfl
   refine p8 (x.Iz a _ this) λM q=>?_;exact o5 _ q hd
  |own y vs =>
   refine p8 (hh) λn ho=>?_;have:D₂ a=some (.lk _):=x.le a _ (by unfold oN.lock;rw[e'];exact aD (cO _) ho) rfl
   exact⟨n,x.Iz a _ this⟩
  |_=>exact(nF hm).elim
 ·refine(oN.wK (D₂:=D₂) (λz e'=>by cases q:z.tx with|false=>rfl|true=>exact absurd (o5 z e' q) hm)).elim (λA=>?_) (λH=>?_)
  ·obtain⟨e1,e2⟩:=A;replace e:=(e1)▸e;exact x.Iz a sp e
  ·obtain⟨e1,_⟩:=H;replace e:=(e1)▸e;exact(nS e).elim
theorem qp.C0(x:qp T D D₂ h z7){a:ay}{sp:Sp}(e:D₂ a=some sp)(h1:∀o,sp≠.kp o)(h2:∀o,sp≠.lk o)(C:∀y vs,sp≠.own y vs):D.back D₂ a=some sp:=by
 rw[oN.uU (λA e'=>?_) (λy vs q=>by rw[e]at q;obtain rfl:=ai q;exact C _ _ rfl)]
 ·exact e
 ·cases q:A.tx with
  |false=>rfl
  |true =>
       rcases x.tx e' q with⟨o,z⟩|⟨o,z⟩<;>rw[e]at z<;>cases z
       ·exact absurd rfl (h1 _)
       ·exact absurd rfl (h2 _)
theorem qp.vY(x:qp T D D₂ h z7):D₂.Vl (D.back D₂):=λa sp e hs=>x.C0 e (by rintro o rfl;cases hs) (by rintro o rfl;cases hs) (by rintro y vs rfl;cases hs)
theorem qp.z8(x:qp T D D₂ h z7){σ:af Cell}(c:px T D₂ Iw σ):px T (D.back D₂) Iw σ :=
 c.vl x.vY λa z e=>x.C0 e (by rintro o q;cases q) (by rintro o q;cases q) (by rintro y vs q;cases q)
variable{c:MC}{env:Env}{st:St}
theorem qp.yq(x:qp T D D₂ h z7)(L:Link T D φ c env st){A:af ay}(hp:φ <+: A){σ:af Cell}(hc:px T (D.back D₂) A σ):Link T (D.back D₂) A c env {st with σ:=σ} where
 locals:=let⟨m,e⟩:=L.locals;⟨m,oN.r4 e rfl⟩
 vars:=λy b e n=>by
  refine o8 (L.vars y b e n) λmv p q=>?_;refine o5 mv ?_ ?_
  ·refine(let C:Prop:=_;(?_:C))
   refine(p).elim (λM=>?_) (λO=>?_)
   ·obtain⟨a,m,b,d⟩:=M;exact .inl ⟨a,m,oN.r4 b rfl,d⟩
   ·obtain⟨a,H,b,d⟩:=O;exact .inr ⟨a,H,b,oN.r4 d rfl⟩
  ·cases q with
   |val r=>exact .val (r.vl x.t9.vl hp)
   |own o z r=>exact .own (oN.r4 o rfl) z (r.vl x.t9.vl hp)
 p6:=λy e=>let⟨H,v,p,q⟩:=L.p6 y e;(uL H v p (oN.r4 q rfl))
 free:=λy v e=>let⟨H,o,mv,p,q,r,z⟩:=L.free y v e;(zF H o mv p (x.t9 _ _ q rfl) r (z.vl x.t9.vl hp))
 cells:=hc
theorem px.cut{σ:af Cell}(x:px T D Iw σ)(hp:φ <+: Iw){n:Nat}(hn:n=φ.length):px T D φ (σ.take n):=by
 refine(let C:Prop:=_;(?_:C))
 obtain⟨r,rfl⟩:=hp;have hl:=x.len;replace hl:=(av)▸hl;refine⟨by rw[dZ];exact(gF (aB (ak hn) (aB (bJ _ _) (ak hl)))).trans hn |>.symm,(List.nodup_append.mp x.nodup).1,λi cl e=>?_⟩
 have hi:i<n:=by
  refine(let C:Prop:=_;(?_:C))
  have:=(List.getElem?_eq_some_iff.mp e).1;simp only[dZ]at this;exact uJ (.a .x (.n 1)) .y .y .z (.a .x (.n 1)) .z rfl this (ji _ _)
 rw[fQ hi]at e;refine tW (x.get i cl e) λa o p q=>?_;exact uL a o (by rw[bW (by exact uJ .x .y (.a .z (.n 1)) .x (.a .z (.n 1)) .y rfl (ak hn) hi)]at p;exact p) q
end
noncomputable def sC(T:pg):oN->af ay->kZ->Fl->Prop:=λD φ f x=>match f,x with
 |.next,.next=>fh
 |.ret mv,.ret v=>oR T D φ mv v
 |_,_=>eu
noncomputable def ui(T:pg)(c:MC)(env:Env)(A:aX)(t:Sem kZ)(f:St->R Fl):Prop :=
 ∀D φ st s (Q:kZ->ah->Prop) (E:ag->ah->Prop),pI T D φ c env A st s->KX T D φ c env (sC T) (f st) Q E->wpAny (model T.prog T.w) A t Q E s
noncomputable def IA(cc:MC)(fn:Fn)(vs:af V)(st:St):R V:=match pS st.σ.length (o7 cc fn.body ⟨qd fn.params vs++qF fn.params fn.names,st.σ⟩)with
 |.ok v s'=>.ok v {st with σ:=s'.σ}
 |.rQ w p σ=>.rQ w p σ
 |.stuck=>.stuck
theorem G4{y o:Type}{f:y->o->Prop}:∀{ps:af Str} {as:af y} {bs:af o} {x:Str} {b:o},Each f as bs->(ps.zip bs).lookup x=some b->∃a,(ps.zip as).lookup x=some a/\f a b:=by
 intro ps
 induction ps with
 |nil=>intro as bs x b _ h;simp at h
 |cons p ps ih =>
  intro as bs x b e h;cases e with
  |nil=>simp at h
  |cons Tf r =>
   simp only[de,aU]at h;simp only[de,aU];split at h
   ·refine(let C:Prop:=_;(?_:C))
    cases h;exact⟨_,rfl,Tf⟩
   ·exact ih r h
theorem vE{o y:Type}(f:o->y):∀(ps:af Str)(as:af o)(x:Str),(ps.zip (as.map f)).lookup x=((ps.zip as).lookup x).map f
 |[],_,x=>rfl
 |p::ps,[],x=>rfl
 |p::ps,a::as,x=>by
  rw[a6,de,de,aU,aU];split
  ·rfl
  ·exact vE f ps as x
section
variable{T:pg}{D D':oN}{φ ph:af ay}{c:MC}{env:Env}{A:aX}{st tm:St}{s s':ah}{Q:ag->ah->Prop}{E:ag->ah->Prop}
theorem oK.each{mvs:af ag}{vs:af V}(x:oK T D φ mvs vs):Each (λm v=>oR T D φ m v) mvs vs:=by
 refine(let C:Prop:=_;(?_:C))
 induction vs generalizing mvs with
 |nil=>cases x;exact .nil
 |cons v r ih=>cases x with|cons a b=>exact .cons a (ih b)
theorem z9{o:Type}{ps:af Str}{as:af o}(h:ps.Nodup):((ps.zip as).map (·.1)).Nodup:=by
 induction ps generalizing as with
 |nil=>simp
 |cons p ps ih =>
  induction as using bN with
  |nil=>simp
  |cons a as =>
   simp only[cN]at h;simp only[de,a6,cN];refine⟨λhm=>?_,ih h.2⟩;refine o8 (List.mem_map.mp hm) λq y e=>?_;exact h.1 ((show q.1=p from e)▸(gB (a:=q.1) (b:=q.2) y).1)
noncomputable def sR(D:oN)(h:bP)(L:ay)(m:Str->au ag)(cells:af (Str×ay))(o:Str->au ag):oN:=λa =>
 if a=L then some (.ns m)else match cells.find? (λp=>p.2==a)with
  |some p=>some (.cell (o p.1))
  |none=>D.lock h a
theorem yQ{D:oN}{h:bP}{L a:ay}{m:Str->au ag}{cells:af (Str×ay)}{o:Str->au ag}{sp:Sp}{C:Prop}(e:sR D h L m cells o a=some sp)(k1:a=L->sp=.ns m->C)(k2:∀p∈cells,p.2=a->sp=.cell (o p.1)->C)(y:D.lock h a=some sp->C):C:=by
 delta sR at e;by_cases q:a=L
 ·rw[aO q]at e;exact k1 q (ai e).symm
 ·rw[aT q]at e;cases f:cells.find? (λp=>p.2==a)with
  |none=>rw[f]at e;exact y e
  |some p=>rw[f]at e;exact k2 p (dk f) (beq_iff_eq.mp (gC (p:=λp:Str×ay=>p.2==a) f)) (ai e).symm
theorem Sp.G5{h:bP}{a:ay}{sp:Sp}{x:Str}{vs:af ag}(e:Sp.locked h a sp=some (.own x vs)):eu:=by
 cases sp with
 |ns m=>exact o8 (Option.map_eq_some_iff.mp e) λo u_ h=>by cases h
 |cell v=>exact o8 (Option.map_eq_some_iff.mp e) λo u_ h=>by cases h
 |own y z=>exact o8 (Option.map_eq_some_iff.mp e) λo u_ h=>by cases h
 |_=>cases e
set_option backward.match.sparseCases true in
set_option tactic.hygienic true in
theorem Mt {T:pg} {A:aX} {s:ah} {Q:ag->ah->Prop} {E:ag->ah->Prop} {D:oN} {φ:af ay} (top:Ir T) (hh:A.handled=none) {fn:Fn} {fa:ay} (hf:FnAt T fn fa) {cc:MC} (Y4:cc.g=T.g) (H:cc.names=fn.names) (Wn:cc.free=[]) (hd:A.depth+11<cy) (hu:A.units+703<iq)
  (Mu:D.In T s.heap) (stays:T.b.StaysIn s.heap) (U:∀a o,T.b.get? a=some o->D a=some (.fz o)) {σ:af Cell} (cells:px T D φ σ) (hg:s.gens=T.gens) (Y5:s.os=T.os) {mvs:af ag} {vs:af V} (r:oK T D φ mvs vs) (pd:fn.params.length=vs.length)
  (Y6:∀D₁ env',(D.lock s.heap).Le D₁->D.Le D₁->env'.locals=s.heap.objs.size->env'.frame=some s.heap.objs.size->env'.scope.kind=.function->JL D₁ env' (A.deeper env'))
  (go:∀env' D₁ M,(D.lock s.heap).Le D₁->qi T cc env' (A.deeper env')->pI T D₁ φ cc env' (A.deeper env') ⟨qd fn.params vs++qF fn.params fn.names,σ⟩ M ->
   wpAny (model T.prog T.w) (A.deeper env') (execs fn.body env') (λf s'=>Q (match f with|.ret v=>v|_=>.none) s') (λe s'=>wpAny (model T.prog T.w) (A.deeper env') (leaving env' e) (λu_ Y=>E e Y) (λe' Y=>E e' Y) s') M):wpAny (model T.prog T.w) A (call (.ref fa) mvs) Q E s:=by
 refine(let C:Prop:=_;(?_:C))
 obtain⟨o,fd,ho,Ln,Sk,hd3,hd4,Yr,hd6,Y7,hd8,hd9,G6,Y8⟩:=hf.obj;have Y9:mvs.length=fn.params.length:=rg (r.length ..) (rg (pd ..) rfl);have Za:=hf.names;have VI:∀x n,fd.scope.names.lookup x=some .cell->((fN n fd.scope.names []).lookup x).isSome=true:=λx n h=>cellsFrom_some _ _ _ _ h;refine fe (codeAny_call_cells (by exact qu (.a (.a .x (.n 11)) (.n 1)) (.n 1000) (.a .x (.n 1)) (.n 1000) rfl hd) (stays _ _ ho) Ln (top.nolimit.keeps stays) (Sk.keeps stays) hd3 (Y8 mvs Y9) hd6 (λx hx=>?_) (λM X=>?_) hd8 hd9 Y7)
 ·have Sj:=(gB (a:=x.1) (b:=x.2) hx).1;rcases hf.params x.1 Sj with h|h
  ·exact .inl (rg (G6 ..) h)
  ·exact .inr ⟨rg (G6 ..) h,VI _ _ (rg (G6 ..) h)⟩
 generalize J7:callEnvC fd s.heap.objs.size fa=env' at X ⊢;have eL:env'.locals=s.heap.objs.size:=rl (J7 ..) rfl;have eF:env'.frame=some s.heap.objs.size:=rl (J7 ..) rfl;have eS:env'.scope=fd.scope:=rl (J7 ..) rfl;have eC:env'.cells=fN (s.heap.objs.size+1) fd.scope.names []:=rl (J7 ..) rfl;have eG:env'.globals=bT:=rl (J7 ..) hd4;have eB:env'.builtins=cX:=rl (J7 ..) Yr;have eK:∀x,env'.kindOf x=fn.names.lookup x:=λx=>by show env'.scope.names.lookup x=_;simp only[eS,G6]
 have Zb:=X.toInCall.ns;have Wo:=X.toInCall.keep;have wo:=X.cell;have hap:=X.apart;have Tf:=X.above;refine tW (X.done) λZc tk Zd u_=>?_;subst Zd;have TA:(env'.cells.map (·.1)).Nodup:=by rw[eC];exact tw _ _ _ ((G6)▸Za) mH (λu_ u_ h=>bf h)
 have TB:∀n a,(n,a)∈env'.cells->s.heap.objs.size<a:=λn a hm=>eL▸Tf n a hm;generalize hm:bindL env'.kindOf (fn.params.zip mvs) (λu_=>none)=m at Zb;generalize hcm:bindC env'.kindOf (fn.params.zip mvs) (λu_=>none)=cm at wo;simp only[eL]at Zb
 have find:∀n a,env'.cells.lookup n=some a->env'.cells.find? (λp=>p.2==a)=some (n,a):=λn a hl=>by
  have O:=mem_of_lookup hl;cases q:env'.cells.find? (λp=>p.2==a)with
  |none=>have:=List.find?_eq_none.mp q _ O;simp at this
  |some p =>
   have h1:=dk q;have h2:p.2=a:=by have:=gC q;simpa using this
   obtain⟨n',a'⟩:=p;subst h2;have:n'=n:=name_of_addr hap h1 O;exact rg (this ..) rfl
 have low:∀a,a<s.heap.objs.size->sR D s.heap s.heap.objs.size m env'.cells cm a=D.lock s.heap a:=λa ha=>by
  unfold sR;refine rg (aT (a5 ha)) ?_
  have:env'.cells.find? (λp=>p.2==a)=none:=List.find?_eq_none.mpr λp hp=>by
   have:=TB p.1 p.2 hp;simp;exact bj (uJ (.a .x (.n 1)) .y (.a .z (.n 1)) .x (.a .z (.n 1)) .y rfl this ha)
  exact rg (this ..) rfl
 have Ze:sR D s.heap s.heap.objs.size m env'.cells cm s.heap.objs.size=some (.ns m):=by unfold sR;exact rg (aO rfl) rfl
 have atC:∀n a,env'.cells.lookup n=some a->sR D s.heap s.heap.objs.size m env'.cells cm a=some (.cell (cm n)):=λn a hl=>by
  unfold sR;exact rg (aT (bj (TB n a (mem_of_lookup hl)))) (rg (find n a hl) rfl)
 have Wq:∀a sp,D a=some sp->a<s.heap.objs.size:=λa sp e=>Mu.lt e
 have B8:∀a sp,D a=some sp->sp.tx=false->sR D s.heap s.heap.objs.size m env'.cells cm a=some sp:=λa sp e Zf=>by
  refine rg (low a (Wq a sp e)) ?_;refine rg (oN.wJ λsp' e'=>by rw[e]at e';cases e';exact Zf) ?_
  exact e
 generalize hD1:sR D s.heap s.heap.objs.size m env'.cells cm=D₁ at low Ze atC B8;have G7:D.Le D₁:=λa sp e hs=>B8 a sp e (Sp.uT hs)
 have Iy:D₁.In T Zc:=λa sp e=>by
  replace e:=(hD1).symm▸e;refine yQ e (λha e=>?_) (λp h1 h2 e=>?_) λe=>?_
  ·subst e;exact ha▸Zb
  ·subst e;subst h2;exact wo p.1 p.2 (lookup_of_mem_nodup TA h1)
  ·exact((oN.CZ Mu) a sp e).at λo ho=>Wo a o ho
 have sk:(D.lock s.heap).Le D₁:=λa sp e hs=>by
  have ug:a<s.heap.objs.size:=(oN.CZ Mu).lt e;exact(low a ug)▸(e)
 have ok':Sf cc env':=by
  refine⟨by rw[eS];exact Y7,eG,eB,λx h=>?_,λx h=>?_,λx h=>?_,λx h=>?_,λx y a h1 h2=>name_of_addr hap (mem_of_lookup h1) (mem_of_lookup h2),λx k h=>?_,λx k h=>?_⟩
  ·exact rg (eK ..) (rl (H ..) h)
  ·exact rg (eK ..) (rl (H ..) h)
  ·exact rg (eK ..) (rl (H ..) (.inr h))
  ·exact rg (eK ..) (rl (H ..) h)
  ·exact hf.plain x k (rl (H ..) h)
  ·exact hf.Es x k (rl (H ..) h)
 have F':qi T cc env' (A.deeper env'):=⟨top,ok',hh,hd,hu,Y4⟩
 have hvr:∀x b,(qd fn.params vs).lookup x=some b->∃mv,rd D₁ env' x mv/\wG T D₁ φ x mv b:=λx b hx=>by
  rw[qd,vE,c9]at hx;refine(let C:Prop:=_;(?_:C))
  obtain⟨v,hv,rfl⟩:=hx;refine o8 (G4 (f:=λm v=>oR T D φ m v) r.each hv) λmv J4 hr=>?_;have hxp:x∈fn.params:=(gB (mem_of_lookup hv)).1;refine o5 mv ?_ (.val (hr.mono G7 (ao _)));refine(let C:Prop:=_;(?_:C))
  have Bh:=z9 (as:=mvs) hf.nd;refine(hf.params x hxp).elim (λh=>?_) (λh=>?_)
  ·refine .inl ⟨by rw[eK];exact h,m,by rw[eL];exact Ze,?_⟩
   refine rl (hm) ?_;exact zZ _ _ _ _ _ Bh (rg (eK ..) h) J4
  ·obtain⟨ca,Mw⟩:=Option.isSome_iff_exists.mp (VI x (s.heap.objs.size+1) ((G6)▸h));rw[<-eC]at Mw;refine .inr ⟨by rw[eK];exact h,ca,Mw,?_⟩
   exact rg (atC x ca Mw) (rl (hcm ..) (rg (z6 _ _ _ _ _ Bh (by rw[eK,h];simp) J4) rfl))
 have link:Link T D₁ φ cc env' ⟨qd fn.params vs++qF fn.params fn.names,σ⟩:=by
  refine(let C:Prop:=_;(?_:C))
  refine⟨⟨m,by rw[eL];exact Ze⟩,λx b hx hn=>hvr x b (yM hx hn),λx h=>?_,λx v h=>?_,?_⟩
  ·rw[H]at h;obtain⟨ca,Mw⟩:=Option.isSome_iff_exists.mp (VI x (s.heap.objs.size+1) (rg (G6 ..) h));rw[<-eC]at Mw;exact uL ca _ Mw (atC x ca Mw)
  ·rw[Wn]at h;exact(nS h).elim
  ·exact cells.vl G7.vl λa Gu e=>B8 a _ e rfl
 have base:∀a o,T.b.get? a=some o->D₁ a=some (.fz o):=λa o e=>G7 _ _ (U a o e) rfl
 have PO:D₁.zQ:=λa a' x vs To h u_=>by
  replace h:=(hD1).symm▸h;exact yQ h (λ_ h=>by cases h) (λ_ _ _ h=>by cases h) λh=>qH h λsq _ h=>(Sp.G5 h).elim
 exact go env' D₁ _ sk F' ⟨Iy,link,hg,Y5,Y6 D₁ env' sk G7 eL eF (rg (eS ..) Y7),base,PO⟩
theorem G8 (F:qi T c env A) {fn:Fn} {fa:ay} (hf:FnAt T fn fa) {cc:MC} (Y4:cc.g=T.g) (hcn:cc.names=fn.names) (Wn:cc.free=[]) (hd:A.depth+11<cy) (hu:A.units+703<iq)
  (body:∀env',qi T cc env' (A.deeper env')->ui T cc env' (A.deeper env') (execs fn.body env') (o7 cc fn.body))
  (P:pI T D φ c env A st s) {mvs:af ag} {vs:af V} (r:oK T D φ mvs vs) (pd:fn.params.length=vs.length) (k:K T D φ c env (VR T) (IA cc fn vs st) Q E):wpAny (model T.prog T.w) A (call (.ref fa) mvs) Q E s:=by
 refine Mt F.top F.hd hf Y4 hcn Wn hd hu P.pO P.stays P.base P.link.cells P.gens P.os r pd (λD₁ env' sk G7 eL eF eS=>?_) (λenv' D₁ G9 sk F' P'=>?_)
 ·refine(let C:Prop:=_;(?_:C))
  refine sF (P.GJ) λMr outer q1 q2 q3=>?_;refine tD env' (Mr::outer) (by show A.frames.map (env'::·)=_;rw[q1];rfl) rfl (λe he=>?_)
  refine(let C:Prop:=_;(?_:C))
  refine(List.mem_cons.mp he).elim (λo0_=>?_) (λhe=>?_)
  ·subst o0_;exact⟨by rw[eS];decide,_,eF,.inl eL.symm⟩
  ·obtain⟨k1,L,k2,k3⟩:=q3 e he;refine⟨k1,L,k2,.inr ?_⟩;refine(let C:Prop:=_;(?_:C))
   refine k3.elim (λo=>?_) (λo=>y9 o λo es ep k3 k4=>zb o es ep (G7 _ _ k3 rfl) k4);subst o;obtain⟨m0,Sl⟩:=P.link.locals;refine za (P.pO _ _ Sl) λo es ep g1 g2 u_=>?_;refine zb o es ep (sk _ _ ?_ rfl) g2;unfold oN.lock;exact(Sl)▸(aD (cO _) g1)
 refine body env' F' D₁ φ _ _ _ _ P' ?_;have GJ:=P'.GJ;have base:=P'.base;have TC:st.σ.length=φ.length:=P.link.cells.len.symm;unfold IA at k;generalize TF:o7 cc fn.body ⟨qd fn.params vs++qF fn.params fn.names,st.σ⟩=res at k
 have fin:∀(mv:ag)(v:V)(H:St)(U:ah)(D₂:oN)(M:af ay),rJ T D₁ φ D₂ M cc env' H U->oR T D₂ M mv v ->
   K T D φ c env (VR T) (if v.oQ then .ok v {st with σ:=H.σ.take st.σ.length}else .ok v {st with σ:=H.σ}) Q E->Q mv U:=λmv v H U D₂ M g hv k=>by
  have LK:qp T D D₂ s.heap U.heap:=⟨P.pO,g.pO,λa sp e hs=>g.le a sp (sk a sp e hs) hs⟩;have O:=LK.z8 g.link.cells;by_cases Y:v.oQ=true
  ·rw[aO Y]at k;exact k.ok ⟨LK.t9,ao _,LK.back_in,LK.yq P.link (ao _) (O.cut g.pre TC),g.gens,g.os,oN.yo _ _⟩ ((hv.vl LK.vY (ao _)).bare Y)
  ·rw[aT Y]at k;exact k.ok ⟨LK.t9,g.pre,LK.back_in,LK.yq P.link g.pre O,g.gens,g.os,oN.yo _ _⟩ (hv.vl LK.vY (ao _))
 refine qB (λe=>?_) (λfl H e f U D₂ M g hr=>?_) (λw p σ e x U D₂ M g=>?_)
 ·refine(let C:Prop:=_;(?_:C))
  subst e;exact k.oH
 ·subst e;unfold pS at k;refine(let C:Prop:=_;(?_:C))
  induction fl using Fl.casesOn with
  |next =>
   refine(let C:Prop:=_;(?_:C))
   cases f with
   |next=>exact fin .none .none H U D₂ M g .none k
   |_=>exact hr.elim
  |ret v =>
   cases f with
   |ret mv =>
    refine fin mv v H U D₂ M g hr ?_;dsimp only at k;by_cases Y:v.oQ=true
    ·rw[aO Y]at k ⊢;exact k
    ·rw[aT Y]at k ⊢;exact k
   |_=>exact hr.elim
 ·subst e;unfold pS at k;dsimp only at k;refine(let C:Prop:=_;(?_:C))
  have PQ:∀a o,T.b.get? a=some o->D₂ a=some (.fz o):=λa o e=>g.le _ _ (base a o e) rfl;refine G3 (GJ.le g.le) g.pO PQ g.locals g.L6 λZg Zh Zi=>?_;refine(let C:Prop:=_;(?_:C))
  by_cases Y:(w.oQ&&p.oQ)=true
  ·rw[aO Y]at k;have LK:qp T D D₂ s.heap Zg:=⟨P.pO,Zh,λa sp e hs=>g.le a sp (sk a sp e hs) hs⟩;have O:=LK.z8 g.cells;refine k.rQ ⟨LK.t9,ao _,LK.back_in,?_,?_,(LK.yq P.link (ao _) (O.cut g.pre TC)).locals,O.cut g.pre TC,g.gens,g.os⟩
   ·exact(g.exc.vl LK.vY (ao _)).bare Y
   ·refine za (Zi) λd ws sl q1 q2 q3=>?_;refine zE d ws sl (LK.vY _ _ q1 rfl) q2 (q3.imp id λ⟨t,ot,ts,a1,a2,a3⟩=>(zE t ot ts a1 ?_ a3));rw[oN.uU (λsp e'=>?_) (λy vs q=>by rw[a2]at q;cases q)]
    ·exact a2
    ·cases q:sp.tx with
     |false=>rfl
     |true=>rcases LK.tx e' q with⟨o,z⟩|⟨o,z⟩<;>rw[a2]at z<;>cases z
  ·refine(let C:Prop:=_;(?_:C))
   rw[aT Y]at k;exact k.oH.elim
theorem oR.PR{x:ag}{n:cR}(h:oR T D φ x (.typ n)):x=.type n:=h.inv
theorem oK.one{mvs:af ag}{v:V}(r:oK T D φ mvs [v]):∃mv,mvs=[mv]/\oR T D φ mv v:=by
 refine(let C:Prop:=_;(?_:C))
 cases r with|cons a b=>cases b;exact o5 _ rfl a
theorem oK.two{mvs:af ag}{v w:V}(r:oK T D φ mvs [v,w]):∃mv z,mvs=[mv,z]/\oR T D φ mv v/\oR T D φ z w:=by
 refine(let C:Prop:=_;(?_:C))
 cases r with|cons a b=>cases b with|cons H o=>cases o;exact tD _ _ rfl a H
theorem IB{α β:Type}{v:V}{f:af V->R α}{g:α->St->R β}{C:Prop}(n:(VE v f).bind g≠.stuck)(k:∀l,v=.tup l->(f l).bind g≠.stuck->C):C:=by
 induction v using V.casesOn with
 |tup l=>exact k l rfl n
 |_=>exact(n rfl).elim
theorem PS{α β:Type}{v:V}{f:af V->R α}{g:α->St->R β}{C:Prop}(n:(VF v f).bind g≠.stuck)(k:∀l,v=.lst l->C):C:=by
 induction v using V.casesOn with
 |lst l=>exact k l rfl
 |_=>exact(n rfl).elim
section
variable{α β:Type}{rel:oN->af ay->β->α->Prop}{Q:β->ah->Prop}{C:Prop}{x y:ag}{v w:V}{mvs:af ag}{vs:af V}
theorem K.one{f:V->R α}(r:oK T D φ mvs vs)(k:K T D φ c env rel (xd vs f) Q E)(h:∀x v,mvs=[x]->oR T D φ x v->K T D φ c env rel (f v) Q E->C):C:=by
 cases r with
 |nil=>exact k.oH.elim
 |cons a b=>cases b with
  |nil=>exact h _ _ rfl a k
  |cons _ _=>exact k.oH.elim
theorem K.zero{o:R α}(r:oK T D φ mvs vs)(k:K T D φ c env rel (R6 vs o) Q E)(h:mvs=[]->K T D φ c env rel o Q E->C):C:=by
 cases r with
 |nil=>exact h rfl k
 |cons a b=>exact k.oH.elim
theorem K.two{f:V->V->R α}(r:oK T D φ mvs vs)(k:K T D φ c env rel (Pp vs f) Q E)(h:∀x y v w,mvs=[x,y]->oR T D φ x v->oR T D φ y w->K T D φ c env rel (f v w) Q E->C):C:=by
 cases r with
 |nil=>exact k.oH.elim
 |cons a b=>cases b with
  |nil=>exact k.oH.elim
  |cons b d=>cases d with
   |nil=>exact h _ _ _ _ rfl a b k
   |cons _ _=>exact k.oH.elim
theorem K.ot {f:V->R α} {g:V->V->R α} (r:oK T D φ mvs vs) (k:K T D φ c env rel (otV vs f g) Q E) (h:∀x v,mvs=[x]->oR T D φ x v->K T D φ c env rel (f v) Q E->C)
  (h':∀x y v w,mvs=[x,y]->oR T D φ x v->oR T D φ y w->K T D φ c env rel (g v w) Q E->C):C:=by
 cases r with
 |nil=>exact k.oH.elim
 |cons a b=>cases b with
  |nil=>exact h _ _ rfl a k
  |cons b d=>cases d with
   |nil=>exact h' _ _ _ _ rfl a b k
   |cons _ _=>exact k.oH.elim
theorem K.PT{z:Type}{o:au z}{f:z->R α}(k:K T D φ c env rel (vv o f) Q E)(h:∀a,o=some a->K T D φ c env rel (f a) Q E->C):C:=by
 cases o with
 |none=>exact k.oH.elim
 |some a=>exact h a rfl k
theorem K.int{f:Int->R α}(r:oR T D φ x v)(k:K T D φ c env rel (Eh v f) Q E)(h:∀i t,x=.int i t->K T D φ c env rel (f i) Q E->C):C:=by
 induction v using V.casesOn with
 |int i=>exact r.int_inv.elim λt e=>h i t e k
 |_=>exact k.oH.elim
theorem K.ib{f:Int->R α}{g:aN->R α}(r:oR T D φ x v)(k:K T D φ c env rel (ibV v f g) Q E)(h:∀i t,x=.int i t->K T D φ c env rel (f i) Q E->C)(h':∀b,x=.bool b->K T D φ c env rel (g b) Q E->C):C:=by
 induction v using V.casesOn with
 |int i=>exact r.int_inv.elim λt e=>h i t e k
 |bool b=>exact h' b r.bool_inv k
 |_=>exact k.oH.elim
theorem K.tup{f:af V->R α}(r:oR T D φ x v)(k:K T D φ c env rel (VE v f) Q E)(h:∀l,oR T D φ x (.tup l)->K T D φ c env rel (f l) Q E->C):C:=by
 induction v using V.casesOn with
 |tup i=>exact h i r k
 |_=>exact k.oH.elim
theorem K.lst{f:af V->R α}(r:oR T D φ x v)(k:K T D φ c env rel (VF v f) Q E)(h:∀l,oR T D φ x (.lst l)->K T D φ c env rel (f l) Q E->C):C:=by
 induction v using V.casesOn with
 |lst i=>exact h i r k
 |_=>exact k.oH.elim
theorem K.seq{f:af V->R α}(r:oR T D φ x v)(k:K T D φ c env rel (V9 v f) Q E)(h:∀l,oR T D φ x (.tup l)->K T D φ c env rel (f l) Q E->C)(h':∀l,oR T D φ x (.lst l)->K T D φ c env rel (f l) Q E->C):C:=by
 induction v using V.casesOn with
 |tup i=>exact h i r k
 |lst i=>exact h' i r k
 |_=>exact k.oH.elim
theorem K.lr{f:af V->R α}{g:Int->Int->R α}(r:oR T D φ x v)(k:K T D φ c env rel (lrV v f g) Q E)(h:∀l,oR T D φ x (.lst l)->K T D φ c env rel (f l) Q E->C)(h':∀a b,oR T D φ x (.we a b)->K T D φ c env rel (g a b) Q E->C):C:=by
 induction v using V.casesOn with
 |lst i=>exact h i r k
 |we a b=>exact h' a b r k
 |_=>exact k.oH.elim
theorem K.rO{f:af Int->R α}(r:oR T D φ x v)(k:K T D φ c env rel (R7 v f) Q E)(h:∀l,oR T D φ x (.rO l)->K T D φ c env rel (f l) Q E->C):C:=by
 induction v using V.casesOn with
 |rO i=>exact h i r k
 |_=>exact k.oH.elim
theorem K.ptr{f:Nat->R α}(r:oR T D φ x v)(k:K T D φ c env rel (Tb v f) Q E)(h:∀l,oR T D φ x (.ptr l)->K T D φ c env rel (f l) Q E->C):C:=by
 induction v using V.casesOn with
 |ptr i=>exact h i r k
 |_=>exact k.oH.elim
theorem K.typ{f:cR->R α}(r:oR T D φ x v)(k:K T D φ c env rel (V8 v f) Q E)(h:∀n,x=.type n->K T D φ c env rel (f n) Q E->C):C:=by
 induction v using V.casesOn with
 |typ n=>exact h n r.PR k
 |_=>exact k.oH.elim
end
theorem EU{n:Nat}(h:n<=qf):(n:Int)<2^63:=by unfold qf at h;exact vf .x (.n 1000000) (.a .x (.n 1)) (.n 9223372036854775808) rfl (b9.2 h)
theorem PU(P:pI T D φ c env A st s){mvs:af ag}{vs:af V}(r:oK T D φ mvs vs)(k:K T D φ c env (VR T) (BP vs st) Q E):wpAny (model T.prog T.w) A (call (.builtin "len") mvs) Q E s:=by
 refine(let C:Prop:=_;(?_:C))
 refine K.one r k λmv v e h k=>?_;subst e;refine K.seq h k (λl h k=>?_) (λl h k=>?_)
 ·obtain⟨a,vs,n,rfl,p,q,r⟩:=h.rN;have hl:=r.length;rw[aM]at hl;exact iH (items:=vs) ⟨_,P.heap p,rfl,n,rfl⟩ (EU q) (by rw[hl];exact k.ok P.toks (.int _ _))
 ·obtain⟨a,vs,n,rfl,p,q,r⟩:=h.lst_inv;have hl:=r.length;rw[aM]at hl;exact call_len_list (items:=vs) ⟨_,P.heap p,rfl,n,rfl⟩ (EU q) (by rw[hl];exact k.ok P.toks (.int _ _))
set_option tactic.hygienic true in
theorem Aa(P:pI T D φ c env A st s){mvs:af ag}{vs:af V}(r:oK T D φ mvs vs)(k:K T D φ c env (VR T) (rm vs st) Q E):wpAny (model T.prog T.w) A (call (.builtin "isinstance") mvs) Q E s:=by
 refine(let C:Prop:=_;(?_:C))
 refine K.two r k λmv H v w e h1 h2 k=>?_;subst e;refine K.typ h2 k λS e k=>?_;subst e
 ·skip
  refine o8 (k.opt) λb e k1=>?_;rw[c9]at e;obtain⟨b,e,rfl⟩:=e;unfold Gw at e;split at e
  ·rename_i hS;have hs:S="tuple"\/S="int"\/S="bool"\/S="str"\/S="list":=by simpa [qM]using hS
   have o:∀b,b=true->K T D φ c env (VR T) (.ok (.bool b) st) Q E->Q (.bool true) s:=λb hb k=>by subst hb;exact k.ok P.here (.bool _)
   have no:∀b,b=false->K T D φ c env (VR T) (.ok (.bool b) st) Q E->Q (.bool false) {s with toks:=s.toks+1}:=λb hb k=>by subst hb;exact k.ok P.toks (.bool _)
   induction v using V.casesOn with
   |none =>
    obtain rfl:=h1.none_inv;refine(let C:Prop:=_;(?_:C))
    obtain rfl:=ai e;rcases hs with rfl|rfl|rfl|rfl|rfl
    ·exact IsiPair.NoneType_tuple (no _ rfl k1)
    ·exact IsiPair.NoneType_int (no _ rfl k1)
    ·exact IsiPair.NoneType_bool (no _ rfl k1)
    ·exact IsiPair.NoneType_str (no _ rfl k1)
    ·exact IsiPair.NoneType_list (no _ rfl k1)
   |bool i =>
    obtain rfl:=h1.bool_inv;obtain rfl:=ai e;rcases hs with rfl|rfl|rfl|rfl|rfl
    ·exact IsiPair.bool_tuple (no _ (rfl) k1)
    ·exact IsiPair.bool_int (o _ (rfl) k1)
    ·exact IsiPair.bool_bool (o _ (rfl) k1)
    ·exact IsiPair.bool_str (no _ (rfl) k1)
    ·exact IsiPair.bool_list (no _ (rfl) k1)
   |int i =>
    obtain⟨t,rfl⟩:=h1.int_inv;obtain rfl:=ai e;rcases hs with rfl|rfl|rfl|rfl|rfl
    ·exact IsiPair.int_tuple (no _ (rfl) k1)
    ·exact IsiPair.int_int (o _ (rfl) k1)
    ·exact IsiPair.int_bool (no _ (rfl) k1)
    ·exact IsiPair.int_str (no _ (rfl) k1)
    ·exact IsiPair.int_list (no _ (rfl) k1)
   |str i =>
    refine o8 (h1.str_inv) λt z u_=>?_;subst z;obtain rfl:=ai e;rcases hs with rfl|rfl|rfl|rfl|rfl
    ·exact IsiPair.str_tuple (no _ (rfl) k1)
    ·exact IsiPair.str_int (no _ (rfl) k1)
    ·exact IsiPair.str_bool (no _ (rfl) k1)
    ·exact IsiPair.str_str (o _ (rfl) k1)
    ·exact IsiPair.str_list (no _ (rfl) k1)
   |tup l =>
    obtain⟨a,ws,n,rfl,p,q,r⟩:=h1.rN;obtain rfl:=ai e;rcases hs with rfl|rfl|rfl|rfl|rfl
    ·exact IsiPair.tuple_tuple (P.heap p) rfl (o _ (rfl) k1)
    ·exact IsiPair.tuple_int (P.heap p) rfl (no _ (rfl) k1)
    ·exact IsiPair.tuple_bool (P.heap p) rfl (no _ (rfl) k1)
    ·exact IsiPair.tuple_str (P.heap p) rfl (no _ (rfl) k1)
    ·exact IsiPair.tuple_list (P.heap p) rfl (no _ (rfl) k1)
   |lst l =>
    obtain⟨a,ws,n,rfl,p,q,r⟩:=h1.lst_inv;obtain rfl:=ai e;rcases hs with rfl|rfl|rfl|rfl|rfl
    ·exact IsiPair.list_tuple (P.heap p) rfl (no _ (rfl) k1)
    ·exact IsiPair.list_int (P.heap p) rfl (no _ (rfl) k1)
    ·exact IsiPair.list_bool (P.heap p) rfl (no _ (rfl) k1)
    ·exact IsiPair.list_str (P.heap p) rfl (no _ (rfl) k1)
    ·exact IsiPair.list_list (P.heap p) rfl (o _ (rfl) k1)
   |_=>exact(nS e).elim
  ·exact(nS e).elim
theorem PV(P:pI T D φ c env A st s){mvs:af ag}{vs:af V}(r:oK T D φ mvs vs)(k:K T D φ c env (VR T) (BQ vs st) Q E):wpAny (model T.prog T.w) A (call (.type "int") mvs) Q E s:=by
 refine K.one r k λmv v e h k=>?_;subst e;refine K.ib h k (λi t e k=>?_) (λb e k=>?_)<;>subst e
 ·exact call_int_int (k.ok P.here (.int _ _))
 ·exact call_int_bool (k.ok P.toks (.int _ _))
theorem Ha(P:pI T D φ c env A st s){mvs:af ag}{vs:af V}(r:oK T D φ mvs vs)(k:K T D φ c env (VR T) (yg vs st) Q E):wpAny (model T.prog T.w) A (call (.type "list") mvs) Q E s:=by
 refine(let C:Prop:=_;(?_:C))
 refine K.one r k λmv v e h k=>?_;subst e;refine K.tup h k λl h k=>?_
 ·obtain⟨a,vs,n,rfl,p,q,r⟩:=h.rN;refine call_list_seq (hsz:=qa q) a (.inr rfl) (P.heap p) rfl rfl λh' o hk hn=>?_;exact k.ok (P.alloc (sp:=.fz _) (tk:=s.toks) P.pO.fresh hk hn) (.lst (oN.oV ..) q (r.mono (oN.Sub.put P.pO.fresh).le (ao _)))
theorem pI.more(P:pI T D φ c env A st s){h':bP}{a:ay}{o:Obj}{tk:Tok}(hk:∀b o,s.heap.get? b=some o->h'.get? b=some o)(hn:D a=none)(z:h'.get? a=some o) :
  Good T D φ (D.put a (.fz o)) φ c env st {s with heap:=h',toks:=tk}:=P.alloc (sp:=.fz _) hn hk z
theorem pI.unknown(P:pI T D φ c env A st s){a:ay}(h:s.heap.objs.size<=a):D a=none:=by
 cases q:D a with
 |none=>rfl
 |some sp=>exact absurd (P.pO.lt q) (Nat.not_lt.mpr h)
theorem yr{a b:Int}(ha:small a=true)(hb:small b=true):(qG a b).length=(b-a).toNat:=by simp[qG]
theorem oK.we(D:oN)(φ:af ay)(a b:Int)(o:Nat->Tok):∀n k:Nat,oK T D φ ((nW k n).map λ(j:Nat)=>cH (a+j) (o j)) ((nW k n).map λ(j:Nat)=>V.int (a+j))
 |0,k=>.nil
 |n+1,k=>by rw[List.range'_succ];exact .cons (.int _ _) (oK.we D φ a b o n (k+1))
theorem J8(P:pI T D φ c env A st s){mvs:af ag}{vs:af V}(r:oK T D φ mvs vs)(k:K T D φ c env (VR T) (uM vs st) Q E):wpAny (model T.prog T.w) A (call (.type "range") mvs) Q E s:=by
 refine(let C:Prop:=_;(?_:C))
 refine K.ot r k (λmv v e h k=>?_) (λmv o v w e h h2 k=>?_)<;>subst e
 ·refine K.int h k λi t e k=>?_;subst e;exact call_range_1 (k.ite.2.ok (P.more (λu_ u_ e=>aq _ e) P.pO.fresh (aF _ rfl)) (.we (oN.oV ..) rfl k.ite.1))
 ·refine K.int h k λi t e k=>?_;refine K.int h2 k λj u e' k=>?_;subst e e';have hs:=(aw _ _).mp k.ite.1;exact call_range_2 (k.ite.2.ok (P.more (λu_ u_ e=>aq _ e) P.pO.fresh (aF _ rfl)) (.we (oN.oV ..) hs.1 hs.2))
set_option tactic.hygienic true in
theorem PW(P:pI T D φ c env A st s){mvs:af ag}{vs:af V}(r:oK T D φ mvs vs)(k:K T D φ c env (VR T) (BS vs st) Q E):wpAny (model T.prog T.w) A (call (.builtin "abs") mvs) Q E s:=by
 refine K.one r k λmv v e h k=>?_;subst e;refine K.int h k λi t e k=>?_;subst e;refine call_abs_int λu tk=>?_;have e:(if i<0 then -i else i)=(i.natAbs:Int):=VZ i
 refine rg (e) ?_;exact k.ok P.toks (.int _ _)
theorem PX(F:qi T c env A)(P:pI T D φ c env A st s){mvs:af ag}{vs:af V}(r:oK T D φ mvs vs)(k:K T D φ c env (VR T) (BR vs st) Q E):wpAny (model T.prog T.w) A (call (.builtin "max") mvs) Q E s:=by
 refine K.two r k λmv o v w e h h2 k=>?_;subst e;refine K.int h k λa t e k=>?_;refine K.int h2 k λb u e' k=>?_;subst e e';refine max_two_ints F.hd λh' tk hk=>?_;split
 ·rename_i hc;rw[aO hc]at k;exact k.ok (P.grown hk) (.int _ _)
 ·rename_i hc;rw[aT hc]at k;exact k.ok (P.grown hk) (.int _ _)
theorem yR{l:af V}{ns:af Int}(h:q7 l=some ns):l=ns.map .int:=by
 induction l generalizing ns with
 |nil=>obtain rfl:=ai h;rfl
 |cons v r ih =>
  induction v using V.casesOn with
  |int i =>
   obtain⟨o,e,rfl⟩:=Option.map_eq_some_iff.mp (show(q7 r).map (i::·)=some ns from h);exact aD _ (ih e)
  |_=>exact(nS h).elim
theorem oK.ints{mvs:af ag}{ns:af Int}(r:oK T D φ mvs (ns.map .int)):gU mvs ns:=by
 induction ns generalizing mvs with
 |nil=>cases r;exact .nil
 |cons n ns ih =>
  cases r with
  |cons a b=>refine p8 (a.int_inv) λt o=>?_;subst o;exact .cons _ _ (ih b)
set_option tactic.hygienic true in
theorem PY(F:qi T c env A)(P:pI T D φ c env A st s){mvs:af ag}{vs:af V}(r:oK T D φ mvs vs)(k:K T D φ c env (VR T) (zG vs st) Q E):wpAny (model T.prog T.w) A (call (.builtin "sum") mvs) Q E s:=by
 refine(let C:Prop:=_;(?_:C))
 refine K.one r k λmv v e h k=>?_;subst e;refine K.lst h k λl h k=>?_;refine K.PT k λns e k=>?_
 ··obtain⟨a,vs,n,rfl,p,q,r⟩:=h.lst_inv;have hi:gU vs.toList ns:=by rw[yR e]at r;exact r.ints
   have yl:=hi.allInts;simp only[kF]at yl;obtain⟨xs,Wr⟩:=yl.items;have hl:s.heap.IsList a (intItems xs):=⟨_,P.heap p,rfl,n,rl (Wr ..) rfl⟩;refine sum_intListG F.hd hl λh' tk z hk=>?_;have o:ns=numsOf vs.toList:=hi.numsOf.symm;rw[Wr,nums_intItems]at o;refine rg (preSum_eq ..) ?_;refine rg (cJ (by simp)) ?_;refine rl (o ..) ?_
   exact k.ok (P.grown hk) (.int _ _)
theorem PZ(P:pI T D φ c env A st s){mvs:af ag}{vs:af V}(r:oK T D φ mvs vs)(k:K T D φ c env (VR T) (BV vs st) Q E):wpAny (model T.prog T.w) A (call (.type "str") mvs) Q E s:=by
 refine(let C:Prop:=_;(?_:C))
 refine K.one r k λmv v e h k=>?_;subst e;refine K.int h k λi t e k=>?_;subst e
 ·skip
  refine o8 (k.opt) λb e k1=>?_;replace e:cO V.str (if small _=true then some (aa (toString _))else none)=some b:=e
  split at e
  ·rename_i hs;obtain rfl:=ai e;have:=r0.mp hs;exact str_of_int_fit (N:=2^30) (by split;exact vf (.g 536870911) .x (.a (.s (.n 0) .x) (.n 1)) (.n 1073741824) rfl this.1;exact vf .x (.n 536870912) (.a .x (.n 1)) (.n 1073741824) rfl this.2) (by exact by decide) λu_=>k1.ok P.toks (.str _ _ (vD _))
  ·exact(nS e).elim
end
end
section
open PySem PySem.Calls PyProof.Rows PySem.SeqAt
open PySem.AutoSeq1 (wpAny_loadPart')
section
variable{prog:b0}{w:bQ}{A:aX}{E:ag->ah->Prop}{s:ah}
set_option backward.match.sparseCases true in
theorem Bt {r:ay} {a b c:Int} {t u v:Tok} {n:Nat} {Q:af ag->ah->Prop} (hh:A.handled=none) (hr:IsRange s.heap r a b c t u v) (y:fW a b c=true)
  (hn:dj a b c=n) (pd:n<=2^24)
  (hQ:∀h' tk acc,(∀b H,s.heap.get? b=some H->h'.get? b=some H)->lQ (λi v=>∃t,v=.int (a+i*c) t) acc n->Q acc.toList {s with heap:=h',toks:=tk}) :
  wpAny (model prog w) A (collect (.ref r)) Q E s:=by
 refine ae (wpAny_runValue (du F.entry_proto_collect ?_));refine(?_:wpAny _ A.in1 (newList [] >>= λl=>again (.builtin "list.__iadd__" ⟨[l,.ref r],[]⟩)) _ _ s);refine ae (aV ?_);refine aj ⟨kO F.plain_list_iadd _,du F.entry_list_iadd ?_⟩;refine(let C:Prop:=_;(?_:C))
 have hS:(s.heap.push {cls:=.type "list", data:=.seq ([]:af ag).toArray}).get? s.heap.objs.size=some {cls:=.type "list", data:=.seq #[] 0}:=aF _ rfl
 refine cE (wpAny_extend_range (A:=A) (R:=λr s'=>r=.ok (.ret (.ref s.heap.objs.size))/\∃h' tk acc z,s'={s with heap:=h',toks:=tk}/\h'.get? s.heap.objs.size=some {cls:=.type "list", dict:=none,data:=.seq acc z,slots:=#[]} /\
   (∀b H,s.heap.get? b=some H->h'.get? b=some H)/\lQ (λi v=>∃t,v=.int (a+i*c) t) acc n)
  (s:={s with heap:=s.heap.push {cls:=.type "list", data:=.seq ([]:af ag).toArray}}) hh (aq _ hr) y hn pd _ _ 0 hS λh' tk O z hk hS' U=>⟨rfl,h',tk,O,z,rfl,hS',λb o e=>?_,U⟩) (λfin s' h=>?_) (λe s' h=>?_)
 ·exact hk b o (a5 (aS e)) (aq _ e)
 ·have M:∀h' tk acc z,h'.get? s.heap.objs.size=some {cls:=.type "list", dict:=none,data:=.seq acc z,slots:=#[]}->(∀b H,s.heap.get? b=some H->h'.get? b=some H)->lQ (λi v=>∃t,v=.int (a+i*c) t) acc n ->
    wpAny (model prog w) A (match aH s.heap.objs.size with
   |Value.ref a=>do
    match(<- load a).data with
     |Data.seq xs _=>pure xs.toList
     |_=>unsupported "internal:collect"
   |_=>unsupported "internal:collect") Q E {s with heap:=h',toks:=tk}:=λh' tk acc z h1 h2 Y=>by
   show wpAny (model prog w) A (load s.heap.objs.size >>= _) _ _ _;refine ae (mQ h1 ?_);exact aj (hQ _ _ _ h2 Y)
  refine(let C:Prop:=_;(?_:C))
  cases fin with
  |done f =>
   obtain⟨e,h',tk,acc,z,rfl,h1,h2,Y⟩:=h;cases e;exact M _ _ _ _ h1 h2 Y
  |again z=>exact⟨h.1,jd h.2 λr s'' hr=>by obtain⟨rfl,h',tk,acc,z,rfl,h1,h2,Y⟩:=hr;exact M _ _ _ _ h1 h2 Y⟩
 ·exact absurd h.1 (by simp)
theorem xp(r:ay)(a b c:Int)(t u v:Tok)(n:Nat)(o:fW a b c=true)(hn:dj a b c=n)(pd:n<=2^24) :
  Meets (c0.«tuple.__new__» ⟨[.type "tuple", .ref r],[]⟩)
   (λA R s=>(A.handled=none/\IsRange s.heap r a b c t u v)/\∀(h':bP)(tk:Tok)(acc:bx ag),(∀b O,s.heap.get? b=some O->h'.get? b=some O)->lQ (λi v=>∃t,v=.int (a+i*c) t) acc n ->
    R (.ok (.ret (.ref h'.objs.size))) {s with heap:=h'.push {cls:=.type "tuple", data:=.seq acc},toks:=tk}) :=
 .of_wp λprog w A R s h=>by
  refine(let C:Prop:=_;(?_:C))
  refine qA (h) λz h=>?_;refine qA (z) λhh ht=>?_;have vq:=sub_tuple_self;have H:=init_tuple_lookup;have U:=madeHere_tuple;have hT:s.TypeIs (.ref r) "range":=(o5 _ ht rfl);have M:A.in1.handled=none:=hh
  wp_walk using fI hT,wpAny_loadPart' ht,Bt M ht o hn pd
  intro h' tk acc hk y;refine(?_:wpAny _ _ (dc acc.toList.toArray >>= λv=>ret v) _ _ _);refine ae (aV ?_ (show acc.toList.toArray.size<=dH by simp only[kF];rw[y.1,ik];omega))
  refine aj (o5 _ rfl ?_);exact h h' tk acc hk y
theorem yt {r:ay} {a b c:Int} {t u v:Tok} {n:Nat} {Q:ag->ah->Prop} (hh:A.handled=none) (hr:IsRange s.heap r a b c t u v) (o:fW a b c=true)
  (hn:dj a b c=n) (pd:n<=2^24)
  (h:∀(h':bP)(tk:Tok)(acc:bx ag),(∀b z,s.heap.get? b=some z->h'.get? b=some z)->lQ (λi v=>∃t,v=.int (a+i*c) t) acc n->Q (.ref h'.objs.size) {s with heap:=h'.push {cls:=.type "tuple", data:=.seq acc},toks:=tk}) :
  wpAny (model prog w) A (call (.type "tuple") [.ref r]) Q E s :=
 lH F.called_tuple (rfl) (F.typeCall_tuple_1 _) (F.newCall_tuple_1 _) (λobj=>F.args_object_init_2 obj _) F.entry_tuple_new
  (xp r a b c t u v n o hn pd) ⟨⟨hh,hr⟩,λh' tk acc hk y=>⟨(o5 _ (aF _ rfl) rfl),h h' tk acc hk y⟩⟩
end
section
variable{T:pg}{D D':oN}{φ ph:af ay}{c:MC}{env:Env}{A:aX}{st tm:St}{s s':ah}{Q:ag->ah->Prop}{E:ag->ah->Prop}
theorem oK.TG{mvs:af ag}{vs:af V}(h:mvs.length=vs.length)(k:∀(i:Nat) m v,mvs[i]?=some m->vs[i]?=some v->oR T D φ m v):oK T D φ mvs vs:=by
 induction mvs generalizing vs with
 |nil=>induction vs using bN with|nil=>exact .nil|cons=>exact nomatch h
 |cons m mvs ih =>
  induction vs using bN with
  |nil=>exact nomatch h
  |cons v vs=>exact .cons (k 0 m v rfl rfl) (ih (by simpa using h) λi m v h1 h2=>k (i+1) m v h1 h2)
theorem tG.length{o:af (Str×ag)}{cl:Cell}(x:tG T D o cl):o.length=cl.length:=by
 induction x with
 |nil=>rfl
 |cons _ _ _ ih=>simp[ih]
theorem pI.Mx(P:pI T D φ c env A st s){h':bP}(hk:∀b o,s.heap.get? b=some o->h'.get? b=some o):D h'.objs.size=none:=by
 cases q:D h'.objs.size with
 |none=>rfl
 |some sp=>refine p8 ((P.pO _ _ q).get) λo ho=>?_;exact absurd (aS (hk _ _ ho)) (dK _)
set_option tactic.hygienic true in
theorem C1(F:qi T c env A)(P:pI T D φ c env A st s){mvs:af ag}{vs:af V}(r:oK T D φ mvs vs)(k:K T D φ c env (VR T) (vT vs st) Q E):wpAny (model T.prog T.w) A (call (.type "tuple") mvs) Q E s:=by
 refine K.one r k λmv v e h k=>?_;subst e;refine K.lr h k (λl h k=>?_) (λa b h k=>?_)
 ·refine(let C:Prop:=_;(?_:C))
  refine(let C:Prop:=_;(?_:C))
  obtain⟨a,vs,n,rfl,p,q,r⟩:=h.lst_inv;refine call_tuple_list (items:=vs) ⟨_,P.heap p,rfl,n,rfl⟩ (λh' hk=>?_) (qa q);have hn:=P.Mx hk;exact k.ok (P.more (λb o e=>aq _ (hk b o e)) hn (aF _ rfl)) (.tup (oN.oV ..) q (r.mono (oN.Sub.put hn).le (ao _)))
 ·refine(let C:Prop:=_;(?_:C))
  refine YN (h.inv) λra t u v M p z H=>?_;subst M;have h1:=r0.mp z;have h2:=r0.mp H;unfold vg at k;split at k
  ·rename_i hz;replace hz:=(yr z H)▸hz;have hsz:dj a b 1=((b-a).toNat:Int):=rg (rangeSize_one ..) (rs a b);refine yt F.hd (P.heap p) (small_one (by exact vf (.g 536870911) .x (.g 4611686018427387903) .x rfl h1.1) (by exact vf .x (.n 536870912) (.a .x (.n 1)) (.n 4611686018427387904) rfl h1.2) (by exact vf (.g 536870911) .x (.g 4611686018427387903) .x rfl h2.1) (by exact vf .x (.n 536870912) (.a .x (.n 1)) (.n 4611686018427387904) rfl h2.2)) hsz (by unfold qf at hz;exact qu .x (.n 1000000) .x (.n 16777216) rfl hz) λh' tk acc hk y=>?_
   have hn:=P.Mx hk
   have O:oK T (D.put h'.objs.size (.fz {cls:=.type "tuple", data:=.seq acc})) φ acc.toList (qG a b):=by
    refine(let C:Prop:=_;(?_:C))
    refine oK.TG (rg (aM ..) (rg (y.1 ..) (rg (yr z H) rfl))) λi m v e1 e2=>?_;obtain⟨tt,rfl⟩:=y.2 i m (by simpa using e1)
    have:v=.int (a+i):=by
     unfold qG at e2;rw[ei]at e2;refine o8 (Option.map_eq_some_iff.mp e2) λj Y U=>?_;subst U;obtain⟨hj,rfl⟩:=List.getElem?_eq_some_iff.mp Y;simp
    subst this;refine rg (gW ..) ?_;exact .int _ _
   exact k.ok (P.more (λb o e=>aq _ (hk b o e)) hn (aF _ rfl)) (.tup (oN.oV ..) ((y.1)▸hz) O)
  ·exact k.oH.elim
set_option tactic.hygienic true in
theorem My(F:qi T c env A)(P:pI T D φ c env A st s){mvs:af ag}{vs:af V}(r:oK T D φ mvs vs)(k:K T D φ c env (VR T) (vw vs st) Q E):wpAny (model T.prog T.w) A (call (.type "dict") mvs) Q E s:=by
 refine(let C:Prop:=_;(?_:C))
 refine K.one r k λmv v e h k=>?_;subst e;refine K.ptr h k λn h k=>?_;refine K.PT k λcell hc k=>?_
 ··refine o8 (h.xm) λa H p=>?_;subst H;refine sF (P.link.cells.get n cell hc) λa' y Y q2 q3=>?_;rw[p]at Y;obtain rfl:=ai Y;unfold rk at k;split at k
   ·rename_i M;simp only[aw]at M;have pd:y.length=cell.length:=q3.length;have hz:y.length<=qf:=by rw[pd];simpa using M.2
    refine PySem.kt_call_dict (knd:=strKind T.prog T.w) (zT F P q2) (P.pO _ _ q2) (qa hz) λh' hd hs=>?_;have hk:∀b o,s.heap.get? b=some o->h'.get? b=some o:=λb o e=>(hs.2 b (a5 (aS e))).trans (aq _ e);have hf:=P.pO.fresh;have J4:D.Mv (D.put s.heap.objs.size (.dct y)):=oN.Mv.put λsp e=>by rw[hf]at e;exact(nS e).elim
    have O:s.heap.objs.size∉φ:=λU=>by
     refine(let C:Prop:=_;(?_:C))
     refine p8 (P.link.cells.Mo U) λy e=>?_;rw[hf]at e;exact(nS e).elim
    have vq:D.Sub (D.put s.heap.objs.size (.dct y)):=oN.Sub.put hf;have z:=(P.link.cells.sub vq).push (oN.oV ..) O (q3.mono vq.le)
    exact k.2.1 _ _ rfl _ _ (D.put s.heap.objs.size (.dct y)) (φ++[s.heap.objs.size])
     ⟨vq.le,fw _ _,(P.pO.keeps hk).put hd,P.link.mv J4 (fw _ _) z,P.gens,P.os,.put (by intro _ _ h;cases h)⟩
     (.ptr (rg (df (ak P.link.cells.len)) (rg (P.link.cells.len ..) (rg (gz ..) rfl))))
   ·exact k.oH.elim
end
end
section
open PySem PySem.Calls PyProof.Rows PySem.SeqAt PySem.W
theorem rV{o:af aI}{env:Env}(pos:Pos)(h:o.all pG=true):gx pos (dv o env)=o.map λe=>(false,eval e env):=by
 induction o with
 |nil=>rfl
 |cons e r ih =>
  simp only[eQ,aw]at h;have e1:dv (e::r) env=(false,eval e env)::dv r env:=by induction e using aQ<;>first|rfl|cases h.1
  rw[e1];show(false,eval e env)::gx pos (dv r env)=_;exact aD _ (ih h.2)
section
variable{T:pg}{D D':oN}{φ ph:af ay}{c:MC}{env:Env}{A:aX}{st tm:St}{s s':ah}{Q:ag->ah->Prop}{E:ag->ah->Prop}
theorem qC (P:pI T D φ c env A st s) {pos:Pos} {f:ag} {first:af ag} {o:af aI} (hp:o.all pG=true) (S:∀e∈o,SimT T c env A (eval e env) (λs=>oO c e s))
  (hk:∀h,T.b.StaysIn h->∃k,(k=jT\/k=i5\/k=hY)/\dY (model T.prog T.w) h (ke f) k)
  (k:K T D φ c env (λD φ mvs vs=>oK T D φ mvs vs) (pC (pk c o) st) (λmvs y=>T.b.StaysIn y.heap/\wpAny (model T.prog T.w) A (call f (first++mvs)) Q E y) E) :
  wpAny (model T.prog T.w) A (callWith pos f first (gx pos (dv o env)) []) Q E s:=by
 have P7:(gx pos (dv o env)).any (·.1)=false:=by
  rw[rV pos hp]
  induction o with
  |nil=>rfl
  |cons e r ih=>simp
 have sp:=rZ (rn S pos) P k;refine gu (P:=T.b.StaysIn) (by rw[P7];rfl) hk ?_
 rw[rV pos hp]at sp ⊢
 induction o using bN with
 |nil=>exact evalArgs_nil3 (k.ok P.here .nil)
 |cons e r=>exact eI sp
theorem ua{f:ag}(h:(∃i,f=.builtin i)\/∃n,f=.type n)(hp:bP):∃k,(k=jT\/k=i5\/k=hY)/\dY (model T.prog T.w) hp (ke f) k:=by
 rcases h with⟨i,rfl⟩|⟨n,rfl⟩<;>exact o5 .machine (.inr (.inl rfl)) (mF rfl)
theorem EV{fn:Fn}{y:ay}(hf:FnAt T fn y)(hp:bP)(hs:T.b.StaysIn hp):∃k,(k=jT\/k=i5\/k=hY)/\dY (model T.prog T.w) hp (ke (.ref y)) k:=by
 refine sF (hf.obj) λo fd ho hd u_=>?_;refine o5 .frame (.inl rfl) ?_;refine(ky (part:=none) (hs _ _ ho)).andThen ?_;exact(hd)▸(.now)
noncomputable def sS(T:pg)(o:sY)(A:aX):Prop:=∀f fn y,T.g.fns f=some fn->FnAt T fn y->∀c env,qi T c env A->∀D φ st s mvs vs (Q E:ag->ah->Prop),pI T D φ c env A st s ->
 oK T D φ mvs vs->K T D φ c env (VR T) (uv st (o f vs st.σ)) Q E->wpAny (model T.prog T.w) A (call (.ref y) mvs) Q E s
theorem J9(F:qi T c env A)(P:pI T D φ c env A st s){mvs:af ag}{vs:af V}(r:oK T D φ mvs vs)(k:K T D φ c env (VR T) (wC vs st) Q E):wpAny (model T.prog T.w) A (call (.ref T.Pd) mvs) Q E s:=by
 refine(let C:Prop:=_;(?_:C))
 refine K.one r k λmv v e h k=>?_;subst e;refine K.ptr h k λn h k=>?_
 ·refine o8 (h.xm) λa y p=>?_;subst y;refine F.top.Sh A E Q s a P.stays F.hd F.room F.units λh' x M O tk U H hk hx z sx h1 h2=>?_
  have Pe:∀b,s.heap.get? b=none->D b=none:=λb hb=>by
   cases q:D b with
   |none=>rfl
   |some sp=>refine p8 ((P.pO _ _ q).get) λo ho=>?_;rw[hb]at ho;exact(nS ho).elim
  have g1:=P.more (tk:=H) hk (Pe x hx) h1;have P1:=P.good g1;have g2:=P1.more (tk:=H) (h':=h') (λu_ u_ e=>e) ((oN.pj _ _ (b3 sx))▸Pe M z) h2;refine k.ok (g1.trans g2) (.ev ?_ (oN.oV ..) (.ptr p));rw[oN.pj _ _ sx];exact oN.oV ..
theorem Ka(F:qi T c env A)(P:pI T D φ c env A st s){mvs:af ag}{vs:af V}(r:oK T D φ mvs vs)(k:K T D φ c env (VR T) (uN vs st) Q E):wpAny (model T.prog T.w) A (call (.ref T.Eb) mvs) Q E s:=by
 refine(let C:Prop:=_;(?_:C))
 refine K.two r k λz H v w e h1 h2 k=>?_;subst e;replace k:=k.ite.2
 ··refine F.top.L8 A E Q s z H P.stays F.hd F.room F.units λh' e d M O x1 t1 x2 t2 n y hk U hd sx Y q2 q3 q4=>?_
   have Pe:∀b,s.heap.get? b=none->D b=none:=λb hb=>by
    cases q:D b with
    |none=>rfl
    |some sp=>refine p8 ((P.pO _ _ q).get) λo ho=>?_;rw[hb]at ho;exact(nS ho).elim
   have g1:Good T D φ (D.put e (.xc d)) φ c env st {s with heap:=h',toks:=y}:=P.alloc (Pe e U) hk (uL M O Y q2)
   have P1:=P.good g1;have g2:=P1.more (tk:=y) (h':=h') (λu_ u_ e=>e) ((oN.pj _ _ (b3 sx))▸Pe d hd) q4;have g:=g1.trans g2;refine k.ok g (.wx ?_ (oN.oV ..) (h1.mono g.le g.pre) (h2.mono g.le g.pre));exact(oN.pj _ _ sx)▸(oN.oV ..)
theorem Bu{x:Int}:∀{l:af Int},l.Pairwise (· < ·)->(qN x l).Pairwise (· < ·)/\∀y,y∈qN x l↔y=x\/y∈l:=by
 intro l
 induction l with
 |nil=>intro _;exact⟨List.pairwise_singleton ..,λy=>bk⟩
 |cons j r ih =>
  intro h;rw[lx]at h;obtain⟨i1,i2⟩:=ih h.2;refine(?_:(if x<j then x::j::r else if x=j then j::r else j::qN x r).Pairwise (· < ·)/\∀y,y∈(if x<j then x::j::r else if x=j then j::r else j::qN x r)↔_)
  split
  ·rename_i hx;refine⟨List.pairwise_cons.mpr ⟨λy hy=>?_,List.pairwise_cons.mpr h⟩,λy=>by simp⟩
   refine(let C:Prop:=_;(?_:C))
   rcases List.mem_cons.mp hy with rfl|hy
   ·exact hx
   ·have:=h.1 y hy;exact Ym (.a .x (.n 1)) .y (.a .y (.n 1)) .z (w:=0) (.a .x (.n 1)) .z rfl hx this
  ·split
   ·rename_i hx;subst hx;exact⟨List.pairwise_cons.mpr h,λy=>by simp⟩
   ·rename_i h1 h2;refine⟨List.pairwise_cons.mpr ⟨λy hy=>?_,i1⟩,λy=>?_⟩
    ·rcases(i2 y).mp hy with rfl|hy
     ·lia
     ·exact h.1 y hy
    ·rw[bk,bk,i2];exact or_left_comm
theorem Sm:∀l:af Int,(qj l).Pairwise (· < ·)/\∀y,y∈qj l↔y∈l:=by
 intro l
 induction l with
 |nil=>exact⟨.nil,λy=>by simp[qj]⟩
 |cons x r ih =>
  have:=Bu (x:=x) ih.1;exact⟨this.1,λy=>by rw[bk,<-ih.2 y];exact this.2 y⟩
theorem Hb:∀{l k:af Int},l.Pairwise (· < ·)->k.Pairwise (· < ·)->(∀y,y∈l↔y∈k)->l=k:=by
 intro l
 induction l with
 |nil =>
  intro k _ _ h
  induction k using bN with
  |nil=>rfl
  |cons y r=>exact absurd ((h y).mpr az) (by simp)
 |cons x l ih =>
  intro k hl hk h
  induction k using bN with
  |nil=>exact absurd ((h x).mp az) (by simp)
  |cons y k =>
   rw[lx]at hl hk
   have o:x=y:=by
    refine(List.mem_cons.mp ((h x).mp az)).elim (λe=>?_) (λh1=>?_)
    ·exact e
    ·refine(List.mem_cons.mp ((h y).mpr az)).elim (λe=>?_) (λh2=>?_)
     ·exact e.symm
     ·have:=hk.1 x h1;have:=hl.1 y h2;lia
   subst o
   congr 1
   refine ih hl.2 hk.2 λz=>⟨λhz=>?_,λhz=>?_⟩
   ·refine(List.mem_cons.mp ((h z).mp (aA _ hz))).elim (λe=>?_) (λh1=>?_)
    ·subst e;exact absurd (hl.1 z hz) (by exact dt.2 (S5  (w:=0) (z:=0) (y:=0) .x .x rfl ))
    ·exact h1
   ·refine(List.mem_cons.mp ((h z).mpr (aA _ hz))).elim (λe=>?_) (λh1=>?_)
    ·subst e;exact absurd (hk.1 z hz) (by exact dt.2 (S5  (w:=0) (z:=0) (y:=0) .x .x rfl ))
    ·exact h1
theorem Mz{T:pg}{D:oN}{φ:af ay}{mvs:af ag}{l:af V}{ns:af Int}(h:oK T D φ mvs l)(e:q7 l=some ns):gU mvs ns:=by
 obtain rfl:=yR e;exact h.ints
theorem MA{T:pg}{D:oN}{φ:af ay}{mvs:af ag}{ns:af Int}(h:gU mvs ns):oK T D φ mvs (ns.map .int):=by
 induction h with
 |nil=>exact .nil
 |cons n t _ ih=>exact .cons (.int n t) ih
theorem P8(F:qi T c env A)(P:pI T D φ c env A st s){mvs:af ag}{vs:af V}(r:oK T D φ mvs vs)(k:K T D φ c env (VR T) (zH vs st) Q E):wpAny (model T.prog T.w) A (call (.type "set") mvs) Q E s:=by
 refine(let C:Prop:=_;(?_:C))
 refine K.one r k λmv v e h k=>?_;subst e;refine K.lst h k λl h k=>?_;refine K.PT k λns o k=>?_;obtain⟨hl,k⟩:=k.ite
 ·obtain⟨a,vs,n,rfl,p,q,r⟩:=h.lst_inv;refine(let C:Prop:=_;(?_:C))
  ··have hI:=Mz r o;have hsz:vs.size<=4:=by have:=r.length;simp only[aM]at this;exact vS .x (.n 4) .y .x .y (.n 4) rfl hl (ak this)
    refine LX (ns:=ns) F.hd ⟨_,P.heap p,rfl,_,rfl⟩ hI hsz λh' tk hS hk=>?_;refine(let C:Prop:=_;(?_:C))
    obtain⟨es,ep,t,ho,h1,h2,h3,h4,h5,h6,h7⟩:=hS;have pd:=iT hI;simp only[aM]at pd;refine k.ok (P.alloc (sp:=.fz _) (tk:=tk) P.pO.fresh hk ho) (.rO (oN.oV ..) ⟨es,ep,t,rfl,h1,h2,h3,h4,by exact vS .x (.n 4) .y .x .y (.n 4) rfl hsz h5,h6,λz=>?_,(Sm ns).1⟩)
    rw[h7,(Sm ns).2,cJ (by exact pZ .x .y .x .y rfl (ak pd.symm))]
set_option tactic.hygienic true in
theorem Hc(F:qi T c env A)(P:pI T D φ c env A st s){mvs:af ag}{vs:af V}(r:oK T D φ mvs vs)(k:K T D φ c env (VR T) (tL vs st) Q E):wpAny (model T.prog T.w) A (call (.builtin "sorted") mvs) Q E s:=by
 refine(let C:Prop:=_;(?_:C))
 refine K.one r k λmv v e h k=>?_;subst e;refine K.rO h k λl h k=>?_;obtain⟨hl,k⟩:=k.ite
 ·refine sF (h.inv) λa o H p so=>?_;subst H
  ·obtain⟨es,ep,t,rfl,h1,h2,h3,h4,h5,h6,h7,h8⟩:=so;have Bh:l.Nodup:=h8.imp λ{x y} M=>by exact Int.ne_of_lt M
   have Pc:(es.toList.map tN).Perm l:=(List.perm_ext_iff_of_nodup h6 Bh).mpr h7;have yc:l.length<=4:=by rw[<-Pc.length_eq,aK,aM];exact h5
   refine GI (ns:=l) (n:=4) F.hd ⟨es,ep,t,P.heap p,h1,h2,h3,h4,h5,h6,λz=>by rw[h7,cJ yc]⟩ (aL _) λh' tk B out e O hB hn hk hI hs hm=>?_
   have U:O=l:=Hb hs h8 λz=>by rw[hm,cJ yc]
   refine(let C:Prop:=_;(?_:C))
   cases U;have pd:=iT hI;simp only[aM]at pd
   have Y:D B=none:=by
    cases q:D B with
    |none=>rfl
    |some sp=>obtain⟨o,ho⟩:=(P.pO _ _ q).get;rw[hn]at ho;exact(nS ho).elim
   exact k.ok (P.alloc (sp:=.fz _) (tk:=tk) Y hk hB) (.lst (oN.oV ..) (by unfold qf;exact vS .x .y .y (.n 4) .x (.n 1000000) rfl (ak pd) yc) (MA hI))
theorem MB{f:Str}(h:qx.any (λp=>f==aa p.1)=true):∃p∈qx,f=aa p.1:=by
 refine o8 (List.any_eq_true.mp h) λp hp e=>?_;exact o5 p hp (beq_iff_eq.mp e)
theorem EW (F:qi T c env A) (P:pI T D φ c env A st s) {p:cR×ag} (hp:p∈qx) {mvs:af ag} {vs:af V} (r:oK T D φ mvs vs)
  (k:K T D φ c env (VR T) (sZ (aa p.1) vs st) Q E):wpAny (model T.prog T.w) A (call p.2 mvs) Q E s:=by
 simp only[qx,bk,bf,dn]at hp;rcases hp with rfl|rfl|rfl|rfl|rfl|rfl|rfl|rfl|rfl|rfl|rfl|rfl|rfl|rfl|rfl
 ·exact PU P r k
 ·exact Aa P r k
 ·exact PY F P r k
 ·exact PX F P r k
 ·exact PW P r k
 ·exact Hc F P r k
 ·exact PV P r k
 ·exact Ha P r k
 ·exact C1 F P r k
 ·exact J8 P r k
 ·exact PZ P r k
 ·exact P8 F P r k
 ·exact My F P r k
 ·exact k.oH.elim
 ·exact k.oH.elim
theorem C2{p:cR×ag}(hp:p∈qx):(∃i,p.2=.builtin i)\/∃n,p.2=.type n:=by
 simp only[qx,bk,bf,dn]at hp;refine(let C:Prop:=_;(?_:C))
 rcases hp with rfl|rfl|rfl|rfl|rfl|rfl|rfl|rfl|rfl|rfl|rfl|rfl|rfl|rfl|rfl<;>first|exact .inl ⟨_,rfl⟩|exact .inr ⟨_,rfl⟩
set_option tactic.hygienic true in
theorem C3 (F:qi T c env A) (H:sS T c.call A) {f:Str} {p pos:Pos} {y:af aI} (hp:y.all pG=true) (S:∀e∈y,SimT T c env A (eval e env) (λs=>oO c e s))
  (P:pI T D φ c env A st s) (k:K T D φ c env (VR T) (s7 c (.Name f p) y (λs=>zJ c (.Name f p) s) (pk c y) st) Q E):wpAny (model T.prog T.w) A (eval (.Call (.Name f p) y [] pos) env) Q E s:=by
 unfold s7 at k;dsimp only at k;split at k
 ·rename_i hg;simp only[aw]at hg;have hl:c.names.lookup f=some .globalImplicit:=beq_iff_eq.mp hg.1;refine lB rfl ?_;refine(let C:Prop:=_;(?_:C))
  split at k
  ·-- the length of a list acI a name acJ
   rename_i n hn;unfold tF at hn;split at hn
   ·rename_i e;split at hn
    ·rename_i pd;rw[c9]at hn;obtain⟨⟨x,l⟩,ho,rfl⟩:=hn;refine tq (zX ho) λp' U hx MD=>?_;subst U;have hf:=beq_iff_eq.mp pd;subst hf;refine qA (F.top.Wj ("len", .builtin "len") (by simp[qx])) λb1 b2=>?_
     refine sj F P hl b1 b2 ?_;refine gu (P:=λu_=>fh) rfl (λh u_=>(o5 .machine (.inr (.inl rfl)) (mF rfl))) (eI (cZ ?_));refine wH F P hx MD λa mvs ha hv hz r=>er ⟨trivial,?_⟩;have hL:=(P.pO _ _ ha);refine call_len_list hL.isList ((bo)▸EU hz) ?_;refine(bo).symm▸?_;refine(r.length).symm▸?_;exact k.ok P.toks (.int _ _)
    ·exact(nS hn).elim
   ·exact(nS hn).elim
  ·cases o:c.g.fns f with
   |some fn =>
    replace o:=(F.g)▸o;refine o8 (F.top.fns f fn o (F.ok.Es f _ hl)) λfa hm Y=>?_;refine ta F P hl hm ?_;refine qC P hp S (EV Y) (K.bind k λvs z mvs s1 D1 M e1 g1 O k1=>⟨(P.good g1).stays,?_⟩);have Zj:c.g.fns f=some fn:=by rw[F.g];exact o
    unfold qO at k1;rw[Zj]at k1;exact H f fn fa o Y c env F D1 M z s1 mvs vs Q E (P.good g1) O k1
   |none =>
    have hk:=hg.2;unfold BW at hk;replace hk:=(o)▸hk;refine(let ME:_->ah->Prop:=_;let MF:ag->ah->Prop:=_;(?_:wpAny _ _ _ ME MF _))
    by_cases h1:f==aa "Evaluator"
    ·refine(let C:Prop:=_;(?_:C))
     have hf:=beq_iff_eq.mp h1;refine(let C:Prop:=_;(?_:C))
     cases hf;refine(let C:Prop:=_;(?_:C))
     refine ta F P hl F.top.ev ?_;refine qC P hp S (λh hs=>(o5 .machine (.inr (.inl rfl)) (F.top.CQ _ (.inl rfl) h hs))) (K.bind k λvs z mvs s1 D1 M e1 g1 O k1=>⟨(P.good g1).stays,?_⟩);unfold qO at k1;replace k1:=(o)▸k1;dsimp only at k1;exact J9 F (P.good g1) O k1
    ·by_cases h2:f==aa "EvalFault"
     ·refine(let C:Prop:=_;(?_:C))
      refine(let C:Prop:=_;(?_:C))
      have hf:=beq_iff_eq.mp h2;refine(let C:Prop:=_;(?_:C))
      subst hf;refine ta F P hl F.top.fl ?_;refine qC P hp S (λh hs=>(o5 .machine (.inr (.inl rfl)) (F.top.CQ _ (.inr rfl) h hs))) (K.bind k λvs z mvs s1 D1 M e1 g1 O k1=>⟨(P.good g1).stays,?_⟩);unfold qO at k1;rw[o]at k1;dsimp only at k1;exact Ka F (P.good g1) O k1
     ·have hk':qx.any (λp=>f==aa p.1)=true:=by
       have Ws:(f==aa "Evaluator")=false:=by simpa using h1
       have P9:(f==aa "EvalFault")=false:=by simpa using h2
       simpa only [Option.isSome_none,Ws,P9,eT]using hk
      refine o8 (MB hk') λq hq hf=>?_;subst hf;refine qA (F.top.Wj q hq) λb1 b2=>?_;refine sj F P hl b1 b2 ?_;refine qC P hp S (λh u_=>ua (C2 hq) h) (K.bind k λvs z mvs s1 D1 M e1 g1 O k1=>⟨(P.good g1).stays,?_⟩);unfold qO at k1;replace k1:=(o)▸k1;dsimp only at k1;rw[aT h1,aT h2]at k1;exact EW F (P.good g1) hq O k1
 ·exact k.oH.elim
end
end
section
open PySem PySem.Calls PyProof.Rows PySem.SeqAt PySem.W PySem.MeetsSeq
theorem yu:lE (.builtin "list.extend")=pure (.type "method_descriptor"):=by show builtinType _=_;refine rg (mB) ?_;kernel_rfl
theorem Bv:lE (.builtin "list.pop")=pure (.type "method_descriptor"):=by show builtinType _=_;refine rg (mB) ?_;kernel_rfl
theorem Kb{o:aI}{m:Str}{q p:Pos}{y:af aI}(h:uO (.Attribute o m q) y p=true):y.all pG=true/\y.length<30/\(q.endLine==p.line)=true/\sG o=true:=by
 replace h:(y.all pG&&decide (y.length<30)&&(q.endLine==p.line&&sG o))=true:=h;simp only[aw,aw,aw]at h;exact JC h.1.1 (bR h.1.2) h.2.1 h.2.2
theorem uV{f:aI}{p:Pos}{o:af aI}(h:uO f o p=true):o.all pG=true:=by
 exact(Bool.and_eq_true_iff.mp (Bool.and_eq_true_iff.mp (show(_&&_&&_)=true from h)).1).1
section
variable{MM:Model}{A:aX}{E:ag->ah->Prop}{s:ah}{env:Env}
theorem yS {o:aI} {m:Str} {q p:Pos} {y:af aI} {Q:ag->ah->Prop} (hr:uO (.Attribute o m q) y p=true)
  (h:wpAny MM A (eval o env) (λU z=>∀Y,wpAny MM A (getMethod U m Y) (λO C=>wpAny MM A (callWith p O.1 O.2 (gx p (dv y env)) []) Q E C) E z) E s) :
  wpAny MM A (eval (.Call (.Attribute o m q) y [] p) env) Q E s:=by
 refine YL (Kb hr) λh1 h2 h3 h4=>?_;simp only[arm_eval_Call,uR h4];refine ae (cE h (λU z H=>?_) λu_ u_ e=>e);refine ae (bh ?_)
 have Sn:kd (y.length+([]:af j7).length) (gx p (dv y env)) (backToKw p (keywordEach [] env))=true:=by
  unfold kd;refine rg (rV p h1) ?_
  have e1:(y.map λe=>(false,eval e env)).all (λx=>!x.1)=true:=by
   exact rg (j6 ..) (List.all_eq_true.mpr λu_ u_=>rfl)
  refine rg (e1 ..) ?_;show(true&&true&&decide (y.length+0+0<30))=true;simp;omega
 have Qa:iF true o env q p=pure p:=by unfold iF;simp[h3]
 unfold methodCall;refine rg (Sn) ?_;refine ae (a7 (cE (H _) (λO C M=>?_) λu_ u_ e=>e));obtain⟨f,first⟩:=O
 exact ae (cw Qa M)
end
section
variable{T:pg}{D D':oN}{φ ph:af ay}{c:MC}{env:Env}{A:aX}{st tm:St}{s s':ah}{Q:ag->ah->Prop}{E:ag->ah->Prop}
theorem Ab (P:pI T D φ c env A st s) {x:Str} {a:ay} {vs o:af ag} {l':af V} {h':bP} (ha:D a=some (.own x vs)) (hv:rd D env x (.ref a)) (hz:o.length<=qf) (hr:oK T D φ o l')
  (hp:h'.PlainList a o.toArray) (hs:fm a s.heap h'):Good T D φ (D.put a (.own x o)) φ c env {st with ρ:=oZ st.ρ x (.own l')} {s with heap:=h'}:=by
 have le:D.Le (D.put a (.own x o)):=oN.Le.put λz e=>by rw[ha]at e;obtain rfl:=ai e;rfl
 refine⟨le,ao _,P.pO.turn hs hp,P.link.turn ha hv (.own (oN.oV ..) hz (hr.mono le (ao _))),P.gens,P.os,λb y H e=>?_⟩;refine(let C:Prop:=_;(?_:C))
 by_cases hb:b=a
 ·subst hb;rw[oN.oV]at e;cases e;exact⟨_,ha⟩
 ·rw[oN.pj _ _ hb]at e;exact⟨_,e⟩
set_option tactic.hygienic true in
theorem EX (F:qi T c env A) {o:aI} {m:Str} {q p:Pos} {U:af aI} (hr:uO (.Attribute o m q) U p=true) (S:∀e∈U,SimT T c env A (eval e env) (λs=>oO c e s))
  (P:pI T D φ c env A st s) {x:Str} {l:af V} (ho:owned c o st=some (x,l)) (k:K T D φ c env (VR T) (ownCall x m (pk c U) st) Q E):wpAny (model T.prog T.w) A (eval (.Call (.Attribute o m q) U [] p) env) Q E s:=by
 refine tq (zX ho) λp' Zk hx MD=>?_;subst Zk;have Pc:=uV hr;unfold ownCall at k;split at k
 ·rename_i hm;refine yS hr (wH F P hx MD λa mvs ha hv hz r pl=>?_);have hT:=(P.pO _ _ ha).isList
  have hD:s.heap.NoDictAt (.ref a):=by
   refine p8 (P.pO _ _ ha) λn e=>?_;exact o5 _ e rfl
  have go:∀id,(∃i,cQ id=.builtin i)->(∀vs Y H s1 D1 O,pI T D1 O c env A Y s1->∀M l1,D1 a=some (.own x M)->rd D1 env x (.ref a)->M.length<=qf->oK T D1 O M l1->oK T D1 O H vs ->
    K T D1 O c env (VR T) (sA x l1 m vs Y) Q E->wpAny (model T.prog T.w) A (call (.builtin id) (.ref a::H)) Q E s1)->wpAny (model T.prog T.w) A (callWith p (.builtin id) [.ref a] (gx p (dv U env)) []) Q E s:=λid CP go=>by
   refine(let C:Prop:=_;(?_:C))
   refine qC P Pc S (λh u_=>ua (.inl CP) h) (K.bind k λvs Y H s1 D1 O e1 g1 r1 k1=>⟨(P.good g1).stays,?_⟩);have P1:=P.good g1;refine(let C:Prop:=_;(?_:C))
   split at k1
   ·rename_i l1 Zl;refine o8 (P1.link.vars x _ Zl nofun) λmv TH hb=>?_;cases hb with
    |@own a' M l1 o1 z1 r2 =>
     refine p8 (g1.back a' x M o1) λws' e'=>?_;have hae:a'=a:=P.uniq a' a x _ _ e' ha;cases hae;exact go vs Y H s1 D1 O P1 M l1 o1 TH z1 r2 r1 k1
   ·exact k1.oH.elim
  unfold zo at hm;rw[bZ,bZ]at hm;rcases hm with(hm|hm)|hm
  ·have hm:=beq_iff_eq.mp hm;subst hm;refine jb slot_list_append type_list_append hT hD (go _ ⟨_,rfl⟩ ?_);intro vs Y H s1 D1 O P1 M l1 o1 TH z1 r2 r1 k1;unfold sA at k1;rw[aO (by rfl)]at k1
   refine K.one r1 k1 λmv v e h k1=>?_;subst e;obtain⟨ug,k1⟩:=k1.ite
   ··have pd:=r2.length;refine k9 (P1.pO _ _ o1) (λh' hp' Y1=>?_) (rg (bo ..) (qa z1));have:M.toArray.push mv=(M++[mv]).toArray:=by simp
     rw[this]at hp';exact k1.ok (Ab P1 o1 TH (by rw[av];simp;exact vS .x .y (.a .y (.n 1)) (.n 1000000) (.a .x (.n 1)) (.n 1000000) rfl (ak pd) ug) (r2.append (.cons h .nil)) hp' Y1) .none
  ·have hm:=beq_iff_eq.mp hm;subst hm;refine jb jf yu hT hD (go _ ⟨_,rfl⟩ ?_);intro vs Y H s1 D1 O P1 M l1 o1 TH z1 r2 r1 k1;unfold sA at k1;rw[aT (by decide +kernel),aO (by rfl)]at k1
   refine K.one r1 k1 λmv v e h k1=>?_;subst e;refine K.lst h k1 λkk h k1=>?_;obtain⟨ug,k1⟩:=k1.ite
   ··have pd:=r2.length;refine vp (h.lst_inv) λb its n2 Zm q1 q2 q3=>?_;subst Zm;refine p8 (P1.pO _ _ o1) λn hn=>?_;have TJ:=q3.length;simp only[aM]at TJ;have hzz:M.toArray.size+its.size<=qf:=by rw[bo];exact CJ (.a .x .y) (.n 1000000) .z .x .w .y (.a .z .w) (.n 1000000) rfl ug (ak pd) (ak TJ)
     refine kj jf (o5 _ hn rfl) PySem.F.entry_list_extend (PySem.F.args_list_extend_2 _ _)
      (AutoSeq1.list_extend_list_list_0 a M.toArray n b its n2 (extend_door (qa hzz)) (qa (by omega)) (fP (qa hzz))) (qB hn (P1.heap q1) ?_)
     have e1:=bu (Obj.mapSeq λx=>x++its) hn (rg (mapSeq_app ..) rfl);simp only[mapSeq_app]at e1;have e2:M.toArray++its=(M++its.toList).toArray:=by simp
     rw[e2]at e1;exact k1.ok (Ab P1 o1 TH (by rw[av,aM];omega) (r2.append q3) ⟨_,e1⟩ (bK ..)) .none
  ·have hm:=beq_iff_eq.mp hm;refine(let C:Prop:=_;(?_:C))
   subst hm;refine jb jM Bv hT hD (go _ ⟨_,rfl⟩ ?_);intro vs Y H s1 D1 O P1 M l1 o1 TH z1 r2 r1 k1;unfold sA at k1;rw[aT (by decide +kernel),aT (by decide +kernel)]at k1
   refine(let C:Prop:=_;(?_:C))
   refine K.zero r1 k1 λe k1=>?_;subst e;refine K.PT k1 λv B9 k1=>?_
   ·refine p8 (P1.pO _ _ o1) λn hn=>?_;have pd:=r2.length;have sx:l1≠[]:=by rintro rfl;exact(nS B9).elim
    have Qa:0<l1.length:=List.length_pos_iff.mpr sx;rw[List.getLast?_eq_getElem?]at B9;refine(let C:Prop:=_;(?_:C))
    refine o8 (r2.at B9) λmv e1 hr1=>?_;have hi:M.toArray.size-1=l1.length-1:=rg (bo ..) (rg (pd ..) rfl)
    refine kj jM (o5 _ hn rfl) PySem.F.entry_list_pop (PySem.F.args_list_pop_1 _)
     (list_pop_last a M.toArray n mv (by rw[hi];simpa using e1) (rg (bo ..) (qa z1))) ⟨hn,?_⟩
    have hm:=get?_update_seq (h:=s1.heap) (a:=a) (c:="list") (xs:=M.toArray) (n:=n) hn (λxs=>xs.eraseIdxIfInBounds (M.toArray.size-1))
    have e2:M.toArray.eraseIdxIfInBounds (M.toArray.size-1)=M.dropLast.toArray:=by
     simp[List.eraseIdx_length_sub_one]
    rw[e2]at hm
    have r3:oK T D1 O M.dropLast l1.dropLast:=by
     simp only[kB,kB,pd];exact r2.take _
    have g:=Ab P1 o1 TH (by rw[List.length_dropLast];exact vS .x (.n 1000000) .y .x .y (.n 1000000) rfl z1 (aP _ _)) r3 ⟨_,hm⟩ (bK ..)
    exact k1.ok g (hr1.mono g.le g.pre)
 ·exact k.oH.elim
set_option tactic.hygienic true in
theorem C4 (F:qi T c env A) (H:sS T c.call A) {o:aI} {m:Str} {q p:Pos} {y:af aI} (hr:uO (.Attribute o m q) y p=true) (So:SimT T c env A (eval o env) (λs=>oO c o s))
  (S:∀e∈y,SimT T c env A (eval e env) (λs=>oO c e s)) (P:pI T D φ c env A st s) (k:K T D φ c env (VR T) (uw c m (λs=>oO c o s) (pk c y) st) Q E) :
  wpAny (model T.prog T.w) A (eval (.Call (.Attribute o m q) y [] p) env) Q E s:=by
 unfold uw at k;refine yS hr (So _ _ _ _ _ _ P (K.bind k λv CU mv s1 D1 Tz e1 g1 r1 k1 pl=>?_));have P1:=P.good g1;refine(let C:Prop:=_;(?_:C))
 cases r1 with
 |@ev x dx Y tk mw n v h1 h2 h3 =>
  dsimp only at k1;split at k1
  ·rename_i fn Zn;have z:T.g.fns (oU m)=some fn:=rl (F.g ..) Zn;refine o8 (F.top.meths m fn z) λfa M MG=>?_;refine MG A E _ s1 x dx Y tk mw n pl P1.stays (P1.heap h1) (P1.heap h2) ?_;refine qC P1 (uV hr) S (EV M) (K.bind k1 λvs CT mvs s2 D2 O e2 g2 r2 k2=>⟨(P1.good g2).stays,?_⟩);have U:oR T D2 O (.ref x) (.ev v):=(oR.ev h1 h2 h3).mono g2.le g2.pre;exact H (oU m) fn fa z M c env F D2 O CT s2 (.ref x::mvs) (.ev v::vs) Q E (P1.good g2) (.cons U r2) k2
  ·exact k1.oH.elim
 |_=>exact k1.oH.elim
set_option tactic.hygienic true in
theorem MH (F:qi T c env A) (H:sS T c.call A) {func:aI} {y:af aI} {z:af j7} {p:Pos} (M:∀o m q,func=.Attribute o m q->SimT T c env A (eval o env) (λs=>oO c o s))
  (S:∀e∈y,SimT T c env A (eval e env) (λs=>oO c e s)):SimT T c env A (eval (.Call func y z p) env) (λs=>oO c (.Call func y z p) s):=λD φ st s Q E P k=>by
 dsimp only at k;simp only[Lz]at k;refine(let C:Prop:=_;(?_:C))
 split at k
 ·rename_i h;simp only[aw]at h;have hk:z=[]:=by simpa using h.1
  subst hk
  induction func using aQ with
  |Name f q=>exact C3 F H (uV h.2) S P k
  |Attribute o m q =>
   unfold s7 at k;dsimp only at k;split at k
   ·rename_i x l ho;exact EX F h.2 S P ho k
   ·refine C4 F H h.2 (M o m q rfl) S P ?_;have e:(λs=>zJ c (.Attribute o m q) s)=λs=>oO c o s:=by funext s;simp only[LH]
    exact k
  |_=>exact k.oH.elim
 ·exact k.oH.elim
end
section
variable(c:MC)(s:St)
theorem Zo(op:nu)(x:aI)(p:Pos)(w:St->R V)(h:op≠.Not):s9 c (.UnaryOp op x p) w s=tu (w s):=by
 induction op using fG with
 |Not=>exact(h rfl).elim
 |_=>rfl
theorem TK(b:aN):q9 c b [] s=.ok b s:=rfl
end
section
variable{T:pg}{D D':oN}{φ ph:af ay}{c:MC}{env:Env}{A:aX}{st tm:St}{s s':ah}{E:ag->ah->Prop}
noncomputable abbrev sH(T:pg)(c:MC)(env:Env)(A:aX)(e:aI):Prop:=B0 T c env A (isTrue e env (eval e env)) (λs=>s9 c e (λs=>oO c e s) s)
noncomputable abbrev pT(T:pg)(c:MC)(env:Env)(A:aX)(e:aI):Prop:=SimT T c env A (eval e env) (λs=>oO c e s)
theorem C5{op:BoolOp}{vs:af aI}{pos:Pos}{o:Sem ag}(h:∀e∈vs,sH T c env A e):B0 T c env A (isTrue (.BoolOp op vs pos) env o) (λs=>q9 c (op==.And) vs s):=by
 induction vs with
 |nil =>
  intro D φ st s Q E P k;dsimp only at k;simp only[TK]at k
  induction op using iW with
  |And=>exact isTrue_and_nil (k.ok P.here rfl)
  |Or=>exact isTrue_or_nil (k.ok P.here rfl)
 |cons e r ih =>
  intro D φ st s Q E P k;dsimp only at k;have M:=h e az;have y:=ih λx hx=>h x (aA _ hx);cases op with
  |And =>
   refine isTrue_and (M _ _ _ _ _ _ P (K.bind k λv z mv O U C e1 g1 H k1=>?_));subst H;cases mv with
   |true=>exact y _ _ _ _ _ _ (P.good g1) k1
   |false=>exact k1.ok (P.good g1).here rfl
  |Or =>
   refine isTrue_or (M _ _ _ _ _ _ P (K.bind k λv z mv O U C e1 g1 H k1=>?_));subst H;cases mv with
   |false=>exact y _ _ _ _ _ _ (P.good g1) k1
   |true=>exact k1.ok (P.good g1).here rfl
theorem Hd(F:qi T c env A){e:aI}(U:pT T c env A e)(ih:∀x,sizeOf x<sizeOf e->pT T c env A x/\sH T c env A x):sH T c env A e:=by
 have plain:isTrue e env (eval e env)=(do let v <- eval e env;gQ e.pos;fJ [v] (jW v))->(∀s,s9 c e (λs=>oO c e s) s=tu (oO c e s))->sH T c env A e:=λh1 h2 D φ st s Q E P k=>by
  dsimp only at k;rw[h2]at k;exact Bo U h1 D φ st s Q E P k
 cases e with
 |UnaryOp op x p =>
  by_cases o:op=.Not
  ·refine(let C:Prop:=_;(?_:C))
   subst o;intro D φ st s Q E P k;dsimp only at k;refine isTrue_not ((ih x (by simp;exact xb  (.a .x (.n 1)) (.a (.a (.n 2) .x) .y) rfl )).2 _ _ _ _ _ _ P (K.bind k λv H mv Y D1 M e1 g1 O k1=>?_))
   subst O;exact k1.ok (P.good g1).here rfl
  ·exact plain (by cases op<;>first|rfl|exact absurd rfl o) λs=>Zo _ _ _ _ _ _ o
 |BoolOp op vs p =>
  intro D φ st s Q E P k;dsimp only at k;exact C5 (λx hx=>(ih x (by have:=bz hx;simp;exact Lm (.a .x (.n 1)) .y (.a .x (.n 1)) (.a (.a (.a (.n 1) .z) .y) .w) rfl this)).2) D φ st s Q E P k
 |IfExp t a b p =>
  intro D φ st s Q E P k;dsimp only at k;refine isTrue_IfExp ((ih t (by simp;exact CI  (.a .x (.n 1)) (.a (.a (.a (.a (.n 1) .x) .y) .z) .w) rfl )).2 _ _ _ _ _ _ P (K.bind k λv H mv Y D1 M e1 g1 O k1=>?_))
  subst O
  induction mv using aJ with
  |true=>exact(ih a (by simp;exact CI  (.a .x (.n 1)) (.a (.a (.a (.a (.n 1) .y) .x) .z) .w) rfl )).2 _ _ _ _ _ _ (P.good g1) k1
  |false=>exact(ih b (by simp;exact CI  (.a .x (.n 1)) (.a (.a (.a (.a (.n 1) .y) .z) .x) .w) rfl )).2 _ _ _ _ _ _ (P.good g1) k1
 |Compare l ops cs p =>
  intro D φ st s Q E P k;dsimp only at k;exact CR F (ih l (by simp;exact CI  (.a .x (.n 1)) (.a (.a (.a (.a (.n 1) .x) .y) .z) .w) rfl )).1 (λx hx=>(ih x (by have:=bz hx;simp;exact Lm (.a .x (.n 1)) .y (.a .x (.n 1)) (.a (.a .z .y) .w) rfl this)).1) _ D φ st s Q E P k
 |_=>exact plain rfl λs=>rfl
end
noncomputable def Sp.dropped(x:Str)(sp:Sp):au Sp:=match sp with
 |.own y vs=>if y=x then none else some (.own y vs)
 |_=>some sp
noncomputable def oN.drop(D:oN)(x:Str):oN:=λa=>(D a).bind (Sp.dropped x)
theorem oN.zq{D:oN}{x:Str}{a:ay}{sp:Sp}(h:D a=some sp)(hn:∀vs,sp≠.own x vs):D.drop x a=some sp:=by
 unfold oN.drop;refine rg (h) ?_
 induction sp using Sp.casesOn with
 |own y vs=>exact aT λe=>hn vs (by exact rg (e ..) rfl)
 |_=>rfl
theorem oN.tJ{D:oN}{x:Str}{a:ay}{sp:Sp}(h:D.drop x a=some sp):D a=some sp/\∀vs,sp≠.own x vs:=by
 refine qH h λo e h=>?_
 induction o using Sp.casesOn with
 |own y vs =>
  by_cases hy:y=x
  ·exact(nS ((aO hy).symm.trans h)).elim
  ·obtain rfl:=ai ((aT hy).symm.trans h);exact⟨e,λz q=>by cases q;exact hy rfl⟩
 |_=>obtain rfl:=ai h;exact⟨e,λvs q=>nomatch q⟩
theorem oN.Ca(D:oN)(x:Str):D.Back (D.drop x):=λa y vs h=>⟨vs,(oN.tJ h).1⟩
theorem oN.C6{T:pg}{D:oN}{h:bP}(I:D.In T h)(x:Str):(D.drop x).In T h:=λa sp e=>I a sp (oN.tJ e).1
theorem oN.xq(D:oN)(x:Str):D.Le (D.drop x):=λa sp h hs=>oN.zq h λvs e=>by subst e;exact(nF hs).elim
section
variable{T:pg}{D D' D₁:oN}{φ ph:af ay}{c:MC}{env:Env}{A:aX}{st tm:St}{s s':ah}{E:ag->ah->Prop}
theorem Link.store (L:Link T D φ c env st) {x:Str} {mv:ag} {b:pq} {t:ay} {sp:Sp} (yc:D.Le D') (hk:∀a sp,D a=some sp->(∀vs,sp≠.own x vs)->a≠t->D' a=some sp) (ht:∃H,D t=some H/\H.tx=true/\∀y vs,H≠.own y vs)
  (hv:rd D' env x mv) (hb:wG T D' φ x mv b) (ho:∀y M,y≠x->rd D env y M->rd D' env y M) (hl:∃m,D' env.locals=some (.ns m))
  (hc:∀y,c.names.lookup y=some .cell->∃O v,env.cells.lookup y=some O/\D' O=some (.cell v)):Link T D' φ c env {st with ρ:=oZ st.ρ x b} where
 locals:=hl
 vars:=λy Y e n=>by
  rw[rK]at e;by_cases hy:y=x
  ·subst hy;rw[aO rfl]at e;obtain rfl:=ai e;exact o5 _ hv hb
  ·replace e:=(aT hy)▸e;refine o8 (L.vars y Y e n) λM p q=>?_;refine o5 M (ho y M hy p) ?_;cases q with
   |val r=>exact .val (r.mono yc (ao _))
   |own o z r =>
    refine .own (hk _ _ o (λvs e=>?_) ?_) z (r.mono yc (ao _))
    ·cases e;exact hy rfl
    ·rintro rfl;refine tq (ht) λH h1 u_ h3=>?_;rw[o]at h1;obtain rfl:=ai h1;exact h3 _ _ rfl
 p6:=hc
 free:=λy v e=>by
  refine(let C:Prop:=_;(?_:C))
  refine vp (L.free y v e) λO o M p q r z=>?_;exact zF O o M p (yc _ _ q rfl) r (z.mono yc (ao _))
 cells:=by
  refine⟨L.cells.len,L.cells.nodup,λi cl e=>?_⟩;refine(let C:Prop:=_;(?_:C))
  refine sF (L.cells.get i cl e) λa U p q r=>?_;refine tD a U p (hk _ _ q (λvs e=>by cases e) ?_) (r.mono yc)
  rintro rfl;refine tq (ht) λH h1 h2 u_=>?_;rw[q]at h1;obtain rfl:=ai h1;exact(nF h2).elim
theorem yv (F:qi T c env A) (P:pI T D φ c env A st s) {x:Str} {mv:ag} {b:pq} {Q:cV->ah->Prop} (hl:pQ c x=true)
  (Ys:∀a sp,D a=some sp->(∀vs,sp≠.own x vs)->D₁ a=some sp) (Yp:D₁.In T s.heap) (yc:D.Le D₁) (hb:wG T D₁ φ x mv b)
  (h:∀D' h' tk,D.Le D'->D₁.Back D'->D'.In T h'->Link T D' φ c env {st with ρ:=oZ st.ρ x b}->(∀a o,(∀m,D a≠some (.ns m))->(∀v,D a≠some (.cell v))->s.heap.get? a=some o->h'.get? a=some o) ->
   (∀a,D₁ a=none->D' a=none)->Q () {s with heap:=h',toks:=tk}) :
  wpAny (model T.prog T.w) A (storeName env x mv) Q E s:=by
 rcases sQ hl with e|e
 ·have ek:=F.ok.loc x e;refine p8 (P.link.locals) λm hm=>?_;refine hJ ek (P.pO _ _ hm) (λh' hn hs=>?_) (rg (F.ok.kind ..) rfl);refine(let C:Prop:=_;(?_:C))
  refine(let C:Prop:=_;(?_:C))
  have Zp:D₁ env.locals=some (.ns m):=Ys _ _ hm (λvs q=>by cases q)
  have hk:∀a sp,D a=some sp->(∀vs,sp≠.own x vs)->a≠env.locals->(D₁.put env.locals (.ns λy=>if y=x then some mv else m y)) a=some sp:=λa sp q hn ha=>rg (oN.pj _ _ ha) (Ys a sp q hn)
  have H:D.Le (D₁.put env.locals (.ns λy=>if y=x then some mv else m y)):=λa sp q hs=>hk a sp q (λvs e=>by subst e;cases hs) (by rintro rfl;rw[hm]at q;obtain rfl:=ai q;cases hs)
  have M:D₁.Le (D₁.put env.locals (.ns λy=>if y=x then some mv else m y)):=oN.Le.put λsp q=>by rw[Zp]at q;obtain rfl:=ai q;rfl
  refine h (D₁.put env.locals (.ns λy=>if y=x then some mv else m y)) _ _ H (.put (by intro _ _ q;cases q)) (Yp.turn hs hn) ?_ (λa o n1 u_ ho=>(hs.2 a (by rintro rfl;exact n1 _ hm)).trans ho) λa q=>?_
  ·have Qb:wG T (D₁.put env.locals (.ns λy=>if y=x then some mv else m y)) φ x mv b:=by
    cases hb with
    |val r=>exact .val (r.mono M (ao _))
    |own o z r=>exact .own (by rw[oN.pj _ _ (by rintro rfl;rw[Zp]at o;cases o)];exact o) z (r.mono M (ao _))
   refine P.link.store (sp:=.ns m) H hk (qZ _ hm rfl (by intro _ _ q;cases q)) (.inl ⟨ek,_,oN.oV ..,by simp⟩) Qb (λy mw hy p=>?_) ⟨_,oN.oV ..⟩ λy q=>?_
   ·refine(let C:Prop:=_;(?_:C))
    rcases p with⟨k1,m1,O,U⟩|⟨k1,Y,O,U⟩
    ·replace O:=(hm)▸O;cases O;exact .inl ⟨k1,_,oN.oV ..,by simp[hy,U]⟩
    ·refine(let C:Prop:=_;(?_:C))
     exact .inr ⟨k1,Y,O,hk _ _ U (by intro _ q;cases q) (by rintro rfl;rw[hm]at U;cases U)⟩
   ·refine tW (P.link.p6 y q) λY v O U=>?_;refine(let C:Prop:=_;(?_:C))
    exact uL Y v O (hk _ _ U (by intro _ q;cases q) (by rintro rfl;rw[hm]at U;cases U))
  ·exact rg (oN.pj _ _ (by rintro rfl;rw[Zp]at q;cases q)) q
 ·have ek:=F.ok.Tj x e;refine tW (P.link.p6 x e) λY Wt Mw hd=>?_;have Ln:D₁ Y=some (.cell Wt):=Ys _ _ hd (λvs q=>by cases q)
  refine wpAny_storeName_cell F.ok.kind ek Mw (P.pO _ _ hd) (λh' hn hs=>?_);have hk:∀a sp,D a=some sp->(∀vs,sp≠.own x vs)->a≠Y->(D₁.put Y (.cell (some mv))) a=some sp:=λa sp q hn ha=>rg (oN.pj _ _ ha) (Ys a sp q hn);have H:D.Le (D₁.put Y (.cell (some mv))):=λa sp q hs=>hk a sp q (λvs e=>by subst e;cases hs) (by rintro rfl;rw[hd]at q;obtain rfl:=ai q;cases hs)
  have M:D₁.Le (D₁.put Y (.cell (some mv))):=oN.Le.put λsp q=>by rw[Ln]at q;obtain rfl:=ai q;rfl
  refine h (D₁.put Y (.cell (some mv))) _ _ H (.put (by intro _ _ q;cases q)) (Yp.turn hs hn) ?_ (λa o u_ n2 ho=>(hs.2 a (by rintro rfl;exact n2 _ hd)).trans ho) λa q=>?_
  ·have Qb:wG T (D₁.put Y (.cell (some mv))) φ x mv b:=by
    cases hb with
    |val r=>exact .val (r.mono M (ao _))
    |own o z r=>exact .own (by rw[oN.pj _ _ (by rintro rfl;rw[Ln]at o;cases o)];exact o) z (r.mono M (ao _))
   refine P.link.store (sp:=.cell Wt) H hk (qZ _ hd rfl (by intro _ _ q;cases q)) (.inr ⟨ek,Y,Mw,oN.oV ..⟩) Qb (λy mw hy p=>?_) ?_ λy q=>?_
   ·refine(let C:Prop:=_;(?_:C))
    rcases p with⟨k1,m1,O,U⟩|⟨k1,cb,O,U⟩
    ·exact .inl ⟨k1,m1,hk _ _ O (by intro _ q;cases q) (by rintro rfl;rw[hd]at O;cases O),U⟩
    ·have sx:cb≠Y:=by rintro rfl;exact hy (F.ok.inj y x _ O Mw)
     exact .inr ⟨k1,cb,O,hk _ _ U (by intro _ q;cases q) sx⟩
   ·refine p8 (P.link.locals) λm hm=>?_;exact⟨m,hk _ _ hm (by intro _ q;cases q) (by rintro rfl;rw[hd]at hm;cases hm)⟩
   ·refine tW (P.link.p6 y q) λcb v O U=>?_;by_cases sx:cb=Y
    ·subst sx;exact uL _ _ O (oN.oV ..)
    ·exact uL cb v O (hk _ _ U (by intro _ q;cases q) sx)
  ·exact rg (oN.pj _ _ (by rintro rfl;rw[Ln]at q;cases q)) q
theorem He (F:qi T c env A) (P:pI T D φ c env A st s) {x:Str} {mv:ag} {v:V} {Q:cV->ah->Prop} (r:oR T D φ mv v)
  (k:K T D φ c env (λ_ _ (_:cV) (_:cV)=>fh) (qs c x (.val v) st) Q E):wpAny (model T.prog T.w) A (bindName env x mv) Q E s:=by
 unfold qs at k;split at k
 ·rename_i hl;refine eD (yv F P (D₁:=D.drop x) (b:=.val v) hl (λa sp e hn=>oN.zq e hn) (oN.C6 P.pO x) (D.xq x) (.val (r.mono (D.xq x) (ao _))) λD' h' tk a b d e f u_=>?_);exact k.ok (b:=()) ⟨a,ao _,d,e,P.gens,P.os,(D.Ca x).trans b⟩ trivial
 ·exact k.oH.elim
noncomputable def SimG(T:pg)(c:MC)(env:Env)(A:aX)(t:ag->Sem cV)(f:V->St->R cV):Prop :=
 ∀D φ st s mv v (Q:cV->ah->Prop) (E:ag->ah->Prop),pI T D φ c env A st s->oR T D φ mv v->K T D φ c env (λ_ _ (_:cV) (_:cV)=>fh) (f v st) Q E->wpAny (model T.prog T.w) A (t mv) Q E s
theorem Ac(F:qi T c env A){x:Str}{p:Pos}:SimG T c env A (assign (.Name x p) env) (λv s=>o4 c (.Name x p) v s):=λD φ st s mv v Q E P r k=>by
 exact ae (bh (He F P r k))
theorem yT{o:af (ag->Sem cV)}{fs:af (V->St->R cV)}(S:Each (SimG T c env A) o fs):∀{D φ st s} {mvs:af ag} {vs:af V} {Q:cV->ah->Prop} {E:ag->ah->Prop},pI T D φ c env A st s ->
  oK T D φ mvs vs->K T D φ c env (λ_ _ (_:cV) (_:cV)=>fh) (r9 fs vs st) Q E->wpAny (model T.prog T.w) A (assignInOrder o mvs) Q E s:=by
 induction S with
 |nil =>
  intro D φ st s mvs vs Q E P r k;cases r with
  |nil=>exact aj (k.ok P.here trivial)
  |cons=>exact k.oH.elim
 |@cons t f o fs h _ ih =>
  intro D φ st s mvs vs Q E P r k;cases r with
  |nil=>exact k.oH.elim
  |@cons mv mvs v vs a b =>
   refine(let y:ag->ah->Prop:=_;(?_:wpAny _ _ _ _ y _))
   refine ae (a7 (h _ _ _ _ _ _ _ _ P a (K.bind k λu z H M O C e1 g1 U k1=>?_)));exact ih (P.good g1) (b.mono g1.le g1.pre) k1
theorem Hf{I:ay}{fp wr:af ay}{n:Nat}{Pi:Nat->ag->Prop}{St:Nat->bP->Prop}(W:Walks T.prog T.w A I fp wr n Pi St):∀(m i:Nat)(s:ah)(vs:af ag)(Q:af ag->ah->Prop),i+m=n->St i s.heap ->
  (∀C h' tk,C.length=m->(∀j v,C[j]?=some v->Pi (i+j) v)->St n h'->(∀b o,b∉wr->s.heap.get? b=some o->h'.get? b=some o)->Q C {s with heap:=h',toks:=tk})->wpAny (model T.prog T.w) A (draw (.ref I) m) Q E s:=by
 intro m
 induction m with
 |zero=>intro i s vs Q hi Pb O;exact aj (O [] s.heap s.toks rfl (λj v h=>by simp at h) ((show i=n by assumption)▸Pb) λu_ u_ u_ e=>e)
 |succ m ih =>
  intro i s vs Q hi Pb O;refine ae (W.item i s _ _ (by exact ye (.a .x (.a .y (.n 1))) .z (.a .x (.n 1)) .z rfl (ak hi)) Pb λv h1 VL hv H U=>?_)
  refine ae (a7 (ih (i+1) _ vs _ (by exact aZ (ye (.a .x (.a .y (.n 1))) .z (.a (.a .x (.n 1)) .y) .z rfl (ak hi)) (ye .x (.a .y (.a .z (.n 1))) .x (.a (.a .y (.n 1)) .z) rfl (ak hi.symm))) H λC h2 Y hl hws M Qc=>aj ?_))
  refine O (v::C) h2 Y (by simp[hl]) (λj u hj=>?_) M λb o hb e=>Qc b o hb (U b o hb e)
  cases j with
  |zero=>simp at hj;subst hj;exact hv
  |succ j=>simp at hj;have:=hws j u hj;exact(show i+(j+1)=i+1+j by exact aZ (xb  (.a .x (.a .y (.n 1))) (.a (.a .x (.n 1)) .y) rfl ) (xb  (.a (.a .x (.n 1)) .y) (.a .x (.a .y (.n 1))) rfl ))▸(this)
theorem EY {l:ay} {items:bx ag} {Q:af ag->ah->Prop} (hh:A.handled=none) (ht:s.heap.IsList l items)
  (hQ:∀h' tk,(∀b o,s.heap.get? b=some o->h'.get? b=some o)->Q items.toList {s with heap:=h',toks:=tk}):wpAny (model T.prog T.w) A (unpackItems (.ref l) items.size none) Q E s:=by
 have sx:l≠s.heap.objs.size:=by refine o8 (ht) λo ho u_=>?_;exact a5 (aS ho)
 have W:=kP (prog:=T.prog) (w:=T.w) (A:=A) hh s.heap.objs.size l sx items;refine ae ?_;refine(let M:_->ah->Prop:=_;(?_:wpAny _ _ _ M _ _))
 refine ae (eg ht.typeIs slot_list_iter.lookup ?_);refine aj ?_;refine(let C:Prop:=_;(?_:C))
 refine(let C:Prop:=_;(?_:C))
 refine ae (a7 (gp ht ?_));have Pb:(s.heap.push {cls:=.type "list_iterator", data:=.fields #[.ref l,.int 0 0]}).IsListIter s.heap.objs.size l 0:=(qZ _ (aF _ rfl) rfl rfl);refine ae (a7 (Hf W items.size 0 _ [] _ (by exact aZ (sO  (.a (.n 0) .x) .x rfl ) (sO  .x (.a (.n 0) .x) rfl )) ⟨Pb,ht.push _⟩ λO h1 VL hl U H Y=>?_))
 have hw:O=items.toList:=by
  refine List.ext_getElem? λj=>?_;by_cases hj:j<O.length
  ·have:=U j O[j] (aW hj);refine rg (aW hj) ?_
   simpa using this.symm
  ·exact rg (gH (by exact pZ .x .y .x .y rfl (gj hj))) (rg (gH (by simp;exact uJ .x .y .y .z .x .z rfl (ak hl.symm) (gj hj))) rfl)
 subst hw;refine rg (aT (by simp)) ?_
 refine(let C:Prop:=_;(?_:C))
 refine ae (a7 (W.done _ _ _ H λh2 Wu Qc=>?_));refine(let Zq:_->ah->Prop:=_;let Zr:ag->ah->Prop:=_;(?_:wpAny _ _ _ Zq Zr _))
 refine aj (hQ h2 Wu λb o e=>?_);have hb:b∉[s.heap.objs.size]:=λhm=>by rw[d8]at hm;subst hm;exact dK _ (aS e)
 exact Qc b o hb (Y b o hb (aq _ e))
theorem ro{o:af aI}(h:o.all pG=true):cY o env=o.map λt=>(false,assign t env):=by
 induction o with
 |nil=>rfl
 |cons e r ih =>
  simp only[eQ,aw]at h;have e1:cY (e::r) env=(false,assign e env)::cY r env:=by induction e using aQ<;>first|rfl|cases h.1
  simp only[e1,ih h.2];rfl
theorem vi(c:MC)(o:af aI):(sd c o).length=o.length:=by
 induction o with
 |nil=>rfl
 |cons e r ih=>exact aD (· + 1) ih
theorem zg(F:qi T c env A){y:af aI}{n:Nat}{p:Pos}(S:∀t∈y,SimG T c env A (assign t env) (λv s=>o4 c t v s)):SimG T c env A (assign (.Tuple y n p) env) (λv s=>o4 c (.Tuple y n p) v s):=λD φ st s mv v Q E P r k=>by
 replace k:K T D φ c env _ (if y.all pG=true then vU (sd c y) v st else .stuck) Q E:=k
 split at k
 ·rename_i hp
  have O:Each (SimG T c env A) ((cY y env).map (·.2)) (sd c y):=by
   refine rg (ro hp) ?_;clear hp k
   induction y with
   |nil=>exact .nil
   |cons e r ih=>exact .cons (S e az) (ih λt ht=>S t (aA _ ht))
  have pd:(cY y env).length=y.length:=by rw[ro hp];simp
  have H:(cY y env).findIdx? (·.1)=none:=by
   refine rg (ro hp) ?_;rw[jD];intro x hx;refine o8 (List.mem_map.mp hx) λt u_ M=>?_;subst M;rfl
  unfold vU at k;refine(let C:Prop:=_;(?_:C))
  cases r with
  |@tup a vs m l q z rs =>
   dsimp only at k;split at k
   ·rename_i hl;rw[vi]at hl;have hsz:=rs.length;rw[aM]at hsz;refine mV (items:=vs) F.hd ⟨_,P.heap q,rfl,m,rfl⟩ (rg (pd ..) (rg (hsz ..) hl)) H λh' hs=>?_;refine(let C:Prop:=_;(?_:C))
    have g:Good T D φ D φ c env st {s with heap:=h'}:=P.grown (tk:=s.toks) λb o e=>hs b o (a5 (aS e)) e
    exact yT O (P.good g) rs (k.sub g)
   ·exact k.oH.elim
  |@lst a vs m l q z rs =>
   dsimp only at k;split at k
   ·rename_i hl;rw[vi]at hl;have hsz:=rs.length;rw[aM]at hsz;refine ae (bh ?_);unfold unpack;refine(pd).symm▸?_;refine(H).symm▸?_;refine(hl).symm▸?_;refine(hsz)▸?_;refine ae (a7 (EY (items:=vs) F.hd ⟨_,P.heap q,rfl,m,rfl⟩ λh' tk hs=>?_));have g:Good T D φ D φ c env st {s with heap:=h',toks:=tk}:=P.grown hs
    exact yT O (P.good g) rs (k.sub g)
   ·exact k.oH.elim
  |_=>exact k.oH.elim
 ·exact k.oH.elim
theorem Hg{o:af (Str×ag)}{cl:Cell}(r:tG T D o cl)(hn:(o.map (·.1)).Nodup){x:Str}{mv:ag}{v:V}(hv:oR T D [] mv v)(hp:v.oQ=true):tG T D (stored o x mv) (pv cl x v):=by
 have same:∀o:af (Str×ag),x∉o.map (·.1)->o.map (λkv=>if kv.1=x then(kv.1,mv)else kv)=o:=λo h=>by
  clear r hn
  induction o with
  |nil=>rfl
  |cons p r ih =>
   rw[a6,bk,gR]at h;exact rg (a6 ..) (rg (ih h.2) (rg (aT (λe=>h.1 e.symm)) rfl))
 unfold stored
 induction r with
 |nil=>exact .cons hv hp .nil
 |@cons y C w o cl a b H ih =>
  rw[a6,cN]at hn;by_cases hy:y=x
  ·subst hy;refine rg (aO (by simp)) ?_
   refine rg (a6 ..) ?_;refine rg (aO rfl) ?_;refine rg (same _ hn.1) ?_;refine rg (tE ..) ?_;refine rg (aO (by simp)) ?_
   exact .cons hv hp H
  ·have z:=ih hn.2
   have e1:pv ((y,w)::cl) x v=(y,w)::pv cl x v:=by
    exact rg (tE ..) (rg (aT (λe=>hy (beq_iff_eq.mp e))) rfl)
   have e2:(((y,C)::o).any λkv=>decide (kv.1=x))=(o.any λkv=>decide (kv.1=x)):=by
    have:decide (y=x)=false:=eh hy;refine(?_:(decide (y=x)||_)=_)
    simp only[this,eT]
   simp only[e1,e2];by_cases P7:(o.any λkv=>decide (kv.1=x))=true
   ·rw[aO P7]at z ⊢;refine rg (a6 ..) ?_;refine rg (aT hy) ?_;exact .cons a b z
   ·rw[aT P7]at z ⊢;exact .cons a b z
noncomputable def Wv(d j v:V)(s:St):R cV:=match d,j with
 |.ptr n,.str k=>(match s.σ[n]? with
  |some cell=>if v.oQ&&decide (cell.length<qf)then .ok () {s with σ:=s.σ.set n (pv cell k v)}else .stuck
  |none=>.stuck)
 |_,_=>.stuck
theorem MI{d j v:V}(h:Wv d j v st≠.stuck):∃n k cell,d=.ptr n/\j=.str k/\st.σ[n]?=some cell/\v.oQ=true/\cell.length<qf:=by
 refine rI h ?_;clear h
 induction d using V.casesOn with
 |ptr n=>induction j using V.casesOn with
  |str k =>
   refine(?_:R.ns (match st.σ[n]? with
    |some cell=>if v.oQ&&decide (cell.length<qf)then R.ok () {st with σ:=st.σ.set n (pv cell k v)}else .stuck
    |none=>.stuck) _)
   cases e:st.σ[n]? with
   |none=>trivial
   |some cell=>exact rE λh=>qA (Bool.and_eq_true_iff.mp h) λh1 h2=>⟨n,k,cell,rfl,rfl,e,h1,bR h2⟩
  |_=>trivial
 |_=>trivial
theorem Kc (P:pI T D φ c env A st s) {a:ay} {n:Nat} {x:Str} {v:V} {mv:ag} {cell:Cell} {o:af (Str×ag)} (q:φ[n]?=some a) (hc:st.σ[n]?=some cell) (H:D a=some (.dct o)) (z:tG T D o cell) (Bh:(o.map (·.1)).Nodup) (r:oR T D [] mv v) (hn:v.oQ=true)
  (yc:D.Le (D.put a (.dct (stored o x mv)))):px T (D.put a (.dct (stored o x mv))) φ (st.σ.set n (pv cell x v)):=by
 refine⟨by rw[cG];exact P.link.cells.len,P.link.cells.nodup,λj cl e=>?_⟩
 by_cases hj:n=j
 ·subst hj;rw[j5 (List.getElem?_eq_some_iff.mp hc).1]at e;obtain rfl:=ai e;exact tD a _ q (oN.oV ..) ((Hg z Bh r hn).mono yc)
 ·rw[List.getElem?_set_ne hj]at e;refine sF (P.link.cells.get j cl e) λb y p1 p2 C=>?_;refine tD b y p1 ?_ (C.mono yc);rw[oN.pj]
  ·exact p2
  ·exactλh=>hj ((List.getElem?_inj (List.getElem?_eq_some_iff.mp q).1 P.link.cells.nodup).mp (q.trans (h▸p1.symm)))
theorem Qd (P:pI T D φ c env A st s) {d j mv:ag} {H M v:V} {l:af ag} {E:ag->ah->Prop} {Q:cV->ah->Prop} (U:oR T D φ d H) (Y:oR T D φ j M) (r:oR T D φ mv v)
  (k:K T D φ c env (λ_ _ (_:cV) (_:cV)=>fh) (Wv H M v st) Q E):wpAny (model T.prog T.w) A (do fJ [mv,d,j] (setItem d j mv);release l []) Q E s:=by
 refine(let C:Prop:=_;(?_:C))
 refine Lq (MI k.1) λn x cell e1 e2 hc o hsz=>?_;subst e1 e2
 replace k:K T D φ c env (λ_ _ (_:cV) (_:cV)=>fh) (match st.σ[n]? with
  |some cell=>if v.oQ&&decide (cell.length<qf)then R.ok () {st with σ:=st.σ.set n (pv cell x v)}else .stuck
  |none=>.stuck) Q E:=k
 rw[hc]at k;dsimp only at k;rw[aO (rg (o ..) (rg (b5 hsz) rfl))]at k;refine o8 U.xm λa e q=>?_;subst e;refine o8 Y.str_inv λt e hx=>?_;subst e;refine sF (P.link.cells.get n cell hc) λa' y q1 z O=>?_;obtain rfl:=ai (q.symm.trans q1);have hdo:=P.pO _ _ z;have Bh:(y.map (·.1)).Nodup:=YM hdo λu_ u_ u_ u_ u_ u_ u_ u_ hn=>hn;refine ae (a7 (wpAny_setItem_pairs (hsz:=by rw[O.length];exact qa (gA hsz)) (iM _ _ x t) hdo λh' hd hs=>?_))
 refine wpAny_release ?_;have J4:D.Mv (D.put a (.dct (stored y x mv))):=oN.Mv.put λsp e=>by rw[z]at e;obtain rfl:=ai e;rfl
 have yc:D.Le (D.put a (.dct (stored y x mv))):=oN.Le.put λsp e=>by rw[z]at e;obtain rfl:=ai e;rfl
 exact k.ok (b:=()) ⟨yc,ao _,P.pO.turn hs hd,P.link.mv J4 (ao _) (Kc P q hc z O Bh (r.bare o) o yc),P.gens,P.os,.put (by intro _ _ q;cases q)⟩ trivial
theorem Bw(F:qi T c env A){o i:aI}{p:Pos}(ho:SimT T c env A (eval o env) (λs=>oO c o s))(hi:SimT T c env A (eval i env) (λs=>oO c i s)) :
  SimG T c env A (assign (.Subscript o i p) env) (λv s=>o4 c (.Subscript o i p) v s):=λD φ st s mv v Q E P r k=>by
 refine ae (a7 (ho _ _ _ _ _ _ P (K.bind k λd C md s1 D1 H e1 g1 M k1=>?_)));refine ae (a7 (hi _ _ _ _ _ _ (P.good g1) (K.bind k1 λkk O mk s2 D2 U e2 g2 Y k2=>?_)));refine ae (bh ?_);refine(let y:_->ah->Prop:=_;let z:ag->ah->Prop:=_;(?_:wpAny _ _ _ y z _))
 exact Qd ((P.good g1).good g2) (M.mono g2.le g2.pre) Y ((r.mono g1.le g1.pre).mono g2.le g2.pre) k2
end
theorem R.bind_assoc{α β o:Type}(r:R α)(f:α->St->R β)(g:β->St->R o):(r.bind f).bind g=r.bind λa s=>(f a s).bind g:=by induction r using R.casesOn<;>rfl
theorem R.sT{α β:Type}(a:α)(s:St)(f:α->St->R β):(R.ok a s).bind f=f a s:=rfl
noncomputable def oN.NL(D D':oN):Prop:=∀b sp,D b=some sp->(∀o,sp≠.lk o)->D' b=some sp
theorem oN.NL.vl{D D':oN}(h:D.NL D'):D.Vl D':=λa sp e hs=>h a sp e (by rintro o rfl;cases hs)
noncomputable def oN.hide(D:oN)(H:ay->au Obj):oN:=λa=>match H a with
 |some o=>some (.lk o)
 |none=>D a
noncomputable def oN.shown(D:oN)(H:ay->au Obj):oN:=λa=>match H a with
 |some _=>none
 |none=>D a
noncomputable def Bx(D:oN)(h:bP)(H:ay->au Obj):Prop:=∀a o,H a=some o->D a=none/\h.get? a=some o
theorem oN.xr{D:oN}{H:ay->au Obj}{a:ay}{o:Obj}(h:H a=some o):D.hide H a=some (.lk o):=by unfold oN.hide;exact rg (h ..) rfl
theorem oN.rq{D:oN}{H:ay->au Obj}{a:ay}(h:H a=none):D.hide H a=D a:=by unfold oN.hide;exact rg (h ..) rfl
theorem oN.sm{D:oN}{H:ay->au Obj}{a:ay}{o:Obj}(h:H a=some o):D.shown H a=none:=by unfold oN.shown;exact rg (h ..) rfl
theorem oN.shown_none{D:oN}{H:ay->au Obj}{a:ay}(h:H a=none):D.shown H a=D a:=by unfold oN.shown;exact rg (h ..) rfl
section
variable{T:pg}{D D':oN}{φ ph:af ay}{c:MC}{env:Env}{A:aX}{st tm:St}{s s':ah}{H:ay->au Obj}{h:bP}
theorem Bx.sub(x:∀a o,H a=some o->D a=none):D.Sub (D.hide H):=λa sp e=>by
 cases q:H a with
 |none=>exact(oN.rq q)▸(e)
 |some o=>rw[x a o q]at e;exact(nS e).elim
theorem Bx.pO(x:Bx D h H)(I:D.In T h):(D.hide H).In T h:=λa sp e=>by
 refine(let C:Prop:=_;(?_:C))
 cases q:H a with
 |none=>rw[oN.rq q]at e;exact I a sp e
 |some o=>rw[oN.xr q]at e;obtain rfl:=ai e;exact(x a o q).2
theorem Bx.back:D.Back (D.hide H):=λa x vs e=>by
 refine(let C:Prop:=_;(?_:C))
 cases q:H a with
 |none=>rw[oN.rq q]at e;exact⟨vs,e⟩
 |some o=>rw[oN.xr q]at e;exact nomatch e
theorem pI.hide(P:pI T D φ c env A st s)(x:Bx D s.heap H):pI T (D.hide H) φ c env A st s :=
 have sb:D.Sub (D.hide H):=Bx.sub λa o e=>(x a o e).1
 ⟨x.pO P.pO,P.link.sub sb,P.gens,P.os,P.GJ.le sb.le,λa o e=>sb _ _ (P.base a o e),Bx.back.uniq P.uniq⟩
theorem Link.nl(x:Link T D φ c env st)(h:D.NL D'):Link T D' φ c env st where
 locals:=let⟨m,e⟩:=x.locals;⟨m,h _ _ e (by intro _ q;cases q)⟩
 vars:=λy b e n=>by
  refine o8 (x.vars y b e n) λmv p q=>?_;refine o5 mv ?_ ?_
  ·refine(let C:Prop:=_;(?_:C))
   refine(p).elim (λO=>?_) (λU=>?_)
   ·obtain⟨a,m,b,d⟩:=O;exact .inl ⟨a,m,h _ _ b (by intro _ q;cases q),d⟩
   ·obtain⟨a,M,b,d⟩:=U;exact .inr ⟨a,M,b,h _ _ d (by intro _ q;cases q)⟩
  ·cases q with
   |val r=>exact .val (r.vl h.vl (ao _))
   |own o z r=>exact .own (h _ _ o (by intro _ q;cases q)) z (r.vl h.vl (ao _))
 p6:=λy e=>let⟨M,v,p,q⟩:=x.p6 y e;(uL M v p (h _ _ q (by intro _ q;cases q)))
 free:=λy v e=>let⟨M,o,mv,p,q,r,z⟩:=x.free y v e;(zF M o mv p (h _ _ q (by intro _ q;cases q)) r (z.vl h.vl (ao _)))
 cells:=x.cells.vl h.vl λa Y e=>h _ _ e (by intro _ q;cases q)
theorem Ad(hl:∀a o,H a=some o->D a=some (.lk o)):D.NL (D.shown H):=λb sp e hn=>by
 cases q:H b with
 |none=>exact(oN.shown_none q)▸(e)
 |some o=>rw[hl b o q]at e;obtain rfl:=ai e;exact absurd rfl (hn o)
theorem Good.yw(g:Good T (D.hide H) φ D' ph c env st s)(z:∀a o,H a=some o->D a=none):Good T D φ (D'.shown H) ph c env st s/\Bx (D'.shown H) s.heap H/\D'.NL (D'.shown H):=by
 have hl:∀a o,H a=some o->D' a=some (.lk o):=λa o e=>g.le _ _ (oN.xr e) rfl;have nl:=Ad hl;refine qB ⟨λa sp e hs=>?_,g.pre,λa sp e=>?_,g.link.nl nl,g.gens,g.os,λa x vs e=>?_⟩ (λa o e=>⟨oN.sm e,g.pO _ _ (hl a o e)⟩) nl
 ·cases q:H a with
  |none=>exact rg (oN.shown_none q) (g.le _ _ (rg (oN.rq q) e) hs)
  |some o=>rw[z a o q]at e;exact(nS e).elim
 ·refine(let C:Prop:=_;(?_:C))
  cases q:H a with
  |none=>rw[oN.shown_none q]at e;exact g.pO _ _ e
  |some o=>rw[oN.sm q]at e;exact(nS e).elim
 ·cases q:H a with
  |none =>
   rw[oN.shown_none q]at e;obtain⟨y,e'⟩:=g.back a x vs e;rw[oN.rq q]at e';exact⟨y,e'⟩
  |some o=>rw[oN.sm q]at e;exact(nS e).elim
theorem Bad.yw{w p:V}{σ:af Cell}{e:ay}(g:Bad T (D.hide H) φ D' ph env w p σ e s)(y:∀a o,H a=some o->D a=none):Bad T D φ (D'.shown H) ph env w p σ e s:=by
 have hl:∀a o,H a=some o->D' a=some (.lk o):=λa o e=>g.le _ _ (oN.xr e) rfl;have nl:=Ad hl;refine⟨λa sp e hs=>?_,g.pre,λa sp e=>?_,g.exc.vl nl.vl (ao _),?_,?_,g.cells.vl nl.vl λa z e=>nl _ _ e (by intro _ q;cases q),g.gens,g.os⟩
 ·cases q:H a with
  |none=>exact rg (oN.shown_none q) (g.le _ _ (rg (oN.rq q) e) hs)
  |some o=>rw[y a o q]at e;exact(nS e).elim
 ·refine(let C:Prop:=_;(?_:C))
  cases q:H a with
  |none=>rw[oN.shown_none q]at e;exact g.pO _ _ e
  |some o=>rw[oN.sm q]at e;exact(nS e).elim
 ·refine za (g.L6) λd vs M O U Y=>?_;refine zE d vs M (nl _ _ O (by intro _ q;cases q)) U (Y.imp id λ⟨t,ot,ts,a1,a2,a3⟩=>⟨t,ot,ts,a1,?_,a3⟩)
  cases q:H t with
  |none=>exact rg (oN.shown_none q) a2
  |some o=>exact rg (oN.sm q) rfl
 ·obtain⟨m,e⟩:=g.locals;exact⟨m,nl _ _ e (by intro _ q;cases q)⟩
variable{α β Zs β':Type}{rel:oN->af ay->β->α->Prop}{Qe:oN->af ay->β'->Zs->Prop}{Q:β->ah->Prop}{Q':β'->ah->Prop}{E:ag->ah->Prop}
theorem K.rL {r:R Zs} {f:Zs->St->R α} (k:K T D φ c env rel (r.bind f) Q E) (z:∀a o,H a=some o->D a=none) (y:∀D' ph b x,D'.NL (D'.shown H)->Qe D' ph b x->Qe (D'.shown H) ph b x)
  (h:∀x st b s D' ph,r=.ok x st->Good T D φ D' ph c env st s->Bx D' s.heap H->Qe D' ph b x->K T D' ph c env rel (f x st) Q E->Q' b s):K T (D.hide H) φ c env Qe r Q' E:=by
 refine qB (λe=>?_) (λa st e b s D' ph g hr=>?_) (λw p σ e x s D' ph g=>?_)
 ·refine(let C:Prop:=_;(?_:C))
  subst e;exact k.1 rfl
 ·subst e;refine y8 (g.yw z) λg1 hd nl=>?_;exact h a st b s _ _ rfl g1 hd (y _ _ _ _ nl hr) (K.sub k g1)
 ·subst e;exact k.2.2 w p σ rfl x s _ _ (g.yw z)
end
section
variable{T:pg}{D D':oN}{φ ph:af ay}{c:MC}{env:Env}{A:aX}{st tm:St}{s s':ah}{E:ag->ah->Prop}
theorem pI.turnAt(P:pI T D φ c env A st s){I:ay}{h':bP}{tk:Tok}(hI:D I=none)(hk:∀b o,b≠I->s.heap.get? b=some o->h'.get? b=some o):Good T D φ D φ c env st {s with heap:=h',toks:=tk} :=
 ⟨.refl _,ao _,P.pO.other hI λa o ha ho=>hk a o ha ho,P.link,P.gens,P.os,.refl _⟩
structure tA(T:pg)(A:aX)(D:oN)(φ:af ay)(I:ay)(h:bP)(i:Nat)(all:af V):Prop where
 ex:∃fp n Pi St,Walks T.prog T.w A I fp [I] n Pi St/\St i h/\n=all.length/\(∀i v,i<n->Pi i v->∃x,all[i]?=some x/\oR T D φ v x) /\
  (∀i h,St i h->∃o n,h.get? I=some o/\o.cls=.type n/\n∈["list_iterator", "tuple_iterator", "range_iterator", "reversed"])/\(∀b∈fp,b=I\/∃o,D b=some (.fz o))
theorem Ae (F:qi T c env A) (P:pI T D φ c env A st s) {mv:ag} {v:V} {all:af V} {Q:ag->ah->Prop} (r:oR T D φ mv v) (hi:pR v=some all)
  (h:∀h',(∀b o,s.heap.get? b=some o->h'.get? b=some o)->h'.objs.size=s.heap.objs.size+1->tA T A D φ s.heap.objs.size h' 0 all->Q (.ref s.heap.objs.size) {s with heap:=h'}):wpAny (model T.prog T.w) A (pyIter mv) Q E s:=by
 refine(let C:Prop:=_;(?_:C))
 cases r with
 |@tup a vs n l p q rs =>
  obtain rfl:=ai hi;have ht:s.heap.IsTuple a vs:=⟨_,P.heap p,rfl,n,rfl⟩;have sx:a≠s.heap.objs.size:=a5 (aS (P.heap p));refine mO ht (h _ (λu_ u_ e=>aq _ e) (by simp[cK]) ⟨⟨_,_,_,_,Walks.tuple F.hd _ a sx vs,⟨(qZ _ (aF _ rfl) rfl rfl),ht.push _⟩,?_,?_,?_,?_⟩⟩)
  ·rw[<-rs.length,aM]
  ·intro i v _ e;have hl:=rs.length;have ug:i<vs.toList.length:=(List.getElem?_eq_some_iff.mp (by simpa using e)).1
   obtain⟨M,e1,e2⟩:=rs.at (aW (by rw[<-hl];exact ug))
   rw[cD,e]at e1;cases e1;exact⟨_,aW (by rw[<-hl];exact ug),e2⟩
  ·rintro i h ⟨⟨o,ho,hc,_⟩,_⟩;exact tD o _ ho hc (by simp)
  ·intro b hb;simp only[bk,bf,dn]at hb;rcases hb with rfl|rfl
   ·exact .inl rfl
   ·exact .inr ⟨_,p⟩
 |@lst a vs n l p q rs =>
  obtain rfl:=ai hi;have ht:s.heap.IsList a vs:=⟨_,P.heap p,rfl,n,rfl⟩;have sx:a≠s.heap.objs.size:=a5 (aS (P.heap p));refine gp ht (h _ (λu_ u_ e=>aq _ e) (by simp[cK]) ⟨⟨_,_,_,_,kP F.hd _ a sx vs,⟨(qZ _ (aF _ rfl) rfl rfl),ht.push _⟩,?_,?_,?_,?_⟩⟩)
  ·rw[<-rs.length,aM]
  ·intro i v _ e;have hl:=rs.length;have ug:i<vs.toList.length:=(List.getElem?_eq_some_iff.mp (by simpa using e)).1
   obtain⟨M,e1,e2⟩:=rs.at (aW (by rw[<-hl];exact ug))
   rw[cD,e]at e1;cases e1;exact⟨_,aW (by rw[<-hl];exact ug),e2⟩
  ·rintro i h ⟨⟨o,ho,hc,_⟩,_⟩;exact tD o _ ho hc (by grind)
  ·intro b hb;simp only[bk,bf,dn]at hb;rcases hb with rfl|rfl
   ·exact .inl rfl
   ·exact .inr ⟨_,p⟩
 |@we O a b t u w p y z =>
  obtain rfl:=ai hi;have h1:=r0.mp y;have h2:=r0.mp z;have hsz:dj a b 1=((b-a).toNat:Int):=rg (rangeSize_one ..) (rs a b);refine wpAny_pyIter_range (P.heap p) (small_one (by exact vf (.g 536870911) .x (.g 4611686018427387903) .x rfl h1.1) (by exact vf .x (.n 536870912) (.a .x (.n 1)) (.n 4611686018427387904) rfl h1.2) (by exact vf (.g 536870911) .x (.g 4611686018427387903) .x rfl h2.1) (by exact vf .x (.n 536870912) (.a .x (.n 1)) (.n 4611686018427387904) rfl h2.2)) (h _ (λu_ u_ e=>aq _ e) (by simp[cK]) ⟨⟨_,_,_,_,Walks.range F.hd _ a 1 (b-a).toNat,?_,?_,?_,?_,?_⟩⟩)
  ·show IsRangeIter _ _ _ _ _;refine rg (hsz ..) ?_;have:=aF s.heap (o:={cls:=.type "range_iterator", data:=.fields #[c7 a,c7 ((b-a).toNat:Int),c7 1]}) rfl
   simpa using this
  ·simp only[yr y z]
  ·rintro i v ug ⟨t,rfl⟩;refine o5 (.int (a+i)) ?_ (rg (gW ..) (.int _ _));unfold qG;simp only[ei,List.getElem?_range ug];rfl
  ·intro i h e;exact tD _ _ e rfl (by simp)
  ·intro b hb;simp only[bk,bf,dn]at hb;exact .inl hb
 |_=>exact(nS hi).elim
end
section
variable{T:pg}{D D':oN}{φ ph:af ay}{c:MC}{env:Env}{A:aX}{st tm:St}{s s':ah}{E:ag->ah->Prop}{RR:eO->ah->Prop}
theorem tA.moves{I:ay}{h h':bP}{i:Nat}{all:af V}(x:tA T A D φ I h i all)(hI:∀o,h.get? I=some o->h'.get? I=some o)(hk:∀b o,D b=some (.fz o)->D' b=some (.fz o))(hp:φ <+: ph)(yc:D.Le D')(h1:D.In T h)(h2:D'.In T h') :
  tA T A D' ph I h' i all:=by
 refine(let C:Prop:=_;(?_:C))
 obtain⟨H,n,Pi,St,W,q1,q2,q3,q4,q5⟩:=x.ex;refine⟨H,n,Pi,St,W,W.frame i h h' q1 λb hb o e=>?_,q2,λi v ug hv=>?_,q4,λb hb=>(q5 b hb).imp id λ⟨o,e⟩=>⟨o,hk _ _ e⟩⟩
 ·refine(let C:Prop:=_;(?_:C))
  refine(q5 b hb).elim (λy=>?_) (λz=>?_)
  ·cases y;exact hI o e
  ·obtain⟨M,e'⟩:=z;have:=h1 _ _ e';rw[show h.get? b=some M from this]at e;obtain rfl:=ai e;exact h2 _ _ (hk _ _ e')
 ·refine o8 (q3 i v ug hv) λx e r=>?_;exact o5 x e (r.mono yc hp)
set_option backward.match.sparseCases true in
set_option tactic.hygienic true in
theorem EZ{target:aI}{I:ay}{v:ag}{o:Obj}{n:cR}{Q:cV->ah->Prop}(ho:s.heap.get? I=some o)(hc:o.cls=.type n)(hn:n∈["list_iterator", "tuple_iterator", "range_iterator", "reversed"])(h:Q () s) :
  wpAny (model T.prog T.w) A (oj target (.ref I) v) Q E s:=by
 have Tv:(["enumerate", "zip", "dict_itemiterator", "dict_reverseitemiterator", "odict_iterator", "itertools.zip_longest", "itertools.pairwise"].contains n)=false:=by
  simp only[bk,bf,dn]at hn;refine(let C:Prop:=_;(?_:C))
  rcases hn with rfl|rfl|rfl|rfl<;>decide
 have go:wpAny (model T.prog T.w) A (match v with
   |.ref a=>do
    let o <- load I
    match o.cls,o.data with
    |.type n,.fields vs =>
     if["enumerate", "zip", "dict_itemiterator", "dict_reverseitemiterator", "odict_iterator", "itertools.zip_longest", "itertools.pairwise"].contains n&&vs[0]?==some (c7 a)then do
      rule "for.unpacks-the-owned-tuple"
      updateField I 0 .none
     else pure ()
    |_,_=>pure ()
   |_=>pure ()) Q E s:=by
  induction v using gc with
  |ref a =>
   refine ae (mQ ho ?_);refine rg (hc) ?_;generalize o.data=d;cases d with
   |fields vs =>
    dsimp only;refine rg (Tv ..) ?_;refine rg (jx ..) ?_;refine rg (aT (by decide)) ?_
    exact aj h
   |_=>exact aj h
  |_=>exact aj h
 refine(let y:ag->ah->Prop:=_;(?_:wpAny _ _ _ _ y _))
 induction target using aQ with
 |Tuple es k p=>cases v<;>exact go
 |List es p=>cases v<;>exact go
 |_=>exact aj h
theorem Qf{o:af aI}(S:∀e∈o,sH T c env A e):B0 T c env A (forIn o true λx r=>if r=true then do let ok <- jX x env (eval x env);pure (dg ok)else pure (dg r)) (λs=>q9 c true o s):=by
 have stop:∀o:af aI,(forIn o false λx r=>if r=true then do let ok <- jX x env (eval x env);pure (dg ok)else pure (dg r):Sem aN)=pure false:=λo=>by
  induction o with
  |nil=>rfl
  |cons e r ih=>exact rg (eZ ..) ih
 induction o with
 |nil =>
  intro D φ st s Q E P k;dsimp only at k;exact aj (k.ok P.here rfl)
 |cons e r ih =>
  intro D φ st s Q E P k;dsimp only at k;refine rg (eZ ..) ?_;refine rg (aO rfl) ?_;refine ae (ae (S e az _ _ _ _ _ _ P (K.bind k λv z mv M O C e1 g1 H k1=>?_)));subst H;refine(let y:ag->ah->Prop:=_;(?_:wpAny _ _ _ _ y _))
  refine aj ?_
  induction mv using aJ with
  |true=>exact ih (λx hx=>S x (aA _ hx)) _ _ _ _ _ _ (P.good g1) k1
  |false =>
   dsimp only;refine rg (stop ..) ?_;exact aj (k1.ok (P.good g1).here rfl)
theorem Bad.heap{w p:V}{σ:af Cell}{e:ay}{h':bP}(g:Bad T D φ D' ph env w p σ e s)(I:D'.In T h')(f:Px T D' h' e):Bad T D φ D' ph env w p σ e {s with heap:=h'} :=
 ⟨g.le,g.pre,I,g.exc,f,g.locals,g.cells,g.gens,g.os⟩
theorem K.Kd{z C:Type}{y:oN->af ay->C->z->Prop}{r:R z}{Q:C->ah->Prop}(k:K T D φ c env y r Q E)(hs:JL D env A)(hb:∀a o,T.b.get? a=some o->D a=some (.fz o)) :
  K T D φ c env y r Q (dh (model T.prog T.w) A env (iP (model T.prog T.w) A env E)):=by
 refine qB k.1 k.2.1 (λw p σ e x s D' ph g=>?_);exact xn (hs.le g.le) g.pO (λa o h=>g.le _ _ (hb a o h) rfl) g.locals g.L6 λh1 H f1=>yP H f1 λh2 M f2=>k.2.2 w p σ e x _ D' ph (g.heap M f2.Mq)
noncomputable def Af(T:pg)(L:ay):oN->af ay->af ag->af V->Prop:=λD φ ys l=>oK T D φ ys l/\l.length<=qf/\D L=none
theorem Ag {o:aI} {gens:af aR} {scope:ft} {pos:Pos} {d:Nat} {z acc:ag} {g:aR} (H:gens[d]?=some g) (ha:g.is_async=0)
  (h0:cF (model T.prog T.w) A (.compLoop (.ListComp o gens scope pos) d z acc env) RR s)
  (h:wpAny (model T.prog T.w) A (pyIter z) (λy s'=>cF (model T.prog T.w) A (.compLoop (.ListComp o gens scope pos) d y acc env) RR s') (dh (model T.prog T.w) A env λx s'=>RR (.error x) s') s) :
  cF (model T.prog T.w) A (.compStart (.ListComp o gens scope pos) d z acc env) RR s:=by
 refine cz ?_;show wpAny (model T.prog T.w) A ((compStart (.ListComp o gens scope pos) d z acc env).onRaise (λx=>do noteFrame x env;gQ theWindowsPlace)) _ _ s
 refine(let C:_->ah->Prop:=_;(?_:wpAny _ _ _ C _ _))
 refine wpAny_notedAt ?_;unfold compStart;have hc:clausesOf (.ListComp o gens scope pos)=gens:=rfl;refine rg (hc) ?_;refine rg (H) ?_;have hb:((some g).elim false λx=>x.is_async != 0)=false:=by show(g.is_async != 0)=false;refine rg (ha) ?_;rfl
 refine rg (aT (by rw[hb];decide)) ?_
 refine ae (d4 ?_);split
 ·exact ae (aj (aj (And.intro rfl h0)))
 ·refine ae (fb ?_);refine ae (bh ?_);exact ae (cE h (λy s' h'=>aj (And.intro rfl h')) λu_ u_ x=>x)
end
noncomputable def Ah(c:MC)(t:aI)(o:af aI)(gs:af aR)(y:St->R V):V->af V->St->R (af V):=λv acc s =>
 (o4 c t v s).bind λu_ s=>(q9 c true o s).bind λk s=>if k then qy c gs y acc s else .ok acc s
theorem C7(c:MC)(o:St->R V)(acc:af V)(s:St):qy c [] o acc s=(o s).bind λv s=>if acc.length<qf then .ok (acc++[v]) s else .stuck:=rfl
theorem By(c:MC)(t z:aI)(o:af aI)(a:Int)(gs:af aR)(y:St->R V)(acc:af V)(s:St) :
  qy c (⟨t,z,o,a⟩::gs) y acc s=(oO c z s).bind λv s=>match pR v with|some items=>rS (Ah c t o gs y) items acc s|Option.none=>.stuck:=rfl
theorem MJ(c:MC)(t z:aI)(o:af aI)(a:Int)(gs:af aR)(y:St->R V)(items:af V)(s:St) :
  rX c (⟨t,z,o,a⟩::gs) y items s=rS (Ah c t o gs y) items [] s:=rfl
noncomputable def Ai(I:ay)(oI:Obj)(L:ay)(oL:Obj):ay->au Obj:=λa=>if a=I then some oI else if a=L then some oL else none
noncomputable def yx(I:ay)(oI:Obj):ay->au Obj:=λa=>if a=I then some oI else none
theorem TL{g:V->af V->St->R (af V)}{v:V}{r acc:af V}{s:St}:rS g (v::r) acc s=(g v acc s).bind λacc s=>rS g r acc s:=rfl
section
variable{T:pg}{D D':oN}{φ ph:af ay}{c:MC}{env:Env}{A:aX}{st tm:St}{s s':ah}{E:ag->ah->Prop}{RR:eO->ah->Prop}
structure E0(T:pg)(c:MC)(env:Env)(A:aX)(g:aR):Prop where
 async:g.is_async=0
 target:SimG T c env A (assign g.target env) (λv s=>o4 c g.target v s)
 tests:∀e∈g.ifs,sH T c env A e
 iter:pT T c env A g.iter
theorem yU{e:aI}{env':Env}(h:∀st,oO c e st≠.stuck->fh)(hn:∀es k p,e≠.Set es k p)(x:ag):dX e env' x=pure x:=by
 induction e using aQ<;>first|rfl|exact absurd rfl (hn _ _ _)
noncomputable def vZ(T:pg)(c:MC)(env:Env)(A:aX)(o:aI)(gens:af aR)(scope:ft)(pos:Pos)(gs:af aR):Prop :=
 ∀(d:Nat)(g:aR),gens[d]?=some g->gens.drop (d+1)=gs->∀(all:af V)(n i:Nat),all.length=i+n->∀(D:oN)(φ:af ay)(st:St)(s:ah)(acc:af V)(ys:af ag)(I L:ay)(RR:eO->ah->Prop),
   pI T D φ c env A st s->tA T A D φ I s.heap i all->D I=none->D L=none->I≠L->s.heap.PlainList L ys.toArray->acc.length<=qf->oK T D φ ys acc ->
   K T D φ c env (Af T L) (rS (Ah c g.target g.ifs gs (λs=>oO c o s)) (all.drop i) acc st) (λy s'=>s'.heap.PlainList L y.toArray->RR (.ok .next) s') (dh (model T.prog T.w) A env λx s'=>RR (.error x) s') ->
   cF (model T.prog T.w) A (.compLoop (.ListComp o gens scope pos) d (.ref I) (.ref L) env) RR s
noncomputable def IC(T:pg)(D:oN)(φ:af ay)(c:MC)(env:Env)(A:aX)(I L:ay)(oI:Obj)(rest:af V->St->R (af V))(code:Code)(RR:eO->ah->Prop):Prop :=
 ∀z y C M o H,Good T D φ z y c env C M->M.heap.get? I=some oI->z I=none->z L=none->M.heap.PlainList L H.toArray->o.length<=qf->oK T z y H o ->
  K T z y c env (Af T L) (rest o C) (λO s'=>s'.heap.PlainList L O.toArray->RR (.ok .next) s') (dh (model T.prog T.w) A env λx s'=>RR (.error x) s')->cF (model T.prog T.w) A code RR M
structure uj(T:pg)(D:oN)(s:ah)(I L:ay)(oI:Obj)(ys:af ag)(z:Nat):Prop where
 nI:D I=none
 nL:D L=none
 ne:I≠L
 oI:s.heap.get? I=some oI
 oL:s.heap.get? L=some {cls:=.type "list", data:=.seq ys.toArray z}
theorem Qg{I L:ay}{o y:Obj}{a:ay}{x:Obj}(h:Ai I o L y a=some x):(a=I/\x=o)\/(a=L/\x=y):=by
 unfold Ai at h;split at h
 ·exact .inl ⟨‹_›,(ai h).symm⟩
 ·split at h
  ·exact .inr ⟨‹_›,(ai h).symm⟩
  ·exact(nS h).elim
theorem uj.CP{I L:ay}{oI:Obj}{ys:af ag}{nL:Nat}(t:uj T D s I L oI ys nL):Bx D s.heap (Ai I oI L {cls:=.type "list", data:=.seq ys.toArray nL}):=λa o e =>
 (Qg e).elim (λh=>rg (h.1 ..) (rg (h.2 ..) (⟨t.nI,t.oI⟩))) (λh=>rg (h.1 ..) (rg (h.2 ..) (⟨t.nL,t.oL⟩)))
theorem uj.no{I L:ay}{oI:Obj}{ys:af ag}{nL:Nat}(t:uj T D s I L oI ys nL):∀a o,Ai I oI L {cls:=.type "list", data:=.seq ys.toArray nL} a=some o->D a=none:=λa o e=>(t.CP a o e).1
theorem uj.next{I L:ay}{oI:Obj}{ys:af ag}{nL:Nat}(t:uj T D s I L oI ys nL)(h:Bx D' s'.heap (Ai I oI L {cls:=.type "list", data:=.seq ys.toArray nL})):uj T D' s' I L oI ys nL :=
 have h1:=h I oI (aO rfl);have h2:=h L _ ((aT (b3 t.ne)).trans (aO rfl))
 ⟨h1.1,h2.1,t.ne,h1.2,h2.2⟩
theorem MK {y:aI} (Se:pT T c env A y) (P:pI T D φ c env A st s) {I L:ay} {oI:Obj} {ys:af ag} {nL:Nat} (t:uj T D s I L oI ys nL) {acc:af V} (hz:acc.length<=qf) (r:oK T D φ ys acc) {rest:af V->St->R (af V)} {code:Code} {RR:eO->ah->Prop}
  (hq:code.quiet=true) (next:IC T D φ c env A I L oI rest code RR)
  (k:K T D φ c env (Af T L) ((oO c y st).bind λv s=>(if acc.length<qf then R.ok (acc++[v]) s else R.stuck).bind λacc s=>rest acc s) (λY s'=>s'.heap.PlainList L Y.toArray->RR (.ok .next) s') (dh (model T.prog T.w) A env λx s'=>RR (.error x) s')) :
  wpAny (model T.prog T.w) A (do
   (do let x <- eval y env;let _ <- call (.builtin "list.append") [.ref L,x];pure ())
   again code) (λfin s'=>match fin with|.done f=>RR (.ok f) s'|.again c'=>c'.quiet=true/\cF (model T.prog T.w) A c' RR s') (dh (model T.prog T.w) A env λe s'=>RR (.error e) s') s:=by
 refine(let Zt:_->ah->Prop:=_;let Zu:ag->ah->Prop:=_;(?_:wpAny _ _ _ Zt Zu _))
 refine ae (ae (Se _ _ _ _ _ _ (P.hide t.CP) (K.rL k t.no (λu_ u_ u_ u_ nl t=>oR.vl t nl.vl (ao _)) λw C mw s4 D4 z e4 g4 H hw U=>?_)));have P4:=P.good g4;have t4:=t.next H;refine(let TM:_->ah->Prop:=_;(?_:wpAny _ _ _ TM _ _))
 by_cases hl:acc.length<qf
 ·rw[aO hl]at U;refine ae (k9 (l:=L) (items:=ys.toArray) ⟨nL,t4.oL⟩ (λh5 M O=>?_) (by rw[bo,r.length];exact qa (gA hl)))
  refine(let TN:_->ah->Prop:=_;(?_:wpAny _ _ _ TN _ _))
  refine aj (aj ⟨hq,?_⟩);have g5:Good T D4 z D4 z c env C {s4 with heap:=h5}:=P4.turnAt (tk:=s4.toks) t4.nL λb o hb e=>(O.2 b hb).trans e
  simp only[show ys.toArray.push mw=(ys++[mw]).toArray from List.push_toArray ..]at M;exact next D4 z C _ (acc++[w]) (ys++[mw]) (g4.trans g5) ((O.2 I t.ne).trans t4.oI) t4.nI t4.nL M (rg (av ..) hl) ((r.mono g4.le g4.pre).append (.cons hw .nil)) (K.sub U g5)
 ·rw[aT hl]at U;exact U.oH.elim
theorem Hh (F:qi T c env A) {elt:aI} {gens:af aR} {scope:ft} {pos:Pos} {t' z:aI} {TP:af aI} {Zv:af aR} {d:Nat} (Zw:pT T c env A z) (H:gens[d+1]?=some ⟨t',z,TP,0⟩) (TQ:gens.drop (d+1+1)=Zv) (IH:vZ T c env A elt gens scope pos Zv)
  (P:pI T D φ c env A st s) {I L:ay} {oI:Obj} {ys:af ag} {nL:Nat} (t:uj T D s I L oI ys nL) {acc:af V} (hz:acc.length<=qf) (r:oK T D φ ys acc) {rest:af V->St->R (af V)} {code:Code} {RR:eO->ah->Prop}
  (hq:code.quiet=true) (next:IC T D φ c env A I L oI rest code RR)
  (k:K T D φ c env (Af T L) ((oO c z st).bind λv s=>(match pR v with|some items=>rS (Ah c t' TP Zv λs=>oO c elt s) items acc s|none=>.stuck).bind λacc s=>rest acc s) (λZx s'=>s'.heap.PlainList L Zx.toArray->RR (.ok .next) s') (dh (model T.prog T.w) A env λx s'=>RR (.error x) s')) :
  wpAny (model T.prog T.w) A (do
   let x <- eval z env
   gQ z.pos
   let x <- dX z env x
   let y <- fJ [x] (pyIter x)
   let _ <- mS (.compStart (.ListComp elt gens scope pos) (d+1) y (.ref L) env) env
   again code) (λfin s'=>match fin with|.done f=>RR (.ok f) s'|.again c'=>c'.quiet=true/\cF (model T.prog T.w) A c' RR s') (dh (model T.prog T.w) A env λe s'=>RR (.error e) s') s:=by
 refine(let Zt:_->ah->Prop:=_;let Zu:ag->ah->Prop:=_;(?_:wpAny _ _ _ Zt Zu _))
 refine ae (Zw _ _ _ _ _ _ (P.hide t.CP) (K.rL k t.no (λu_ u_ u_ u_ nl t=>oR.vl t nl.vl (ao _)) λw Zy mw s4 D4 Ww e4 g4 Zz hw k4=>?_));have P4:=P.good g4;have t4:=t.next Zz;refine ae (bh ?_)
 have TR:∀es kk p,z≠.Set es kk p:=by
  rintro es kk p rfl;exact nomatch (show(R.stuck:R V)=.ok w Zy from e4)
 refine ae (cw (yU (c:=c) (λu_ u_=>trivial) TR mw) ?_);cases Aj:pR w with
 |none=>rw[Aj]at k4;exact k4.oH.elim
 |some items =>
  replace k4:=(Aj)▸k4;refine ae (a7 (Ae F P4 hw Aj λh5 Qh Yt Wx=>?_));have g5:Good T D4 Ww D4 Ww c env Zy {s4 with heap:=h5}:=P4.grown (tk:=s4.toks) Qh
  have P5:=P4.good g5;have TS:s4.heap.objs.size≠I:=bj (aS t4.oI)
  have M:Bx D4 h5 (yx I oI):=λa o e=>by
   unfold yx at e;split at e
   ·rename_i ha;obtain rfl:=ai e;subst ha;exact⟨t4.nI,Qh _ _ t4.oI⟩
   ·exact(nS e).elim
  have O:∀a o,yx I oI a=some o->D4 a=none:=λa o e=>(M a o e).1;have VM:yx I oI I=some oI:=aO rfl;have ZA:∀a,a≠I->yx I oI a=none:=λa ha=>aT ha;have U:D4.Sub (D4.hide (yx I oI)):=Bx.sub O;have P6:=P5.hide M
  refine ae (i9 (jd (R:=λr s'=>match r with
   |.ok _=>cF (model T.prog T.w) A code RR s'
   |.error e=>iP (model T.prog T.w) A env (dh (model T.prog T.w) A env λx s'=>RR (.error x) s') e s') ?_ λr s' hr=>?_))
  ·have inner:cF (model T.prog T.w) A (.compLoop (.ListComp elt gens scope pos) (d+1) (.ref s4.heap.objs.size) (.ref L) env) (λr s'=>match r with
     |.ok _=>cF (model T.prog T.w) A code RR s'
     |.error e=>iP (model T.prog T.w) A env (dh (model T.prog T.w) A env λx s'=>RR (.error x) s') e s') {s4 with heap:=h5}:=by
    refine(let C:Prop:=_;(?_:C))
    refine IH (d+1) _ H TQ items items.length 0 (cL _).symm (D4.hide (yx I oI)) Ww Zy _ acc ys s4.heap.objs.size L _ P6 (Wx.moves (λo e=>e) (λb o e=>U _ _ e) (ao _) U.le P5.pO P6.pO) ((oN.rq (ZA _ TS)).trans P4.pO.fresh) ((oN.rq (ZA _ (b3 t.ne))).trans t4.nL)
     (bj (aS t4.oL)) ⟨nL,Qh _ _ t4.oL⟩ hz ((r.mono g4.le g4.pre).mono U.le (ao _)) ?_
    refine K.Kd (K.rL (K.sub k4 g5) O (λD' ph b x nl t'=>(qB (oK.vl t'.1 nl.vl (ao _)) t'.2.1 ((oN.shown_none (ZA _ (b3 t.ne)))▸t'.2.2))) λZC Yu ys6 s6 D6 Wy e6 g6 Wz Y k6 ZD=>?_) P6.GJ P6.base;exact next D6 Wy Yu s6 ZC ys6 ((g4.trans g5).trans g6) (Wz _ _ VM).2 (Wz _ _ VM).1 Y.2.2 ZD Y.2.1 Y.1 k6
   refine Ag H rfl inner ?_;refine(let C:Prop:=_;(?_:C))
   obtain⟨fp',m',Pi',St',W',w1,w2,w3,w4,w5⟩:=Wx.ex;exact W'.self 0 _ _ _ w1 inner
  ·induction r using Except.casesOn with
   |ok f=>exact aj ⟨hq,hr⟩
   |error e=>exact hr
theorem Cb {z:aI} {gens:af aR} {scope:ft} {pos:Pos} {d:Nat} {g:aR} (U:gens[d]?=some g) (ha:g.is_async=0) {I L:ay} {RR:eO->ah->Prop}
  (h:wpAny (model T.prog T.w) A (pyNext (.ref I)) (λo s=>match o with
   |none=>RR (.ok .next) s
   |some v=>wpAny (model T.prog T.w) A (oj g.target (.ref I) v) (λu_ s=>wpAny (model T.prog T.w) A (assign g.target env v) (λu_ s=>wpAny (model T.prog T.w) A (forIn g.ifs true λx r=>if r=true then do let ok <- jX x env (eval x env);pure (dg ok)else pure (dg r)) (λok s=>match ok with
    |false=>cF (model T.prog T.w) A (.compLoop (.ListComp z gens scope pos) d (.ref I) (.ref L) env) RR s
    |true=>(gens[d+1]?=none->wpAny (model T.prog T.w) A (do
      (do let x <- eval z env;let _ <- call (.builtin "list.append") [.ref L,x];pure ())
      again (.compLoop (.ListComp z gens scope pos) d (.ref I) (.ref L) env)) (λfin s'=>match fin with|.done f=>RR (.ok f) s'|.again c'=>c'.quiet=true/\cF (model T.prog T.w) A c' RR s') (dh (model T.prog T.w) A env λe s'=>RR (.error e) s') s) /\
     ∀M C H,gens[d+1]?=some ⟨M,C,H,0⟩->wpAny (model T.prog T.w) A (do
      let x <- eval C env
      gQ C.pos
      let x <- dX C env x
      let y <- fJ [x] (pyIter x)
      let _ <- mS (.compStart (.ListComp z gens scope pos) (d+1) y (.ref L) env) env
      again (.compLoop (.ListComp z gens scope pos) d (.ref I) (.ref L) env)) (λfin s'=>match fin with|.done f=>RR (.ok f) s'|.again c'=>c'.quiet=true/\cF (model T.prog T.w) A c' RR s') (dh (model T.prog T.w) A env λe s'=>RR (.error e) s') s) (dh (model T.prog T.w) A env λe s'=>RR (.error e) s') s) (dh (model T.prog T.w) A env λe s'=>RR (.error e) s') s) (dh (model T.prog T.w) A env λe s'=>RR (.error e) s') s) (dh (model T.prog T.w) A env λe s'=>RR (.error e) s') s)
  (hs:∀M,gens[d+1]?=some M->M.is_async=0):cF (model T.prog T.w) A (.compLoop (.ListComp z gens scope pos) d (.ref I) (.ref L) env) RR s:=by
 refine cz ?_;refine(?_:wpAny (model T.prog T.w) A ((compTurn (.ListComp z gens scope pos) d (.ref I) (.ref L) env).onRaise (λx=>do noteFrame x env;fD x)) _ _ s)
 refine(let O:_->ah->Prop:=_;(?_:wpAny _ _ _ O _ _))
 refine gq ?_;obtain⟨Y,gi,gf,ga⟩:=g;obtain rfl:ga=0:=ha;delta compTurn;dsimp only;refine(U).symm▸?_;refine ae (bh ?_);refine ae (cE h (λo s h=>?_) λu_ u_ e=>e);cases o with
 |none=>exact aj h
 |some v =>
  refine ae (cE h (λu_ s h=>ae (cE h (λu_ s h=>ae (cE h (λok s h=>?_) λu_ u_ e=>e)) λu_ u_ e=>e)) λu_ u_ e=>e);cases ok with
  |false=>exact aj ⟨rfl,h⟩
  |true =>
   cases e:gens[d+1]? with
   |none=>exact h.1 e
   |some g' =>
    obtain⟨M,C,H,a'⟩:=g';obtain rfl:a'=0:=hs _ e;exact h.2 M C H e
theorem Cc (F:qi T c env A) {M:aI} {gens:af aR} {scope:ft} {pos:Pos} (Se:pT T c env A M) (Sg:∀g∈gens,E0 T c env A g) (gs:af aR)
  (IHg:∀g' O,gs=g'::O->vZ T c env A M gens scope pos O):vZ T c env A M gens scope pos gs:=by
 intro d g hg ZE all n;have WA:g∈gens:=cg hg;obtain⟨WC,hG,hT,_⟩:=Sg g WA
 induction n with
 |zero =>
  intro i pd D φ st s acc ys I L RR P it hI hL sx hP hz r k;refine Cb hg WC ?_ λg' e=>(Sg g' (cg e)).async;refine(let C:Prop:=_;(?_:C))
  obtain⟨fp,m,Pi,Sx,W,q1,q2,q3,q4,q5⟩:=it.ex;have hm:i=m:=by exact aZ (uJ (.a .x (.n 0)) .y .y .z .x .z rfl (ak pd.symm) (ak q2.symm)) (uJ .x (.a .y (.n 0)) .z .x .z .y rfl (ak pd) (ak q2))
  subst hm;have hd:all.drop i=[]:=ej (by exact pZ .x .y .x .y rfl (ak q2.symm))
  rw[hd]at k;refine W.done s _ _ q1 λh' tk hk=>?_;have g1:Good T D φ D φ c env st {s with heap:=h',toks:=tk}:=P.turnAt hI λb o hb=>hk b o (by simpa using hb)
  exact(k.ok g1 (qB r hz hL) (hP.at λo e=>hk L o (by simpa using b3 sx) e))
 |succ n ih =>
  intro i pd D φ st s acc ys I L RR P it hI hL sx hP hz r k;refine Cb hg WC ?_ λg' e=>(Sg g' (cg e)).async;refine(let C:Prop:=_;(?_:C))
  obtain⟨fp,m,Pi,Sx,W,q1,q2,q3,q4,q5⟩:=id it.ex;have ug:i<all.length:=by exact ye (.a .x (.a .y (.n 1))) .z (.a .x (.n 1)) .z rfl (ak pd.symm)
  have hd:all.drop i=all[i]::all.drop (i+1):=dm ug;rw[hd,TL]at k;refine W.item i s _ _ (by exact uJ .x .y (.a .z (.n 1)) .x (.a .z (.n 1)) .y rfl (ak q2.symm) ug) q1 λv h1 VL hv WD Sq=>?_
  refine(let C:Prop:=_;(?_:C))
  refine o8 (q3 i v (by exact uJ .x .y (.a .z (.n 1)) .x (.a .z (.n 1)) .y rfl (ak q2.symm) ug) hv) λx hx hr=>?_
  have ZF:x=all[i]:=by rw[aW ug]at hx;obtain rfl:=ai hx;rfl
  subst ZF;have g1:Good T D φ D φ c env st {s with heap:=h1,toks:=VL}:=P.turnAt hI λb o hb=>Sq b o (by simpa using hb)
  have P1:=P.good g1;have k1:=k.sub g1;clear k;refine sF (q4 (i+1) h1 WD) λoI cn ZG ZH ZI=>?_;have hP1:h1.PlainList L ys.toArray:=hP.at λo e=>Sq L o (by simpa using b3 sx) e
  refine p8 hP1 λnL Wg=>?_;have WE:tA T A D φ I h1 (i+1) all:=⟨fp,m,Pi,Sx,W,WD,q2,q3,q4,q5⟩
  have next:IC T D φ c env A I L oI (λa s=>rS (Ah c g.target g.ifs gs (λs=>oO c M s)) (all.drop (i+1)) a s) (.compLoop (.ListComp M gens scope pos) d (.ref I) (.ref L) env) RR:=λD2 Mm CT s2 U ZJ gg hIk e1 e2 Pc Yv r2 kk =>
   ih (i+1) (by exact aZ (ye .x (.a .y (.a .z (.n 1))) .x (.a (.a .y (.n 1)) .z) rfl (ak pd)) (ye (.a .x (.a .y (.n 1))) .z (.a (.a .x (.n 1)) .y) .z rfl (ak pd.symm))) D2 Mm CT s2 U ZJ I L RR (P.good gg) (WE.moves (λo e=>by rw[ZG]at e;obtain rfl:=ai e;exact hIk) (λb o e=>gg.le _ _ e rfl) gg.pre gg.le g1.pO gg.pO) e1 e2 sx Pc Yv r2 kk
  have t1:uj T D {s with heap:=h1,toks:=VL} I L oI ys nL:=⟨hI,hL,sx,ZG,Wg⟩
  refine EZ ZG ZH ZI ?_;unfold Ah at k1;rw[R.bind_assoc]at k1;refine hG _ _ _ _ _ _ _ _ (P1.hide t1.CP) (hr.mono (Bx.sub λa o e=>(t1.CP a o e).1).le (ao _)) (K.rL k1 t1.no (λu_ u_ u_ u_ u_ t=>t) λu CT u' s2 D2 Mm e2 g2 WG u_ k2=>?_);have P2:=P1.good g2;have t2:=t1.next WG;rw[R.bind_assoc]at k2;refine Qf hT _ _ _ _ _ _ (P2.hide t2.CP) (K.rL k2 t2.no (λu_ u_ u_ u_ u_ t=>t) λb ZK b' s3 D3 TU e3 g3 Qi hb k3=>?_);have P3:=P2.good g3;have t3:=t2.next Qi;have Gv:=(g1.trans g2).trans g3;have r3:oK T D3 TU ys acc:=r.mono Gv.le Gv.pre;have Y:IC T D3 TU c env A I L oI (λa s=>rS (Ah c g.target g.ifs gs (λs=>oO c M s)) (all.drop (i+1)) a s) (.compLoop (.ListComp M gens scope pos) d (.ref I) (.ref L) env) RR:=λD2 Mm CT s2 U ZJ gg=>next D2 Mm CT s2 U ZJ (Gv.trans gg);subst hb;cases b' with
  |false=>exact next D3 TU ZK s3 acc ys Gv t3.oI t3.nI t3.nL ⟨nL,t3.oL⟩ hz r3 k3
  |true =>
   replace k3:=(aO rfl)▸k3
   induction gs using bN with
   |nil =>
    have WH:gens[d+1]?=none:=by
     have:=aD fM ZE;simp at this;exact gH (Nat.le_of_sub_eq_zero this)
    refine⟨λu_=>?_,λu_ u_ u_ e=>(nS (WH.symm.trans e)).elim⟩;rw[C7,R.bind_assoc]at k3;exact MK Se P3 t3 hz r3 rfl Y k3
   |cons g' O =>
    have H:gens[d+1]?=some g':=by
     have:=aD ow ZE;rw[List.head?_drop]at this;exact this
    have TQ:gens.drop (d+1+1)=O:=by
     have:=aD List.tail ZE;rw[List.tail_drop]at this;exact this
    obtain⟨abz,_,_,Zw⟩:=Sg g' (cg H);refine⟨λe=>((nN (H.symm.trans e)).elim),λt' it' TP e=>?_⟩;obtain rfl:=ai (H.symm.trans e);rw[By,R.bind_assoc]at k3;exact Hh F Zw H TQ (IHg _ O rfl) P3 t3 hz r3 rfl Y k3
theorem C8(F:qi T c env A){o:aI}{gens:af aR}{scope:ft}{pos:Pos}(z:pT T c env A o)(C:∀g∈gens,E0 T c env A g)(gs:af aR):vZ T c env A o gens scope pos gs:=by
 induction gs with
 |nil=>exact Cc F z C [] λg' y e=>by cases e
 |cons g' y ih=>exact Cc F z C _ λM H e=>by cases e;exact ih
end
noncomputable def Pf(cells:af (Str×ay))(acc:af (Str×ay))(p:Str×bM):af (Str×ay):=if p.2=.free then((cells.lookup p.1).map λa=>(p.1,a)).toList++acc else acc
noncomputable def qJ(cells:af (Str×ay))(names:af (Str×bM))(acc:af (Str×ay)):af (Str×ay):=names.foldl (Pf cells) acc
theorem xt(cells:af (Str×ay))(names:af (Str×bM)):∀(acc:af (Str×ay)),(∀x a,(x,a)∈acc->cells.lookup x=some a)->∀x a,(x,a)∈qJ cells names acc->cells.lookup x=some a:=by
 induction names with
 |nil=>exactλacc h=>h
 |cons p r ih =>
  refineλacc h=>ih _ λx a hm=>?_
  unfold Pf at hm;by_cases hk:p.2=.free
  ·rw[aO hk]at hm;refine(List.mem_append.mp hm).elim (λq=>?_) (h x a);refine(let C:Prop:=_;(?_:C))
   cases hl:cells.lookup p.1 with
   |none=>replace q:=(hl)▸q;exact(bf q).elim
   |some b=>replace q:=(hl)▸q;cases List.mem_singleton.mp q;exact hl
  ·rw[aT hk]at hm;exact h x a hm
theorem C9(cells:af (Str×ay))(names:af (Str×bM)):∀(acc:af (Str×ay)) (x:Str),(acc.lookup x).isSome=true->((qJ cells names acc).lookup x).isSome=true:=by
 induction names with
 |nil=>exactλacc x h=>h
 |cons p r ih =>
  refineλacc x h=>ih _ x ?_
  unfold Pf;by_cases hk:p.2=.free
  ·refine rg (aO hk) ?_;cases cells.lookup p.1 with
   |none=>exact h
   |some b =>
    show(gM x ((p.1,b)::acc)).isSome=true;simp only[aU];cases x==p.1
    ·exact h
    ·rfl
  ·exact rg (aT hk) h
theorem Dc(cells:af (Str×ay))(names:af (Str×bM)):∀(acc:af (Str×ay)) (x:Str),(x,cB)∈names->(cells.lookup x).isSome=true->((qJ cells names acc).lookup x).isSome=true:=by
 induction names with
 |nil=>exactλacc x hm=>(bf hm).elim
 |cons p r ih =>
  intro acc x hm hs;refine(List.mem_cons.mp hm).elim (λq=>?_) (λq=>ih _ x q hs);subst q;refine C9 cells r _ x ?_;obtain⟨a,ha⟩:=Option.isSome_iff_exists.mp hs;unfold Pf;refine rg (aO rfl) ?_;refine rg (ha ..) ?_;show(gM x ((x,a)::acc)).isSome=true;simp only[aU,cC];rfl
theorem Bz{scope:ft}{env:Env}(h:∀x,(x,cB)∈scope.names->(env.cells.lookup x).isSome=true):closureFor scope env=pure (qJ env.cells scope.names []):=by
 simp only[closureFor];generalize scope.names=names at h
 have key:∀(names:af (Str×bM)) (acc:af (Str×ay)),(∀x,(x,cB)∈names->(env.cells.lookup x).isSome=true) ->
   (forIn names acc λx r=>match x with
    |(name,kind)=>if(kind==cB)=true then do let a <- cellOf env name;pure (dg ((name,a)::r))else pure (dg r):Sem _)=pure (qJ env.cells names acc):=λnames=>by
  induction names with
  |nil=>intro acc _;rfl
  |cons p r ih =>
   intro acc h;obtain⟨n,k⟩:=p;refine rg (eZ ..) ?_;by_cases hk:k=.free
   ·subst hk;obtain⟨a,ha⟩:=Option.isSome_iff_exists.mp (h n az);have hc:cellOf env n=pure a:=by unfold cellOf;exact rg (ha ..) rfl
    have e:qJ env.cells ((n,cB)::r) acc=qJ env.cells r ((n,a)::acc):=by
     show jv _ (Pf env.cells acc (n,cB)) r=_;unfold Pf;refine rg (aO rfl) ?_;refine rg (ha) ?_;rfl
    refine rg (e) ?_;dsimp only;refine rg (aO (by decide)) ?_;refine rg (hc ..) ?_
    exact ih _ λx hx=>h x (aA _ hx)
   ·have o:(k==cB)=false:=beq_eq_false_iff_ne.mpr hk
    have e:qJ env.cells ((n,k)::r) acc=qJ env.cells r acc:=by
     show jv _ (Pf env.cells acc (n,k)) r=_;unfold Pf;refine rg (aT hk) ?_;rfl
    refine rg (e) ?_;dsimp only;refine rg (aT (by rw[o];decide)) ?_
    exact ih _ λx hx=>h x (aA _ hx)
 have:=key names [] h
 first
  |(rw[this];rfl)
  |(refine nD ?_ this;rfl)
  |exact this
theorem Ak{scope:ft}{env:Env}(x:Str):(relabel scope env).names.lookup x=(scope.names.lookup x).map λk=>if(k==cB&&env.scope.kind==.function&&env.kindOf x==some .cell)=true then .cell else k:=by
 unfold relabel;dsimp only;generalize scope.names=names
 induction names with
 |nil=>rfl
 |cons p r ih =>
  obtain⟨n,k⟩:=p;refine rg (a6 ..) ?_;by_cases h:x=n
  ·subst h;by_cases hc:(k==cB&&env.scope.kind==.function&&env.kindOf x==some .cell)=true
   ·dsimp only;refine rg (aO hc) ?_;simp only[aU,cC,eV,aO hc]
   ·dsimp only;refine rg (aT hc) ?_;simp only[aU,cC,eV,aT hc]
  ·have hb:(x==n)=false:=beq_eq_false_iff_ne.mpr h;by_cases hc:(k==cB&&env.scope.kind==.function&&env.kindOf n==some .cell)=true
   ·dsimp only;refine rg (aO hc) ?_;simp only[aU,hb];exact ih
   ·dsimp only;refine rg (aT hc) ?_;simp only[aU,hb];exact ih
section
variable{T:pg}{D D':oN}{φ ph:af ay}{c:MC}{env:Env}{A:aX}{st tm:St}{s s':ah}{E:ag->ah->Prop}
structure Dd(c:MC)(scope:ft)(gens:af aR):Prop where
 kind:scope.kind=.function
 kinds:∀x k,(x,k)∈scope.names->k=.local\/(k=.free/\c.names.lookup x=some .cell)\/k=.globalImplicit
 Es:∀x k,(x,k)∈scope.names->t6 x=true
 plain:∀x k,(x,k)∈scope.names->(x==("__debug__" : Str))=false/\(x==("__classdict__" : Str))=false
 nd:(scope.names.map (·.1)).Nodup
 async:∀g∈gens,g.is_async=0
theorem Ke{scope:ft}{gens:af aR}(h:CL c.names scope gens=true):Dd c scope gens:=by
 unfold CL at h;simp only[aw,aw,aw]at h;refine(let C:Prop:=_;(?_:C))
 obtain⟨⟨⟨h1,h2⟩,h3⟩,h4⟩:=h
 have P9:∀x k,(x,k)∈scope.names->((k==.local||(k==.free&&c.names.lookup x==some .cell)||k==.globalImplicit)=true/\t6 x=true)/\(x==("__debug__" : Str))=false/\(x==("__classdict__" : Str))=false:=λx k hx=>by
  have:=List.all_eq_true.mp h2 _ hx;simp only[aw,aw,aw]at this;refine(let C:Prop:=_;(?_:C))
  obtain⟨⟨⟨a,b⟩,d⟩,e⟩:=this;exact qB ⟨a,b⟩ (by simpa using d) (by simpa using e)
 refine⟨beq_iff_eq.mp h1,λx k hx=>?_,λx k hx=>(P9 x k hx).1.2,λx k hx=>(P9 x k hx).2,bR h3,λg o=>beq_iff_eq.mp (List.all_eq_true.mp h4 g o)⟩;have:=(P9 x k hx).1.1;simp only[bZ,bZ,aw]at this;refine(let C:Prop:=_;(?_:C))
 rcases this with(a|⟨a,b⟩)|a
 ·exact .inl (beq_iff_eq.mp a)
 ·exact .inr (.inl ⟨beq_iff_eq.mp a,beq_iff_eq.mp b⟩)
 ·exact .inr (.inr (beq_iff_eq.mp a))
theorem sI{o:Type}{l:af (Str×o)}{x:Str}{a:o}(hn:(l.map (·.1)).Nodup)(h:(x,a)∈l):l.lookup x=some a:=by
 induction l with
 |nil=>exact(nM h).elim
 |cons p r ih =>
  obtain⟨y,b⟩:=p;simp only[a6,cN]at hn;simp only[aU];refine(List.mem_cons.mp h).elim (λq=>?_) (λq=>?_)
  ·cases q;simp
  ·have:x≠y:=by rintro rfl;exact hn.1 (List.mem_map.mpr ⟨_,q,rfl⟩)
   have hb:(x==y)=false:=beq_eq_false_iff_ne.mpr this;simp only[hb];exact ih hn.2 q
theorem ML{k:bM}{o:au pq}{ρ:af (Str×pq)}{n:Str}{P:af (Str×pq)->Prop}(h:∀l,o=some (.own l)->P (oZ ρ n (.val (.lst l))))(h':P ρ):P (Ls k o ρ n):=by
 cases k with
 |free=>cases o with
  |none=>exact h'
  |some b=>cases b with
   |own l=>exact h l rfl
   |_=>exact h'
 |_=>exact h'
set_option tactic.hygienic true in
theorem pI.pB(names:af (Str×bM)):∀{D:oN} {st:St},pI T D φ c env A st s->∃D',Good T D φ D' φ c env {st with ρ:=pB names st.ρ} s:=by
 induction names with
 |nil=>intro D st P;exact⟨D,P.here⟩
 |cons p r ih =>
  intro D st P;obtain⟨n,k⟩:=p;refine(?_:∃D',Good T D φ D' φ c env {st with ρ:=Internal.pB r (Ls k (st.ρ.lookup n) st.ρ n)} s)
  refine ML (P:=λρ=>∃D',Good T D φ D' φ c env {st with ρ:=Internal.pB r ρ} s) (λl e=>?_) (ih P)
  ·refine(let C:Prop:=_;(?_:C))
   refine sF (P.freeze e) λa y hv g hr=>?_;obtain⟨o,g2⟩:=ih (P.good g);exact⟨o,g.trans g2⟩
theorem De{n:Str}{k:bM}{r:af (Str×bM)}{ρ:af (Str×pq)}{o:af (Str×V)}{C:Prop}(h:qg ((n,k)::r) ρ=some o)(h1:∀u l,k=.free/\ρ.lookup n=some (.val u)->qg r ρ=some l->(n,u)::l=o->C)(h2:qg r ρ=some o->C):C:=by
 cases k with
 |free =>
  refine qH (show(Pn (ρ.lookup n)).bind (λv=>(qg r ρ).map λl=>(n,v)::l)=some o from h) λu e1 e2=>?_;obtain⟨l,e3,e4⟩:=Option.map_eq_some_iff.mp e2;cases q:ρ.lookup n with
  |none=>rw[q]at e1;exact(nS e1).elim
  |some b=>cases b with
   |val v=>rw[q]at e1;obtain rfl:=ai e1;exact h1 _ l ⟨rfl,q⟩ e3 e4
   |_=>rw[q]at e1;exact(nS e1).elim
 |_=>exact h2 h
set_option tactic.hygienic true in
theorem Df{names:af (Str×bM)}{ρ:af (Str×pq)}{o:af (Str×V)}(h:qg names ρ=some o){x:Str}{v:V}(hx:o.lookup x=some v):(x,cB)∈names/\ρ.lookup x=some (.val v):=by
 refine(let C:Prop:=_;(?_:C))
 induction names generalizing o with
 |nil=>cases h;exact(nS hx).elim
 |cons p r ih =>
  obtain⟨n,k⟩:=p;refine De h (λu l e1 e2 y=>?_) (λh=>qA (ih h hx) λa b=>⟨aA _ a,b⟩);obtain⟨rfl,e1⟩:=e1;subst y;simp only[aU]at hx;by_cases hn:x=n
  ·subst hn;simp only[cC]at hx;obtain rfl:=ai hx;exact⟨az,e1⟩
  ·replace hx:=(show(x==n)=false from beq_eq_false_iff_ne.mpr hn)▸hx;exact qA (ih e2 hx) λa b=>⟨aA _ a,b⟩
theorem Link.over(L:Link T D φ c env st)(hm:∀a sp,D a=some sp->sp.tx=true->D' a=some sp)(yc:D.Le D')(hp:φ <+: ph){σ:af Cell}(hc:px T D' ph σ):Link T D' ph c env {st with σ:=σ} where
 locals:=let⟨m,e⟩:=L.locals;⟨m,hm _ _ e rfl⟩
 vars:=λy b e n=>by
  refine o8 (L.vars y b e n) λmv p q=>?_;refine o5 mv ?_ ?_
  ·refine(let C:Prop:=_;(?_:C))
   refine(p).elim (λM=>?_) (λO=>?_)
   ·obtain⟨a,m,b,d⟩:=M;exact .inl ⟨a,m,hm _ _ b rfl,d⟩
   ·obtain⟨a,H,b,d⟩:=O;exact .inr ⟨a,H,b,hm _ _ d rfl⟩
  ·cases q with
   |val r=>exact .val (r.vl yc.vl hp)
   |own o z r=>exact .own (hm _ _ o rfl) z (r.vl yc.vl hp)
 p6:=λy e=>let⟨H,v,p,q⟩:=L.p6 y e;(uL H v p (hm _ _ q rfl))
 free:=λy v e=>let⟨H,o,mv,p,q,r,z⟩:=L.free y v e;(zF H o mv p (yc _ _ q rfl) r (z.vl yc.vl hp))
 cells:=hc
end
end
section
set_option genInjectivity true
set_option genSizeOf true
open PySem PySem.Calls PyProof.Rows PySem.SeqAt PySem.W PySem.MeetsSeq
theorem Al(c:MC)(g:aR)(gs:af aR)(s:St):Internal.firstIter c (g::gs) s=oO c g.iter s:=by cases g;rfl
section
variable{T:pg}{D D':oN}{φ ph:af ay}{c:MC}{env:Env}{A:aX}{st tm:St}{s s':ah}{E:ag->ah->Prop}
set_option tactic.hygienic true in
theorem oN.MN{D:oN}{h:bP}{a:ay}{x:Str}{vs:af ag}(e:D.lock h a=some (.own x vs)):eu:=by
 refine qH e λz q e=>?_;cases z with
 |ns m=>obtain⟨o,_,h⟩:=Option.map_eq_some_iff.mp e;cases h
 |cell v=>obtain⟨o,_,h⟩:=Option.map_eq_some_iff.mp e;cases h
 |own y C=>obtain⟨o,_,h⟩:=Option.map_eq_some_iff.mp e;cases h
 |_=>exact nomatch e
theorem Hi (F:qi T c env A) (P:pI T D φ c env A st s) {scope:ft} {gens:af aR} (yV:Dd c scope gens) {U:af (Str×V)} (Y:qg scope.names st.ρ=some U) {env':Env} {C:ay} {m:Str->au ag}
  (eL:env'.locals=C) (eF:env'.frame=env.frame) (eC:env'.cells=qJ env.cells scope.names []) (hC:D C=none) (Pg:s.heap.Ns C m) :
  ∃y,(∀a,a≠C->y a=D.lock s.heap a)/\(D.lock s.heap).Le y/\D.Le y/\pI T y φ (under c scope.names U) env' A ⟨qF [] scope.names,st.σ⟩ s:=by
 have WJ:∀{x:Str} {kk:bM},scope.names.lookup x=some kk->(x,kk)∈scope.names:=λe=>mem_of_lookup e;have WL:D.lock s.heap C=none:=by unfold oN.lock;refine rg (hC ..) ?_;rfl
 obtain⟨y,hD5⟩:∃X:oN,(λa=>if a=C then some (Sp.ns m)else D.lock s.heap a)=X:=⟨_,rfl⟩
 have atC:y C=some (.ns m):=rl (hD5 ..) (aO rfl);have low:∀a,a≠C->y a=D.lock s.heap a:=λa ha=>rl (hD5 ..) (aT ha);have nz:∀{a:ay} {sp:Sp},D a=some sp->a≠C:=λ{a sp} e=>by rintro rfl;rw[hC]at e;cases e
 have sk:(D.lock s.heap).Le y:=λa sp e hs=>by
  exact rg (low a (by rintro rfl;rw[WL]at e;cases e)) e
 have B8:∀a sp,D a=some sp->sp.tx=false->y a=some sp:=λa sp e Zf=>by
  refine rg (low a (nz e)) ?_;refine rg (oN.wJ λsp' e'=>by rw[e]at e';cases e';exact Zf) ?_
  exact e
 have G7:D.Le y:=λa sp e hs=>B8 a sp e (Sp.uT hs)
 have in5:y.In T s.heap:=λa sp e=>by
  by_cases ha:a=C
  ·subst ha;rw[atC]at e;cases e;exact Pg
  ·rw[low a ha]at e;exact oN.CZ (P.pO) a sp e
 have WM:Link T y φ (under c scope.names U) env' ⟨qF [] scope.names,st.σ⟩:=by
  refine⟨⟨_,by rw[eL];exact atC⟩,λx b h n=>((nS ((yM (ρ:=[]) h n))).elim),λx h=>?_,λx v h=>?_,?_⟩
  ·refine(let C:Prop:=_;(?_:C))
   rcases yV.kinds x _ (WJ h)with q|⟨q,_⟩|q<;>cases q
  ·refine(let C:Prop:=_;(?_:C))
   refine qA (Df Y h) λhm MD=>?_;refine o8 (P.link.vars x _ MD nofun) λmw hv hb=>?_;have hkc:c.names.lookup x=some .cell:=by rcases yV.kinds x _ hm with q|⟨_,q⟩|q<;>first|exact q|cases q
   refine o8 (hv.Tj (F.ok.Tj x hkc)) λca M WN=>?_;refine o8 (P.pO _ _ WN) λo ho O=>?_;refine zF ca o mw ?_ ?_ O ?_
   ·refine rg (eC ..) ?_;refine(let C:Prop:=_;(?_:C))
    obtain⟨a',ha'⟩:=Option.isSome_iff_exists.mp (Dc env.cells scope.names [] x hm (aD _ (M)));have:=xt env.cells scope.names [] (by intro _ _ q;cases q) x a' (mem_of_lookup ha')
    rw[M]at this;obtain rfl:=ai this;exact ha'
   ·refine rg (low _ (nz WN)) ?_;unfold oN.lock;exact rg (WN ..) (aD (cO _) ho)
   ·refine(let C:Prop:=_;(?_:C))
    cases hb with
    |val r=>exact r.mono G7 (ao _)
  ·exact P.link.cells.vl G7.vl λa Gu e=>B8 a _ e rfl
 have ZL:JL y env' A:=by
  refine(let C:Prop:=_;(?_:C))
  refine sF (P.GJ) λz H q1 q2 q3=>?_;refine tD z H q1 (q2.trans eF.symm) (λe he=>?_);refine(let C:Prop:=_;(?_:C))
  obtain⟨k1',L',k2',Ph⟩:=q3 e he;refine⟨k1',L',k2',.inr ?_⟩;refine(let C:Prop:=_;(?_:C))
  rcases Ph with rfl|⟨o,es,ep,Ph,k4'⟩
  ·obtain⟨m0,Sl⟩:=P.link.locals;refine za (P.pO _ _ Sl) λo es ep q1 q2 u_=>?_;refine zb o es ep ?_ q2;refine rg (low _ (nz Sl)) ?_;unfold oN.lock;exact rg (Sl ..) (aD (cO _) q1)
  ·exact zb o es ep (G7 _ _ Ph rfl) k4'
 have WO:y.zQ:=λa a' x vs To h u_=>by
  by_cases ha:a=C
  ·subst ha;exact nomatch atC.symm.trans h
  ·exact(oN.MN ((low a ha).symm.trans h)).elim
 have WQ:∀a o,T.b.get? a=some o->y a=some (.fz o):=λa o e=>G7 _ _ (P.base a o e) rfl;exact⟨y,low,sk,G7,in5,WM,P.gens,P.os,ZL,WQ,WO⟩
structure ZM(T:pg)(D D6 D8:oN)(C:ay)(h:bP):Prop where
 none:∀t,D6 t=aC->D8 t=aC
 le:D.Le D8
 vl:D6.Vl D8
 pO:D8.In T h
 back:D.Back D8
 tx:∀a sp,D a=some sp->sp.tx=true->D8 a=some sp
 cells:∀{φ σ},px T D6 φ σ->px T D8 φ σ
 cn:D8 C=aC
theorem E1{h h':bP}{H:oN}(M:qp T D H h h'){C:ay}(hC:D C=none){m:Str->au ag}(hm:H C=some (.ns m)):∃O,ZM T D H O C h':=by
 have nz:∀{a:ay} {sp:Sp},D a=some sp->a≠C:=λ{a sp} e q=>by subst q;exact(nS (hC.symm.trans e)).elim
 have nz6:∀{a:ay} {sp:Sp},H a=some sp->(∀m,sp≠.ns m)->a≠C:=λ{a sp} e hn q=>by subst q;exact hn m (ai (e.symm.trans hm))
 have at_:(λa=>if a=C then none else D.back H a) C=none:=aO rfl
 have low:∀a,a≠C->(λa=>if a=C then none else D.back H a) a=D.back H a:=λa h=>aT h
 generalize(λa=>if a=C then none else D.back H a)=O at at_ low
 have vl:H.Vl O:=λa sp e hs=>(low a (nz6 e (λm q=>by subst q;exact(nF hs).elim))).trans (M.vY a sp e hs)
 refine⟨O,λt a2=>?_,λa sp e hs=>(low a (nz e)).trans (M.t9 a sp e hs),vl,λa sp e=>?_,λa x vs e=>?_,λa sp e hs=>(low a (nz e)).trans (oN.r4 e hs),λU=>U.vl vl λa Y e=>?_,at_⟩
 ·by_cases q:t=C
  ·exact rg (q ..) at_
  ·refine rg (low t q) ?_;rw[oN.uU (λsp e'=>?_) (λy vs q=>by rw[a2]at q;cases q)]
   ·exact a2
   ·cases q:sp.tx with
    |false=>rfl
    |true=>exact(M.tx e' q).elim (λo=>o.elim λu_ z=>(nS (a2.symm.trans z)).elim) (λo=>o.elim λu_ z=>(nS (a2.symm.trans z)).elim)
 ·by_cases q:a=C
  ·refine(let C:Prop:=_;(?_:C))
   subst q;exact(nS (at_.symm.trans e)).elim
  ·exact M.back_in a sp ((low a q).symm.trans e)
 ·by_cases q:a=C
  ·subst q;exact(nS (at_.symm.trans e)).elim
  ·exact oN.yo _ _ a x vs ((low a q).symm.trans e)
 ·refine rg (low a (nz6 e nofun)) ?_;exact M.C0 e (by rintro o q;cases q) (by rintro o q;cases q) (by rintro y vs q;cases q)
theorem Kf (P:pI T D φ c env A st s) {cc:MC} {env':Env} {D5:oN} {Yu:St} (P6:pI T D5 φ cc env' A Yu s) (sk:(D.lock s.heap).Le D5) {C L:ay} (eL:env'.locals=C) (hC:D C=none) (hL:D L=none) (ZN:L≠C) {use:au (ag->Sem cV)} {Q:ag->ah->Prop} {r:R (af V)}
  (k:K T D φ c env (λD' ph (b:ag×ay×(Str->au ag)) v=>oR T D' ph b.1 v/\D' b.2.1=none) (match r with|.ok l s'=>.ok (.lst l) ⟨st.ρ,s'.σ⟩|.rQ w p σ=>.rQ w p σ|.stuck=>.stuck)
   (λb s'=>s'.heap.Ns b.2.1 b.2.2->fU (model T.prog T.w) A E use Q b.1 b.2.1 (.ok .next) s') E) :
  K T D5 φ cc env' (Af T L) r (λZx s'=>s'.heap.PlainList L Zx.toArray->fU (model T.prog T.w) A E use Q (.ref L) C (.ok .next) s') (dh (model T.prog T.w) A env' λx s'=>fU (model T.prog T.w) A E use Q (.ref L) C (.error x) s'):=by
 refine⟨λe=>?_,λl Yu e ys s6 D6 U M ZO ZD=>?_,λw p σ hx e s6 D6 U z=>?_⟩
 ·refine(let C:Prop:=_;(?_:C))
  refine(let C:Prop:=_;(?_:C))
  refine(let C:Prop:=_;(?_:C))
  subst e;exact k.oH
 ·subst e;refine y8 (ZO) λhys hzl hL6=>?_;have LK:qp T D D6 s.heap s6.heap:=⟨P.pO,M.pO,sk.trans M.le⟩;refine p8 M.link.locals λmC y=>?_;replace y:=(eL)▸y;refine p8 ZD λnL hnL=>?_;refine(E1 LK hC y).elim λD8 O=>?_;have n8:=O.none L hL6;have sub:D8.Sub (D8.put L (.fz {cls:=.type "list", data:=.seq ys.toArray nL})):=oN.Sub.put n8
  refine k.2.1 (.lst l) _ rfl (.ref L,C,mC) s6 _ U ⟨O.le.trans sub.le,M.pre,λa sp e=>?_,P.link.over (λa sp e hs=>sub a sp (O.tx a sp e hs)) (O.le.trans sub.le) M.pre ((O.cells M.link.cells).sub sub),M.gens,M.os,λa x vs e=>?_⟩
   ⟨.lst (oN.oV ..) (rg (bo ..) (rg (hys.length ..) hzl)) (hys.vl (λa sp e hs=>sub a sp (O.vl a sp e hs)) (ao _)),(oN.pj _ _ (b3 ZN)).trans O.cn⟩ (M.pO _ _ y)
  ·refine(let C:Prop:=_;(?_:C))
   by_cases h1:a=L
   ·refine(let C:Prop:=_;(?_:C))
    subst h1;simp only[oN.oV]at e;obtain rfl:=ai e;exact hnL
   ·replace e:=(oN.pj _ _ h1)▸e;exact O.pO a sp e
  ·refine(let C:Prop:=_;(?_:C))
   by_cases h1:a=L
   ·subst h1;simp only[oN.oV]at e;exact nomatch e
   ·replace e:=(oN.pj _ _ h1)▸e;exact O.back a x vs e
 ·subst hx;refine xn (P6.GJ.le z.le) z.pO (λa o e=>z.le _ _ (P6.base a o e) rfl) z.locals z.L6 λh7 I7 f7=>?_;refine p8 z.locals λmC y=>?_;replace y:=(eL)▸y;have LK:qp T D D6 s.heap h7:=⟨P.pO,I7,sk.trans z.le⟩;refine(E1 LK hC y).elim λD8 O=>?_
  have post:∃m,h7.Ns C m/\∀h',fm C h7 h'->∀H:Env,H.locals=C->wpAny (model T.prog T.w) A (mX "comprehension.variables-let-go" (.ref e) H:Sem ag) (λu_ u_=>eu) E {s6 with heap:=h'}:=by
   refine(let C:Prop:=_;(?_:C))
   refine o5 mC (I7 _ _ y) (λh8 Y H u_=>?_);refine(let C:Prop:=_;(?_:C))
   refine(let C:Prop:=_;(?_:C))
   have f8:zf T D8 h8 e:=by
    refine(let C:Prop:=_;(?_:C))
    obtain⟨d,ws,sl,q1,q2,t,ot,ts,a1,a2,a3,a4⟩:=f7;refine(let C:Prop:=_;(?_:C))
    refine(let C:Prop:=_;(?_:C))
    exact⟨d,ws,sl,O.vl _ _ q1 rfl,(Y.2 e λq=>nomatch (q▸q1).symm.trans y).trans q2,t,ot,ts,a1,O.none t a2,(Y.2 t λq=>(nS ((q▸a2).symm.trans y)).elim).trans a3,a4⟩
   refine J6 (T:=T) (D:=D8) (s:={s6 with heap:=h8}) (O.pO.other O.cn λa o ha ho=>(Y.2 a ha).trans ho) f8 λh9 I9 f9=>?_
   refine(let C:Prop:=_;(?_:C))
   refine p8 P.link.locals λm0 Sl=>?_;exact k.2.2 w p σ rfl e _ D8 U ⟨O.le,z.pre,I9,z.exc.vl O.vl (ao _),f9.Mq,⟨m0,O.tx _ _ Sl rfl⟩,O.cells z.cells,z.gens,z.os⟩
  refine(?_:fU (model T.prog T.w) A E use Q (.ref L) C (.error (.ref e)) {s6 with heap:=h7})
  refine(let C:Prop:=_;(?_:C))
  refine(let C:Prop:=_;(?_:C))
  induction use using cT<;>exact post
noncomputable def vF(scope:ft)(C:ay)(env:Env):Env:={newEnv scope C env.globals (qJ env.cells scope.names []) env.qual none cf (some env) cX with scope:=relabel scope env}
theorem Kg(F:qi T c env A){scope:ft}{gens:af aR}(yV:Dd c scope gens)(o:af (Str×V))(C:ay):qi T (under c scope.names o) (vF scope C env) A:=by
 have eK:∀x,(vF scope C env).kindOf x=(scope.names.lookup x).map λk=>if(k==cB&&env.scope.kind==.function&&env.kindOf x==some .cell)=true then .cell else k:=λx=>Ak x
 have cellIn:∀x a,(vF scope C env).cells.lookup x=some a->env.cells.lookup x=some a:=λx a e=>xt env.cells scope.names [] (λu_ u_ q=>(nM q).elim) x a (mem_of_lookup e);refine⟨F.top,⟨yV.kind,F.ok.glob,F.ok.blt,λx h=>?_,λx h=>?_,λx h=>?_,λx h=>?_,λx y a h1 h2=>F.ok.inj x y a (cellIn _ _ h1) (cellIn _ _ h2),λx kk h=>yV.plain x kk (mem_of_lookup h),λx kk h=>yV.Es x kk (mem_of_lookup h)⟩,F.hd,F.room,F.units,F.g⟩
 ·simp only[eK,show scope.names.lookup x=some .local from h];rfl
 ·refine(let C:Prop:=_;(?_:C))
  rcases yV.kinds x _ (mem_of_lookup h)with q|⟨q,_⟩|q<;>cases q
 ·simp only[eK,show scope.names.lookup x=some .free from h,eV];split
  ·exact .inl rfl
  ·exact .inr rfl
 ·simp only[eK,show scope.names.lookup x=some .globalImplicit from h];rfl
theorem MO (F:qi T c env A) {y:aI} {g:aR} {gs:af aR} {scope:ft} {pos:Pos} {use:au (ag->Sem cV)} {Q:ag->ah->Prop} (yV:Dd c scope (g::gs))
  (S:∀M env',qi T M env' A->M.call=c.call->pT T M env' A y/\∀h∈g::gs,h.is_async=0->E0 T M env' A h) (P:pI T D φ c env A st s) {O:af (Str×V)} (U:qg scope.names st.ρ=some O) {I L C:ay} {m:Str->au ag} {items:af V}
  (hC:D C=none) (hL:D L=none) (hI:D I=none) (z:L≠C) (Y:I≠L) (ZP:I≠C) (Pg:s.heap.Ns C m) (hl:s.heap.get? L=some {cls:=.type "list", data:=.seq ([]:af ag).toArray}) (it:tA T A D φ I s.heap 0 items)
  (k:K T D φ c env (λD' ph (b:ag×ay×(Str->au ag)) v=>oR T D' ph b.1 v/\D' b.2.1=none) (match rX (under c scope.names O) (g::gs) (λs=>oO (under c scope.names O) y s) items ⟨qF [] scope.names,st.σ⟩with|.ok l s'=>.ok (.lst l) ⟨st.ρ,s'.σ⟩|.rQ w p σ=>.rQ w p σ|.stuck=>.stuck)
   (λb s'=>s'.heap.Ns b.2.1 b.2.2->fU (model T.prog T.w) A E use Q b.1 b.2.1 (.ok .next) s') E) :
  cF (model T.prog T.w) A (.compStart (.ListComp y (g::gs) scope pos) 0 (.ref I) (.ref L) (vF scope C env)) (λr s'=>fU (model T.prog T.w) A E use Q (.ref L) C r s') s:=by
 have F':=Kg F yV O C;have Sx:=S _ _ F' rfl;refine JB (Hi F P yV U (env':=vF scope C env) (C:=C) rfl rfl rfl hC Pg) λD5 low sk G7 P6=>?_;have nz:∀a,a≠C->D a=none->D5 a=none:=λa h e=>(low a h).trans (by delta oN.lock;rw[e];rfl)
 have Wx:tA T A D5 φ I s.heap 0 items:=it.moves (λo e=>e) (λb o e=>G7 _ _ e rfl) (ao _) G7 P.pO P6.pO;have ha:=yV.async g az;obtain⟨gt,gi,gf,ga⟩:=g;obtain rfl:ga=0:=ha
 have loop:=C8 F' (scope:=scope) (pos:=pos) Sx.1 (λg' H=>Sx.2 g' H (yV.async g' H)) gs 0 ⟨gt,gi,gf,0⟩ rfl rfl items items.length 0 (cL _).symm D5 φ ⟨qF [] scope.names,st.σ⟩ s [] [] I L
  (λr s'=>fU (model T.prog T.w) A E use Q (.ref L) C r s') P6 Wx (nz I ZP hI) (nz L z hL) Y ⟨_,hl⟩ (bL _) .nil ((mJ)▸Kf P P6 sk rfl hC hL z k)
 refine(let C:Prop:=_;(?_:C))
 refine Ag rfl rfl loop ?_;refine(let C:Prop:=_;(?_:C))
 obtain⟨fp',m',Pi',Sx',W',w1,w2,w3,w4,w5⟩:=Wx.ex;exact W'.self 0 _ _ _ w1 loop
theorem E2 (F:qi T c env A) {elt:aI} {gens:af aR} {scope:ft} {pos:Pos} {use:au (ag->Sem cV)} {Q:ag->ah->Prop}
  (S:∀c' env',qi T c' env' A->c'.call=c.call->pT T c' env' A elt/\∀g∈gens,g.is_async=0->E0 T c' env' A g) (S1:∀g gs,gens=g::gs->pT T c env A g.iter) (P:pI T D φ c env A st s)
  (k:K T D φ c env (λD' ph (b:ag×ay×(Str->au ag)) v=>oR T D' ph b.1 v/\D' b.2.1=none)
   (vx c.names scope gens (λs=>Internal.firstIter c gens s) (λfr items s=>rX (under c scope.names fr) gens (λs=>oO (under c scope.names fr) elt s) items s) st)
   (λb s'=>s'.heap.Ns b.2.1 b.2.2->fU (model T.prog T.w) A E use Q b.1 b.2.1 (.ok .next) s') E) :
  wpAny (model T.prog T.w) A (comprehension (.ListComp elt gens scope pos) scope env (firstIterPos gens pos) (newList []) (firstAsync gens) (lW gens env) use) Q E s:=by
 unfold vx at k;split at k
 ·rename_i yV;have yV:=Ke yV;dsimp only at k
  induction gens using bN with
  |nil =>
   exact k.oH.elim
  |cons g gs =>
   simp only[Al]at k;have O:=yV.async g az;have hfa:firstAsync (g::gs)=false:=by obtain⟨t,it,ifs,a⟩:=g;simp only at O;subst O;rfl
   have hfi:lW (g::gs) env=eval g.iter env:=by obtain⟨t,it,ifs,a⟩:=g;rfl
   have TR:∀es kk p,g.iter≠.Set es kk p:=λes kk p e=>by
    replace k:=(e)▸k;have Pb:oO c (.Set es kk p) st=.stuck:=rfl;exact k.oH
   have z:∀x,(x,cB)∈scope.names->∃ca v,env.cells.lookup x=some ca/\D ca=some (.cell v):=λx hx=>by
    refine(let C:Prop:=_;(?_:C))
    refine(yV.kinds x _ hx).elim (λq=>?_) (λr_=>r_.elim (λPN=>?_) (λq=>?_))
    ·exact nomatch q
    ·obtain⟨_,q⟩:=PN;exact P.link.p6 x q
    ·exact nomatch q
   have WR:=Bz (scope:=scope) (env:=env) λx hx=>by refine tW (z x hx) λca v e u_=>?_;exact aD _ (e)
   refine(hfa).symm▸?_;refine(hfi).symm▸?_;refine wpAny_comprehension_free (g:=g) (gs:=gs) (cl:=qJ env.cells scope.names []) rfl (λx=>yU (c:=c) (λu_ u_=>trivial) TR x) WR yV.kind (λx hx hl=>?_) ?_
   ·obtain⟨n,kk⟩:=x;simp only at hl;subst hl;exact sI yV.nd hx
   refine(let TV:_->ah->Prop:=_;(?_:wpAny _ _ _ TV _ _))
   refine S1 g gs rfl _ _ _ _ _ _ P (K.bind k λv H mv M D1 y e1 g1 r1 k1=>?_);have P1:=P.good g1;split at k1
   ·rename_i items Aj;split at k1
    ·rename_i fr ZQ;obtain⟨U,g2⟩:=P1.pB scope.names;have P2:=P1.good g2;generalize Y:({H with ρ:=pB scope.names H.ρ}:St)=CT at g2 P2
     have WS:CT.ρ=pB scope.names H.ρ:=rl (Y ..) rfl;have ZR:CT.σ=H.σ:=rl (Y ..) rfl;refine Ae F P2 (r1.mono g2.le g2.pre) Aj λh3 hk3 hz3 it3=>?_;have g3:Good T U y U y c env CT {M with heap:=h3}:=P2.grown (tk:=M.toks) hk3
     have P3:=P2.good g3;refine aV (hd:=by show([]:af ag).toArray.size<=dH;exact bL _) ?_
     have hL:U h3.objs.size=none:=P3.pO.fresh;generalize hh4:h3.push {cls:=.type "list", data:=.seq ([]:af ag).toArray}=h4;have ZS:∀b o,h3.get? b=some o->h4.get? b=some o:=λb o e=>rl (hh4 ..) (aq _ e);have hL4:h4.get? h3.objs.size=some {cls:=.type "list", data:=.seq ([]:af ag).toArray}:=rl (hh4 ..) (aF _ rfl);have g4:Good T U y U y c env CT {M with heap:=h4}:=P3.grown (tk:=M.toks) ZS
     have P4:=P3.good g4;have hC:U h4.objs.size=none:=P4.pO.fresh;have ZN:h3.objs.size≠h4.objs.size:=a5 (aS hL4);refine wpAny_newFunctionEnv (λx hx e=>?_) (by intro x hx;cases hx) (λh5 Pg hsb=>?_) yV.kind
     ·obtain⟨n,kk⟩:=x;simp only at e;subst e;rcases yV.kinds n _ hx with q|⟨q,_⟩|q<;>cases q
     have Qh:∀b o,h4.get? b=some o->h5.get? b=some o:=λb o e=>(hsb.2 b (a5 (aS e))).trans (aq _ e);generalize hCd:h4.objs.size=C at *;generalize hLd:h3.objs.size=L at *;have g5:Good T U y U y c env CT {M with heap:=h5,toks:=M.toks+([]:af (Str×ag)).length}:=P4.grown Qh
     have P5:=P4.good g5;generalize VN:({M with heap:=h5,toks:=M.toks+([]:af (Str×ag)).length}:ah)=s5 at g5 P5 ⊢
     have ZT:s5.heap=h5:=rl (VN ..) rfl
     have ZP:M.heap.objs.size≠C:=by
      rintro e;obtain⟨fp,n,Pi,Sx,W,q1,q2,q3,q4,q5⟩:=it3.ex;refine tW (q4 _ _ q1) λo n' ho u_=>?_;have:=aS (ZS _ _ ho);simp only[e,hCd]at this;exact dK _ this
     refine MO F yV S P5 ((WS)▸ZQ) hC hL P2.pO.fresh ZN (by rw[hz3];exact a5 (d1 _)) ZP (ZT▸Pg) ((ZT)▸Qh _ _ hL4) (it3.moves (λo e=>by rw[ZT];exact Qh _ _ (ZS _ _ e)) (λb o e=>e) (ao _) (.refl _) P3.pO P5.pO) (K.sub (rg (WS ..) (rg (ZR ..) k1)) g2)
    ·exact k1.oH.elim
   ·exact k1.oH.elim
 ·refine(let C:Prop:=_;(?_:C))
  exact k.oH.elim
end
end
section
open PySem PySem.Calls PyProof.Rows PySem.SeqAt PySem.W PySem.MeetsSeq
section
variable{T:pg}{D D':oN}{φ ph:af ay}{c:MC}{env:Env}{A:aX}{st tm:St}{s s':ah}{E:ag->ah->Prop}
theorem Dg (F:qi T c env A) {y:aI} {gens:af aR} {scope:ft} {pos:Pos}
  (S:∀z env',qi T z env' A->z.call=c.call->pT T z env' A y/\∀g∈gens,g.is_async=0->E0 T z env' A g) (H:∀g gs,gens=g::gs->pT T c env A g.iter):pT T c env A (.ListComp y gens scope pos):=λD φ st s Q E P k=>by
 dsimp only at k;refine E2 (use:=none) F S H P (qB k.1 (λv tm e b s' D' ph g h hn=>?_) k.2.2);obtain⟨mv,C,m⟩:=b;refine o5 m hn (λh' hs=>?_);exact k.2.1 v tm e mv _ D' ph (g.trans ((P.good g).turnAt (tk:=s'.toks) h.2 λa o ha ho=>(hs.2 a ha).trans ho)) h.1
theorem Hj{e:aI}(h:∀s,oO c e s=.stuck):pT T c env A e:=λD φ st s Q E P k=>by
 dsimp only at k;rw[h]at k;exact k.oH.elim
theorem Dh{e:aI}(h:∀v s,o4 c e v s=.stuck):SimG T c env A (assign e env) (λv s=>o4 c e v s):=λD φ st s mv v Q E P r k=>by
 dsimp only at k;rw[h]at k;exact k.oH.elim
theorem Am:∀(n:Nat)(e:aI),sizeOf e<n->∀(c:MC)(env:Env)(A:aX),qi T c env A->sS T c.call A->pT T c env A e/\sH T c env A e/\SimG T c env A (assign e env) (λv s=>o4 c e v s):=by
 intro n
 induction n with
 |zero=>intro e h;exact absurd h (jh _)
 |succ n M =>
  intro e hsz c env A F H;have ih:∀x,sizeOf x<sizeOf e->pT T c env A x/\sH T c env A x/\SimG T c env A (assign x env) (λv s=>o4 c x v s):=λx hx=>M x (by exact uJ (.a .x (.n 1)) .y (.a .y (.n 1)) (.a .z (.n 1)) (.a .x (.n 1)) .z rfl hx hsz) c env A F H
  have U:pT T c env A e:=by
   refine(let C:Prop:=_;(?_:C))
   cases e with
   |Constant v k p=>exactλD φ st s Q E P k=>JN P k
   |Name x p=>exactλD φ st s Q E P k=>L9 F P (by dsimp only at k;rw[Tc]at k;exact k)
   |BoolOp op es p=>exact GV λx hx=>(ih x (by have:=bz hx;simp;exact Lm (.a .x (.n 1)) .y (.a .x (.n 1)) (.a (.a (.a (.n 1) .z) .y) .w) rfl this)).1
   |BinOp l op r p=>exact JV (ih l (by simp;exact CI  (.a .x (.n 1)) (.a (.a (.a (.a (.n 1) .x) .y) .z) .w) rfl )).1 (ih r (by simp;exact CI  (.a .x (.n 1)) (.a (.a (.a (.a (.n 1) .y) .z) .x) .w) rfl )).1
   |UnaryOp op x p=>exact EN (ih x (by simp;exact R4  (.a .x (.n 1)) (.a (.a (.a (.n 1) .y) .x) .z) rfl )).1
   |IfExp t a b p=>exact JW (ih t (by simp;exact CI  (.a .x (.n 1)) (.a (.a (.a (.a (.n 1) .x) .y) .z) .w) rfl )).2.1 (ih a (by simp;exact CI  (.a .x (.n 1)) (.a (.a (.a (.a (.n 1) .y) .x) .z) .w) rfl )).1 (ih b (by simp;exact CI  (.a .x (.n 1)) (.a (.a (.a (.a (.n 1) .y) .z) .x) .w) rfl )).1
   |Compare l ops cs p=>exact EO F (ih l (by simp;exact CI  (.a .x (.n 1)) (.a (.a (.a (.a (.n 1) .x) .y) .z) .w) rfl )).1 λx hx=>(ih x (by have:=bz hx;simp;exact Lm (.a .x (.n 1)) .y (.a .x (.n 1)) (.a (.a .z .y) .w) rfl this)).1
   |Tuple es k p=>exact JP λx hx=>(ih x (by have:=bz hx;simp;exact Lm (.a .x (.n 1)) .y (.a .x (.n 1)) (.a (.a (.a (.n 1) .y) .z) .w) rfl this)).1
   |List es p=>exact Ma λx hx=>(ih x (by have:=bz hx;simp;exact ye (.a .x (.n 1)) .y (.a .x (.n 1)) (.a (.a (.n 1) .y) .z) rfl this)).1
   |Dict ks vs p=>exact Mp λx hx=>(ih x (by have:=bz hx;simp;exact Lm (.a .x (.n 1)) .y (.a .x (.n 1)) (.a (.a (.a (.n 1) .z) .y) .w) rfl this)).1
   |JoinedStr es p=>exact Bs λx hx=>(ih x (by have:=bz hx;simp;exact ye (.a .x (.n 1)) .y (.a .x (.n 1)) (.a (.a (.n 1) .y) .z) rfl this)).1
   |FormattedValue x conv spec p=>exact wI (ih x (by simp;exact CI  (.a .x (.n 1)) (.a (.a (.a (.a (.n 1) .x) .y) .z) .w) rfl )).1
   |Attribute o a p=>exact Br F (ih o (by simp;exact R4  (.a .x (.n 1)) (.a (.a (.a (.n 1) .x) .y) .z) rfl )).1
   |Subscript o i p=>exact Bq F (ih o (by simp;exact R4  (.a .x (.n 1)) (.a (.a (.a (.n 1) .x) .y) .z) rfl )).1 (ih i (by simp;exact R4  (.a .x (.n 1)) (.a (.a (.a (.n 1) .y) .x) .z) rfl )).1
   |Call func args R9 p =>
    refine MH F H (λo m q e=>?_) λx hx=>(ih x (by have:=bz hx;simp;exact di this (CI .y (.a (.a (.a (.a (.n 1) .x) .y) .z) .w) rfl))).1
    subst e;exact(ih o (by simp;exact di (R4 (.a .x (.n 1)) (.a (.n 1) (.a (.a (.a (.n 1) .x) .y) .z)) rfl) (bG (bG (bJ ..))))).1
   |ListComp elt gens scope p =>
    have O:∀g∈gens,sizeOf g.target<n/\sizeOf g.iter<n/\∀x∈g.ifs,sizeOf x<n:=λg O=>by
     have h1:=bz O;obtain⟨t,it,ifs,a⟩:=g;simp at h1 hsz;have hz:∀{k},k<sizeOf gens->k<n:=λq=>kr q (m6 hsz).2;refine⟨hz (m5 h1).1,hz (m5 h1).2.1,λx hx=>hz (kr (bz hx) (m5 h1).2.2)⟩
    refine Dg F (λY env' F' hc=>⟨(M elt (by simp at hsz;exact(m6 hsz).1) Y env' A F' (hc▸H)).1,λg WA hga=>⟨hga,(M _ (O g WA).1 Y env' A F' (hc▸H)).2.2,λx hx=>(M x ((O g WA).2.2 x hx) Y env' A F' (hc▸H)).2.1,(M _ (O g WA).2.1 Y env' A F' (hc▸H)).1⟩⟩) λg gs e=>?_
    exact(M _ (O g (e▸az)).2.1 c env A F H).1
   |_=>exact Hj λs=>rfl
  refine⟨U,Hd F U λx hx=>⟨(ih x hx).1,(ih x hx).2.1⟩,?_⟩;cases e with
  |Name x p=>exact Ac F
  |Tuple ts k p=>exact zg F λt ht=>(ih t (by have:=bz ht;simp;exact Lm (.a .x (.n 1)) .y (.a .x (.n 1)) (.a (.a (.a (.n 1) .y) .z) .w) rfl this)).2.2
  |Subscript o i p=>exact Bw F (ih o (by simp;exact R4  (.a .x (.n 1)) (.a (.a (.a (.n 1) .x) .y) .z) rfl )).1 (ih i (by simp;exact R4  (.a .x (.n 1)) (.a (.a (.a (.n 1) .y) .x) .z) rfl )).1
  |_=>exact Dh λv s=>rfl
theorem E3(F:qi T c env A)(H:sS T c.call A)(e:aI):pT T c env A e:=(Am _ e (d1 _) c env A F H).1
theorem E4(F:qi T c env A)(H:sS T c.call A)(e:aI):sH T c env A e:=(Am _ e (d1 _) c env A F H).2.1
theorem An(F:qi T c env A)(H:sS T c.call A)(e:aI):SimG T c env A (assign e env) (λv s=>o4 c e v s):=(Am _ e (d1 _) c env A F H).2.2
end
section
variable(c:MC)(s:St)
theorem Sr(t e:aI)(p:Pos):vz c (.Assign [t] e p) s=rT c t e s:=rfl
theorem WT(t y:aI)(b o:af cW)(p:Pos):vz c (.For t y b o p) s=if o.isEmpty then(rG c t y s).bind λitems s=>vh (λv s=>o4 c t v s) (λs=>o7 c b s) items s else .stuck:=rfl
theorem Qj(t:aI)(b o:af cW)(p:Pos):vz c (.While t b o p) s=if o.isEmpty then t5 (λs=>s9 c t (λs=>oO c t s) s) (λs=>o7 c b s) c.wf s else .stuck:=rfl
theorem TX(e:aI)(p:Pos):vz c (.Expr e p) s=if GC e then(oO c e s).bind λu_ s=>.ok .next s else .stuck:=rfl
theorem WU(b:af cW)(hs:af ee)(o f:af cW)(p:Pos):vz c (.Try b hs o f p) s=if o.isEmpty&&f.isEmpty&&!hs.isEmpty then(match qP c hs with|some k=>BY (o7 c b s) (some k)|none=>.stuck)else .stuck:=rfl
theorem Qk(x:Str)(p:Pos)(e:aI):rT c (.Name x p) e s=(vy c e s).bind λb s=>(qs c x b s).bind λu_ s=>.ok .next s:=rfl
theorem MP(es:af aI)(p:Pos):vy c (.List es p) s=(pC (pk c es) s).bind λvs s=>if vs.length<=qf then .ok (.own vs) s else .stuck:=rfl
theorem ID{e:aI}(h:∀es lp,e≠.List es lp):vy c e s=(oO c e s).bind λv s=>.ok (.val v) s:=by
 induction e using aQ with
 |List es lp=>exact absurd rfl (h es lp)
 |_=>rfl
theorem MQ(e:aI):rB c [e] s=(vy c e s).bind λb s=>.ok [b] s:=rfl
theorem Ql(e e':aI)(r:af aI):rB c (e::e'::r) s=(oO c e s).bind λv s=>(rB c (e'::r) s).bind λbs s=>.ok (.val v::bs) s:=rfl
theorem Qm(x:Str)(xs:af Str)(b:pq)(bs:af pq):pY c (x::xs) (b::bs) s=(qs c x b s).bind λu_ s=>pY c xs bs s:=rfl
end
section
variable{T:pg}{D D' D₁:oN}{φ ph:af ay}{c:MC}{env:Env}{A:aX}{st tm:St}{s s':ah}{E:ag->ah->Prop}
noncomputable abbrev wL(T:pg)(c:MC)(env:Env)(A:aX)(x:cW):Prop:=ui T c env A (exec x env) (λs=>vz c x s)
theorem Link.congr{ρ:af (Str×pq)}(L:Link T D φ c env st)(h:∀x,ρ.lookup x=st.ρ.lookup x):Link T D φ c env ⟨ρ,st.σ⟩ :=
 ⟨L.locals,λx b e n=>L.vars x b (rl (h x) e) n,L.p6,L.free,L.cells⟩
theorem BA(H:∀e,pT T c env A e){e:aI}{p:Pos}:wL T c env A (.Return (some e) p):=λD φ st s Q E P k=>by
 dsimp only at k;refine nf (H e _ _ _ _ _ _ P (KX.o3 k P.uniq λv o mv C M y e1 g1 z k1=>?_));exact k1.ok (b:=gN mv) ((P.good g1).here.x (P.good g1).uniq) z
theorem BB{p:Pos}:wL T c env A (.Return none p):=λD φ st s Q E P k=>by
 dsimp only at k;exact wpAny_Return_none (k.ok (b:=gN .none) (P.here.x P.uniq) .none)
theorem WV:ui T c env A (execs [] env) (o7 c []):=λD φ st s Q E P k=>by
 exact fC (k.ok (b:=dq) (P.here.x P.uniq) trivial)
theorem TY{x:cW}{r:af cW}(hx:wL T c env A x)(hr:ui T c env A (execs r env) (o7 c r)):ui T c env A (execs (x::r) env) (o7 c (x::r)):=λD φ st s Q E P k=>by
 refine nH (hx _ _ _ _ _ _ P (KX.bind k λf z y M O H e1 g1 o k1=>?_));have P1:=P.zR g1;refine(let C:Prop:=_;(?_:C))
 induction f using Fl.casesOn with
 |next =>
  cases y with
  |next=>exact hr _ _ _ _ _ _ P1 k1
  |_=>exact o.elim
 |ret v =>
  cases y with
  |ret mv=>exact k1.ok (b:=gN mv) ⟨.refl _,ao _,P1.pO,P1.link,P1.gens,P1.os,P1.uniq⟩ o
  |_=>exact o.elim
theorem ZU(y:∀e,sH T c env A e){t:aI}{b o:af cW}{p:Pos}(hb:ui T c env A (execs b env) (o7 c b))(ho:ui T c env A (execs o env) (o7 c o)):wL T c env A (.If t b o p):=λD φ st s Q E P k=>by
 dsimp only at k;refine wpAny_If (y t _ _ _ _ _ _ P (KX.o3 k P.uniq λv z mv M O C e1 g1 H k1=>?_));subst H
 induction mv using aJ with
 |true=>exact hb _ _ _ _ _ _ (P.good g1) k1
 |false=>exact ho _ _ _ _ _ _ (P.good g1) k1
theorem Ao(F:qi T c env A):interactive env=false:=by
 unfold interactive;refine rg (F.ok.kind) ?_;rfl
theorem TZ(F:qi T c env A)(H:∀e,pT T c env A e){e:aI}{p:Pos}:wL T c env A (.Expr e p):=λD φ st s Q E P k=>by
 dsimp only at k;simp only[TX]at k;split at k
 ·rename_i hc;have hs:lg e none p.line env=pure false:=by induction e using aQ<;>first|rfl|cases hc
  refine rg (exec_Expr env e p (Ao F) hs) ?_;refine ae (bh (ae (H e _ _ _ _ _ _ P (KX.o3 k P.uniq λv o mv z M y e1 g1 O k1=>?_))));exact wpAny_dropValue (k1.ok (b:=dq) ((P.good g1).here.x (P.good g1).uniq) trivial)
 ·refine(let C:Prop:=_;(?_:C))
  exact k.oH.elim
theorem KX.store(P:pI T D φ c env A st s){D':oN}{h':bP}{tk:Tok}{x:Str}{b:pq}(a:D.Le D')(i:D'.In T h')(l:Link T D' φ c env {st with ρ:=oZ st.ρ x b})(u:D'.zQ) :
  rJ T D φ D' φ c env {st with ρ:=oZ st.ρ x b} {s with heap:=h',toks:=tk}:=⟨a,ao _,i,l,P.gens,P.os,u⟩
theorem vG (F:qi T c env A) (P:pI T D φ c env A st s) {x:Str} {mv:ag} {v:V} {Q:cV->ah->Prop} (r:oR T D φ mv v) (hl:pQ c x=true)
  (h:∀D' s',Good T D φ D' φ c env {st with ρ:=oZ st.ρ x (.val v)} s'->(∀a o,(∀m,D a≠some (.ns m))->(∀v,D a≠some (.cell v))->s.heap.get? a=some o->s'.heap.get? a=some o)->(∀a,D a=none->D' a=none)->Q () s'):wpAny (model T.prog T.w) A (storeName env x mv) Q E s :=
 yv F P (D₁:=D.drop x) (b:=.val v) hl (λa sp e hn=>oN.zq e hn) (oN.C6 P.pO x) (D.xq x) (.val (r.mono (D.xq x) (ao _))) λD' h' tk a b d e f n =>
  h D' _ ⟨a,ao _,d,e,P.gens,P.os,(D.Ca x).trans b⟩ f λy q=>n y (by unfold oN.drop;rw[q];rfl)
theorem wM (F:qi T c env A) (P:pI T D φ c env A st s) {x:Str} {a:ay} {mvs:af ag} {l:af V} {Q:cV->ah->Prop} (hp:s.heap.PlainList a mvs.toArray) (hn:D a=none) (hz:l.length<=qf) (r:oK T D φ mvs l) (hl:pQ c x=true)
  (h:∀D' s',rJ T D φ D' φ c env {st with ρ:=oZ st.ρ x (.own l)} s'->Q () s'):wpAny (model T.prog T.w) A (storeName env x (.ref a)) Q E s:=by
 have WN:D.drop x a=none:=by unfold oN.drop;refine rg (hn) ?_;rfl
 have yc:D.Le ((D.drop x).put a (.own x mvs)):=(D.xq x).trans (oN.Le.put λsp e=>by rw[WN]at e;cases e)
 have hu:((D.drop x).put a (.own x mvs)).zQ:=λb o y vs z e e'=>by
  by_cases h1:b=a
  ·by_cases h2:o=a
   ·simp only[h1,h2]
   ·subst h1;rw[oN.oV]at e;cases e;rw[oN.pj _ _ h2]at e';exact absurd rfl ((oN.tJ e').2 _)
  ·by_cases h2:o=a
   ·subst h2;rw[oN.oV]at e';cases e';rw[oN.pj _ _ h1]at e;exact absurd rfl ((oN.tJ e).2 _)
   ·rw[oN.pj _ _ h1]at e;rw[oN.pj _ _ h2]at e';refine(let C:Prop:=_;(?_:C))
    exact P.uniq b o y vs z (oN.tJ e).1 (oN.tJ e').1
 refine yv F P (D₁:=(D.drop x).put a (.own x mvs)) (b:=.own l) hl (λb sp e sx=>?_) ((oN.C6 P.pO x).put hp) yc (.own (oN.oV ..) ((r.length)▸hz) (r.mono yc (ao _))) λD' h' tk a1 b1 H e1 f1 M=>?_
 ·refine rg (oN.pj _ _ (by rintro rfl;rw[hn]at e;cases e)) ?_
  exact oN.zq e sx
 ·exact h D' _ ⟨a1,ao _,H,e1,P.gens,P.os,b1.uniq hu⟩
theorem Di(F:qi T c env A)(H:∀e,pT T c env A e)(S:∀M env',qi T M env' A->M.call=c.call->∀e,pT T M env' A e/\sH T M env' A e/\SimG T M env' A (assign e env') (λv s=>o4 M e v s)){x:Str}{p:Pos}{e:aI}{q:Pos}:wL T c env A (.Assign [.Name x p] e q):=λD φ st s Q E P k=>by
 dsimp only at k;simp only[Sr,Qk]at k;by_cases Cd:∃es lp,e=.List es lp
 ·refine uK (Cd) λes lp Zd=>?_;subst Zd;simp only[MP,R.bind_assoc]at k;refine(let TM:_->ah->Prop:=_;let WW:ag->ah->Prop:=_;(?_:wpAny _ _ _ TM WW _))
  refine ng (hs:=rfl) (List_ (rZ (rn (λy u_=>H y) lp) P (KX.o3 k P.uniq λvs CU mvs s1 D1 Y e1 g1 r1 k1=>?_)));refine(let C:Prop:=_;(?_:C))
  refine(let WX:_->ah->Prop:=_;let Tx:ag->ah->Prop:=_;(?_:wpAny _ _ _ WX Tx _))
  split at k1
  ·rename_i hz;refine(let C:Prop:=_;(?_:C))
   have P1:=P.good g1;simp only[R.sT]at k1;unfold qs at k1;split at k1
   ·rename_i hl;refine aV ?_ (by rw[<-r1.length]at hz;show mvs.toArray.size<=dH;rw[bo];exact qa hz)
    have g2:Good T D1 Y D1 Y c env CU {s1 with heap:=s1.heap.push {cls:=.type "list", data:=.seq mvs.toArray}}:=P1.grown (tk:=s1.toks) λu_ u_ e=>aq _ e
    have P2:=P1.good g2;refine wM F P2 ⟨0,aF _ rfl⟩ P1.pO.fresh hz r1 hl λD' s' g=>?_;exact k1.ok (b:=dq) ((g2.x P1.uniq).trans g) trivial
   ·refine(let C:Prop:=_;(?_:C))
    exact k1.oH.elim
  ·exact k1.oH.elim
 ·have hB:∀s,vy c e s=(oO c e s).bind λv s=>.ok (.val v) s:=λs=>ID c s λes lp q=>Cd (zD es lp q);simp only[hB,R.bind_assoc]at k
  have plain:lg e (some (.Name x p)) q.line env=pure false->wpAny (model T.prog T.w) A (exec (.Assign [.Name x p] e q) env) Q E s:=λhs=>by
   refine(let C:Prop:=_;(?_:C))
   refine ng (hs:=hs) (H e _ _ _ _ _ _ P (KX.o3 k P.uniq λv CU mv s1 D1 Y e1 g1 r1 k1=>?_));simp only[R.sT]at k1;have P1:=P.good g1;unfold qs at k1;refine(let C:Prop:=_;(?_:C))
   split at k1
   ·rename_i hl;refine vG F P1 r1 hl λD' s' g u_ u_=>?_;exact k1.ok (b:=dq) (g.x P1.uniq) trivial
   ·exact k1.oH.elim
  by_cases O:∃z gens scope U,e=.ListComp z gens scope U
  ·refine V1 (O) λz gens scope U ZV=>?_;subst ZV;by_cases T1:lg (.ListComp z gens scope U) (some (.Name x p)) q.line env=pure true
   ·refine rg (exec_Assign_Name_used _ _ _ _ T1) ?_;refine ae (bh (ae ?_))
    have k0:K T D φ c env (λD' ph (b:ag×ay×(Str->au ag)) v=>oR T D' ph b.1 v/\D' b.2.1=none) (oO c (.ListComp z gens scope U) st)
      (λb s'=>s'.heap.Ns b.2.1 b.2.2->fU (model T.prog T.w) A E (some (assign (.Name x p) env)) (λu_ s'=>Q .next s') b.1 b.2.1 (.ok .next) s') E:=by
     refine KX.o3 k P.uniq λv CU b s1 D1 Y e1 g1 r1 k1 hn=>?_;obtain⟨mv,C,m⟩:=b;have P1:=P.good g1;simp only[R.sT]at k1;unfold qs at k1;refine(let MR:_->ah->Prop:=_;let T2:ag->ah->Prop:=_;(?_:wpAny _ _ _ MR T2 _))
     split at k1
     ·rename_i hl;show wpAny (model T.prog T.w) A (do gQ p;bindName env x mv) _ E s1
      refine ae (bh (eD (vG F P1 r1.1 hl λD' s' g hk Za=>?_)));refine o5 m (hn.at' λo e=>hk C o (λm e=>?_) (λv e=>?_) e) (λh' hs=>?_)
      ·have:=r1.2;simp only at this;rw[this]at e;exact(nS e).elim
      ·have:=r1.2;simp only at this;rw[this]at e;exact(nS e).elim
      ·have P2:=P1.good g;have g3:=P2.turnAt (tk:=s'.toks) (I:=C) (h':=h') (Za C r1.2) λa o ha ho=>(hs.2 a ha).trans ho;exact k1.ok (b:=dq) ((g.trans g3).x P1.uniq) trivial
     ·exact k1.oH.elim
    refine(let MS:_->ah->Prop:=_;let T3:ag->ah->Prop:=_;(?_:wpAny _ _ _ MS T3 _))
    refine ae (cE (E2 (use:=some (assign (.Name x p) env)) (Q:=λu_ s'=>Q .next s') F (λM env' F' hc=>⟨(S M env' F' hc z).1,λg hg ha=>⟨ha,(S M env' F' hc g.target).2.2,λy u_=>(S M env' F' hc y).2.1,(S M env' F' hc g.iter).1⟩⟩) (λg gs u_=>H g.iter) P k0) (λv s' h'=>?_) λu_ u_ h'=>h');exact aj (aj h')
   ·refine plain ?_;have:∃b,lg (.ListComp z gens scope U) (some (.Name x p)) q.line env=pure b:=⟨_,rfl⟩;refine(let C:Prop:=_;(?_:C))
    obtain⟨b,hb⟩:=this
    induction b using aJ with
    |false=>exact hb
    |true=>exact absurd hb T1
  ·refine plain ?_
   induction e using aQ with
   |ListComp z gens scope U=>exact absurd ⟨_,_,_,_,rfl⟩ O
   |SetComp z gens scope U =>
    refine(let C:Prop:=_;(?_:C))
    have Pb:oO c (.SetComp z gens scope U) st=.stuck:=rfl;exact k.oH.elim
   |DictComp kk v gens scope U =>
    have Pb:oO c (.DictComp kk v gens scope U) st=.stuck:=rfl;exact k.oH.elim
   |_=>rfl
end
noncomputable def Aq(ρ:af (Str×pq))(l:af (Str×pq)):af (Str×pq):=l.foldl (λρ p=>oZ ρ p.1 p.2) ρ
theorem tc:∀(l:af (Str×pq)) (ρ:af (Str×pq)) (x:Str),(l.map (·.1)).Nodup->(Aq ρ l).lookup x=(l.lookup x).or (ρ.lookup x)
 |[],ρ,x,_=>rfl
 |(y,b)::r,ρ,x,h=>by
  rw[a6,cN]at h;show(Aq (oZ ρ y b) r).lookup x=_;rw[tc r _ x h.2,rK,aU];by_cases hx:x=y
  ·subst hx
   have:r.lookup x=none:=by
    cases e:r.lookup x with
    |none=>rfl
    |some o=>exact absurd (List.mem_map.mpr ⟨_,mem_of_lookup e,rfl⟩) h.1
   rw[this];simp
  ·have hb:(x==y)=false:=beq_eq_false_iff_ne.mpr hx;simp only[hb,aT hx]
theorem vH{l:af (Str×pq)}(x:Str)(h:(l.map (·.1)).Nodup):l.reverse.lookup x=l.lookup x:=by
 have hr:(l.reverse.map (·.1)).Nodup:=by rw[ct];exact List.pairwise_reverse.mpr (gD b3 h)
 cases e:l.lookup x with
 |some b=>exact sI hr (List.mem_reverse.mpr (mem_of_lookup e))
 |none =>
  cases e':l.reverse.lookup x with
  |none=>rfl
  |some o=>rw[sI h (List.mem_reverse.mp (mem_of_lookup e'))]at e;exact(nN e).elim
theorem vI{c:MC}:∀{xs:af Str} {bs:af pq} {st:St},pY c xs bs st≠.stuck->xs.length=bs.length/\(∀x∈xs,pQ c x=true)/\pY c xs bs st=.ok () {st with ρ:=Aq st.ρ (xs.zip bs)}:=by
 intro xs
 induction xs with
 |nil=>intro bs st h;cases bs with
  |nil=>exact⟨rfl,by simp,rfl⟩
  |cons=>exact absurd rfl h
 |cons x xs ih=>intro bs st h;cases bs with
  |nil=>exact absurd rfl h
  |cons b bs =>
   rw[Qm]at h ⊢;unfold qs at h ⊢;by_cases hl:pQ c x=true
   ·rw[aO hl]at h ⊢;rw[R.sT]at h ⊢;obtain⟨h1,h2,h3⟩:=ih h;refine⟨by simp[h1],λy hy=>?_,?_⟩
    ·refine(let C:Prop:=_;(?_:C))
     rcases List.mem_cons.mp hy with rfl|hy
     ·exact hl
     ·exact h2 y hy
    ·simp only[h3];rfl
   ·rw[aT hl]at h;exact absurd rfl h
section
variable{T:pg}{D D' D₁:oN}{φ ph:af ay}{c:MC}{env:Env}{A:aX}{st tm:St}{s s':ah}{E:ag->ah->Prop}
noncomputable def Binds(T:pg)(env:Env)(A:aX)(f:ag->Sem cV)(x:Str):Prop:=∀(v:ag)(s:ah)(Q:cV->ah->Prop)(E:ag->ah->Prop),wpAny (model T.prog T.w) A (bindName env x v) Q E s->wpAny (model T.prog T.w) A (f v) Q E s
theorem xu(F:qi T c env A):∀(xs:af Str) {fs:af (ag->Sem cV)} {D:oN} {st:St} {s:ah} {mvs:af ag} {vs:af V} {rest:af (ag->Sem cV)} {rmvs:af ag} {Q:cV->ah->Prop},Each (Binds T env A) fs xs->pI T D φ c env A st s->oK T D φ mvs vs->xs.length=vs.length ->
  (∀x∈xs,pQ c x=true)->(∀D' s',Good T D φ D' φ c env {st with ρ:=Aq st.ρ (xs.zip (vs.map .val))} s'->(∀a,D a=none->(∀o,s.heap.get? a=some o->s'.heap.get? a=some o)/\D' a=none)->wpAny (model T.prog T.w) A (assignInOrder rest rmvs) Q E s') ->
  wpAny (model T.prog T.w) A (assignInOrder (fs++rest) (mvs++rmvs)) Q E s:=by
 intro xs
 induction xs with
 |nil =>
  intro fs D st s mvs vs rest rmvs Q B P r hl hloc h;refine(let C:Prop:=_;(?_:C))
  have:vs=[]:=iS hl.symm;subst this;cases r;cases B;exact h D s P.here λa e=>⟨λo q=>q,e⟩
 |cons x xs ih =>
  intro fs D st s mvs vs rest rmvs Q B P r hl hloc h;refine(let C:Prop:=_;(?_:C))
  cases r with
  |nil=>exact(iQ _ hl).elim
  |@cons mv mvs v vs a b =>
   cases B with
   |@cons f _ fs _ hb B =>
    show wpAny (model T.prog T.w) A (do fJ (mvs++rmvs) (f mv);assignInOrder (fs++rest) (mvs++rmvs)) Q E s
    refine ae (a7 (hb _ _ _ _ (eD (vG F P a (hloc x az) λD' s' g hk hn=>?_))));refine ih B (P.good g) (b.mono g.le g.pre) (by simpa using hl) (λy hy=>hloc y (aA _ hy)) λM O g2 z=>?_
    refine h M O (g.trans g2) λH e=>⟨λo q=>(z H (hn H e)).1 o (hk H o (λm e'=>by rw[e]at e';cases e') (λv e'=>by rw[e]at e';cases e') q),(z H (hn H e)).2⟩
theorem MT{z:af (Sem ag)}{fs:af (St->R V)}(S:Each (SimT T c env A) z fs){o:Sem ag}:∀{D φ st s} {Q:af ag->ah->Prop} {E:ag->ah->Prop},pI T D φ c env A st s ->
  K T D φ c env (λD φ mvs vs=>oK T D φ mvs vs) (pC fs st) (λmvs C=>wpAny (model T.prog T.w) A o (λv y=>Q (mvs++[v]) y) E C) E->wpAny (model T.prog T.w) A (spliced ((z++[o]).map λt=>(false,t))) Q E s:=by
 induction S with
 |nil =>
  intro D φ st s Q E P k;exact cZ (cE (k.ok P.here .nil) (λv y h2=>er h2) λu_ u_ x=>x)
 |@cons t f z fs h _ ih =>
  intro D φ st s Q E P k;refine cZ (h _ _ _ _ _ _ P (K.bind k λv H mv C D1 M e g r k1=>?_));refine ih (Q:=λvs y=>Q (mv::vs) y) (P.good g) (K.bind k1 λvs O mvs y D2 U e2 g2 Y k2=>?_);exact k2.ok ((P.good g).good g2).here (.cons (oR.mono r g2.le g2.pre) Y)
theorem E5{es:af aI}(h:∀lp o y,es≠y++[gb o lp]):∀(s:St),rB c es s=(pC (pk c es) s).bind λvs s=>.ok (vs.map .val) s:=by
 induction es with
 |nil=>intro s;rfl
 |cons e r ih =>
  intro s
  induction r using bN with
  |nil =>
   simp only[MQ,rY,wD,Lv,CK];have z:vy c e s=(oO c e s).bind λv s=>.ok (.val v) s:=ID c s λes lp q=>h lp es [] (aD (λx=>[x]) q);refine rg (z ..) ?_;refine rg (R.bind_assoc ..) ?_;refine rg (R.bind_assoc ..) ?_
   congr 1
  |cons e2 C =>
   rw[Ql,rY,CK,R.bind_assoc]
   congr 1
   funext v s1
   simp only[ih (λlp o y q=>h lp o (e::y) (aD _ (q))),R.bind_assoc,R.bind_assoc]
   congr 1
theorem E6{z o:af aI}{lp:Pos}:∀(s:St),rB c (z++[gb o lp]) s=(pC (pk c z) s).bind λvs s=>(pC (pk c o) s).bind λy s=>if y.length<=qf then .ok (vs.map .val++[.own y]) s else .stuck:=by
 induction z with
 |nil =>
  intro s;simp only[wD,Lv,R.sT];show rB c [gb o lp] s=_;simp only[MQ,MP,R.bind_assoc]
  congr 1
  funext y s1
  split<;>rfl
 |cons e r ih =>
  intro s;have hb:rB c (e::r++[gb o lp]) s=(oO c e s).bind λv s=>(rB c (r++[gb o lp]) s).bind λbs s=>.ok (.val v::bs) s:=by cases r<;>rfl
  simp only[hb,rY,CK,R.bind_assoc]
  congr 1
  funext v s1
  simp only[ih,R.bind_assoc,R.bind_assoc]
  congr 1
  funext vs s2
  simp only[R.bind_assoc,R.sT]
  congr 1
  funext y s3
  split<;>rfl
set_option tactic.hygienic true in
theorem uW:∀{o:af aI} {xs:af Str},namesOf o=some xs->o.length=xs.length/\∃ps:af Pos,o=(xs.zip ps).map (λp=>Expr.Name p.1 p.2)/\ps.length=xs.length
 |[],xs,h=>by cases h;exact⟨rfl,[],rfl,rfl⟩
 |e::r,xs,h=>by
  refine uP h λx p ys y e1 e2=>?_;subst y e2;obtain⟨h1,ps,h2,h3⟩:=uW e1;exact⟨by simp[h1],p::ps,by rw[de,a6,<-h2],by simp[h3]⟩
set_option tactic.hygienic true in
theorem xv(f:aI->au Str)(hf:∀id pos,f (.Name id pos)=some id\/f (.Name id pos)=none):∀{o:af aI} {xs:af Str},namesOf o=some xs->(o.filterMap f).length=o.length->o.filterMap f=xs
 |[],xs,h,_=>by cases h;rfl
 |e::r,xs,h,hl=>by
  refine uP h λx p ys y e1 e2=>?_;subst y e2;rcases hf x p with q|q
  ·rw[jR q]at hl ⊢;rw[xv f hf e1 (by simpa using hl)]
  ·rw[jS q]at hl;have:=jQ f r;simp at hl;lia
theorem Dj{p:Prop}[fR p]{o:Type}{a b x y:o}(h:p->a=x)(h':¬p->b=x\/b=y):(if p then a else b)=x\/(if p then a else b)=y:=by
 by_cases q:p
 ·exact .inl ((aO q).trans (h q))
 ·exact rg (aT q) (h' q)
theorem Hk{p:Prop}[fR p]{o:Type}{a b x:o}(h:p->a=x)(h':¬p->b=x):(if p then a else b)=x:=by
 by_cases q:p
 ·exact(aO q).trans (h q)
 ·exact(aT q).trans (h' q)
theorem BC{o vs:af aI}{k1 k2:Nat}{p1 p2:Pos}{xs:af Str}(hn:namesOf o=some xs)(hl:xs.length=vs.length)(hf:se xs vs=true) :
  gv [.Tuple o k1 p1] (.Tuple vs k2 p2) env=pure none\/gv [.Tuple o k1 p1] (.Tuple vs k2 p2) env=pure (some xs):=by
 unfold se at hf;simp only[aw,aw,aw]at hf;refine(let C:Prop:=_;(?_:C))
 obtain⟨⟨⟨h1,h2⟩,h3⟩,h4⟩:=hf;have P9:vs.all (constantsAlone 8)=false:=by simpa using h2
 refine Dj (λu_=>rfl) λu_=>?_;refine Dj (λu_=>rfl) λu_=>?_;refine Dj (λu_=>rfl) λpd=>?_;refine Dj (λu_=>rfl) λu_=>?_;refine rg (aT (by rw[P9];decide)) ?_
 refine .inr (aD _ (aD _ (xv _ (λid pos=>?_) hn ?_)))
 ·exact(Decidable.em _).elim (λh=>.inl (aO h)) λh=>.inr (aT h)
 ·rw[bZ,gR]at pd;exact jG λq=>pd.1 (bne_iff_ne.mpr q)
theorem Dk{o:af aI}{k1:Nat}{p1:Pos}{e:aI}(h:rH (.Tuple o k1 p1) e=none):gv [.Tuple o k1 p1] e env=pure none:=by
 induction e using aQ with
 |Tuple vs k2 p2 =>
  replace h:((namesOf o).bind λxs=>if xs.length=vs.length then some (xs,vs)else none)=none:=h
  refine Hk (λu_=>rfl) λh1=>Hk (λu_=>rfl) λu_=>Hk (λu_=>rfl) λpd=>?_
  ···exfalso
     rw[bZ,gR]at pd;rw[bZ,bZ,gR,gR]at h1;have H:vs.length=o.length:=by simpa using h1.1.2
     have yl:∀(f:aI->au Str) (hf:∀e,(∀id pos,e≠.Name id pos)->f e=none) (o:af aI),(o.filterMap f).length=o.length->∃xs,namesOf o=some xs/\xs.length=o.length:=λf hf o=>by
      induction o with
      |nil=>intro _;exact o5 ([]) rfl rfl
      |cons t r ih =>
       intro hl;have yc:=jQ f r;refine(let C:Prop:=_;(?_:C))
       cases q:f t with
       |none=>replace hl:=(jS q)▸hl;exact(Nat.not_succ_le_self _ (aB (ak hl.symm) yc)).elim
       |some y =>
        replace hl:=(jR q)▸hl;refine o8 (ih (by simpa using hl)) λxs e1 e2=>?_
        by_cases hn:∃id pos,t=.Name id pos
        ·refine uK (hn) λid pos M=>?_;subst M;exact o5 (id::xs) (aD (cO _) e1) (aD Nat.succ e2)
        ·rw[hf _ λid pos q=>hn (zD id pos q)]at q;exact(nS q).elim
     have O:=jG λq=>pd.1 (bne_iff_ne.mpr q);have z:=λhf=>yl _ hf o O;refine o8 (z (λe U=>by induction e using aQ<;>first|rfl|exact absurd rfl (U _ _))) λxs e1 e2=>?_
     replace h:=(e1)▸h;replace h:(if xs.length=vs.length then some (xs,vs)else none)=none:=h
     rw[aO (rg (e2 ..) (rg (H ..) rfl))]at h;exact(nN h).elim
 |_=>rfl
theorem yW(ρ l l':af (Str×pq)):Aq ρ (l++l')=Aq (Aq ρ l) l':=iz ..
theorem Ar(xs:af Str):Each (Binds T env A) (xs.map λn=>bindName env n) xs:=by
 induction xs with
 |nil=>exact .nil
 |cons x r ih=>exact .cons (λv s Q E h=>h) ih
set_option tactic.hygienic true in
theorem Kh{o:af aI}{xs:af Str}(h:namesOf o=some xs):Each (Binds T env A) ((cY o env).map (·.2)) xs:=by
 induction o generalizing xs with
 |nil=>cases h;exact .nil
 |cons e r ih =>
  refine uP h λx p ys y e1 e2=>?_;subst y e2;exact .cons (λv s Q E h=>ae (bh h)) (ih e1)
theorem oK.reverse{mvs:af ag}{vs:af V}(r:oK T D φ mvs vs):oK T D φ mvs.reverse vs.reverse:=by
 induction vs generalizing mvs with
 |nil=>cases r;exact .nil
 |cons v vs ih=>cases r with|cons a b=>rw[fL,fL];exact(ih b).append (.cons a .nil)
theorem xw{o y:Type}{l:af o}{l':af y}(h:l.length=l'.length):(l.zip l').reverse=l.reverse.zip l'.reverse:=List.reverse_zipWith h
theorem As (F:qi T c env A) (P:pI T D φ c env A st s) {xs:af Str} {bs:af pq} {mvs:af ag} {Q:cV->ah->Prop} (pd:xs.length=bs.length) (Bh:xs.Nodup) (hloc:∀x∈xs,pQ c x=true)
  (hb:(∃vs,bs=vs.map .val/\oK T D φ mvs vs)\/∃vs l ms a Y,bs=vs.map .val++[.own l]/\mvs=ms++[.ref a]/\oK T D φ ms vs/\oK T D φ Y l/\l.length<=qf/\D a=none/\s.heap.PlainList a Y.toArray)
  (h:∀D' s' MU,(∀x,MU.lookup x=(Aq st.ρ (xs.zip bs)).lookup x)->rJ T D φ D' φ c env {st with ρ:=MU} s'->Q () s') :
  (∀fs,Each (Binds T env A) fs xs->wpAny (model T.prog T.w) A (assignInOrder fs mvs) Q E s)/\wpAny (model T.prog T.w) A (assignInOrder (xs.reverse.map λn=>bindName env n) mvs.reverse) Q E s:=by
 have zP:((xs.zip bs).map (·.1)).Nodup:=z9 Bh;refine(let C:Prop:=_;(?_:C))
 rcases hb with⟨vs,rfl,r⟩|⟨vs,l,ms,a,Y,rfl,rfl,r,rl,hz,hn,hp⟩
 ·simp only[aK]at pd;refine⟨λfs B=>?_,?_⟩
  ·refine(let C:Prop:=_;(?_:C))
   have:=xu (E:=E) (rest:=[]) (rmvs:=[]) (Q:=Q) F xs B P r pd hloc λD' s' g u_=>aj (h D' s' _ (λx=>rfl) (g.x P.uniq))
   rwa [aY,aY]at this
  ·refine(let C:Prop:=_;(?_:C))
   have H:oK T D φ mvs.reverse vs.reverse:=r.reverse;refine(let C:Prop:=_;(?_:C))
   have:=xu (E:=E) (rest:=[]) (rmvs:=[]) (Q:=Q) F xs.reverse (Ar xs.reverse) P H (by simp[pd]) (λx hx=>hloc x (List.mem_reverse.mp hx)) λD' s' g u_ =>
    aj (h D' s' _ (λx=>by
     have e:xs.reverse.zip (vs.reverse.map pq.val)=(xs.zip (vs.map pq.val)).reverse:=by
      refine rg (ct ..) ?_;exact(xw (by simp[pd])).symm
     have Qc:(((xs.zip (vs.map pq.val)).reverse).map (·.1)).Nodup:=by rw[ct];exact List.pairwise_reverse.mpr (gD b3 zP)
     rw[e,tc _ _ _ Qc,tc _ _ _ zP,vH x zP]) (g.x P.uniq))
   rwa [aY,aY]at this
 ·have o:xs.length=vs.length+1:=by simpa using pd
  obtain⟨ys,z,rfl⟩:∃ys z,xs=ys++[z]:=(zD xs.dropLast (xs.getLast (by rintro rfl;simp at o)) ((List.dropLast_concat_getLast _).symm))
  have M:ys.length=vs.length:=by simpa using o
  have O:(ys++[z]).zip (vs.map pq.val++[pq.own l])=ys.zip (vs.map pq.val)++[(z,pq.own l)]:=by
   exact rg (List.zip_append (by simp[M])) rfl
  have hlz:pQ c z=true:=hloc z (by simp)
  refine⟨λfs B=>?_,?_⟩
  ·obtain⟨U,f,rfl,B1,B2⟩:∃U f,fs=U++[f]/\Each (Binds T env A) U ys/\Binds T env A f z:=by
    clear h hloc Bh zP pd o M O;refine(let C:Prop:=_;(?_:C))
    induction ys generalizing fs with
    |nil=>cases B with|cons b B=>cases B;exact tD ([]) _ rfl .nil b
    |cons y ys ih =>
     cases B with
     |cons b B =>
      refine(let C:Prop:=_;(?_:C))
      refine sF (ih _ B) λU f e B1 B2=>?_;exact tD (_::U) f (aD _ (e)) (.cons b B1) B2
   refine xu F ys B1 P r M (λx hx=>hloc x (kJ _ hx)) λD' s' g hk=>?_;refine(let C:Prop:=_;(?_:C))
   refine p8 (hp) λn hpn=>?_;have P1:=P.good g;refine ae (a7 (B2 _ _ _ _ (eD (wM F P1 ⟨n,(hk a hn).1 _ hpn⟩ (hk a hn).2 hz (rl.mono g.le g.pre) hlz λD2 s2 g2=>?_))));refine aj (h D2 s2 _ (λx=>?_) ((g.x P.uniq).trans g2));simp only[O,yW];rfl
  ·simp only[kT,kT];show wpAny (model T.prog T.w) A (do fJ ms.reverse (bindName env z (.ref a));assignInOrder (ys.reverse.map λn=>bindName env n) ms.reverse) Q E s
   refine ae (a7 (eD (wM F P hp hn hz rl hlz λD2 s2 g2=>?_)));have P2:=P.zR g2;have H:oK T D2 φ ms.reverse vs.reverse:=(r.mono g2.le g2.pre).reverse
   have:=xu (E:=E) (rest:=[]) (rmvs:=[]) (Q:=Q) F ys.reverse (Ar ys.reverse) P2 H (by simp[M]) (λx hx=>hloc x (kJ _ (List.mem_reverse.mp hx))) λD' s' g u_ =>
    aj (h D' s' _ (λx=>by
     have ZW:ys.Nodup:=(List.nodup_append.mp Bh).1;have ZX:((ys.zip (vs.map pq.val)).map (·.1)).Nodup:=z9 ZW
     have e:ys.reverse.zip (vs.reverse.map pq.val)=(ys.zip (vs.map pq.val)).reverse:=by
      refine rg (ct ..) ?_;exact(xw (by simp[M])).symm
     have Qc:(((ys.zip (vs.map pq.val)).reverse).map (·.1)).Nodup:=by rw[ct];exact List.pairwise_reverse.mpr (gD b3 ZX)
     simp only[e,tc _ _ _ Qc,vH x ZX,O,yW];show _=(oZ (Aq st.ρ _) z (pq.own l)).lookup x;refine rg (rK ..) ?_;refine rg (rK ..) ?_;refine rg (tc _ _ _ ZX) ?_
     have hzn:(ys.zip (vs.map pq.val)).lookup z=none:=by
      cases q:(ys.zip (vs.map pq.val)).lookup z with
      |none=>rfl
      |some b' =>
       have ZY:=(gB (mem_of_lookup q)).1;have:=(List.nodup_append.mp Bh).2.2 z ZY z (by simp)
       exact(this rfl).elim
     by_cases hx:x=z
     ·subst hx;refine rg (aO rfl) ?_;refine rg (aO rfl) ?_;refine rg (hzn) ?_;rfl
     ·rw[aT hx,aT hx]) (g2.trans (g.x P2.uniq)))
   rwa [aY,aY]at this
end
theorem Dl{o:af aI}{k1:Nat}{p1:Pos}{e:aI}{xs:af Str}{vs:af aI}(h:rH (.Tuple o k1 p1) e=some (xs,vs)):∃k2 p2,e=.Tuple vs k2 p2/\namesOf o=some xs/\xs.length=vs.length :=
 qH h λM h1 h=>qH h λy h2 h=>qH h λys z h=>qA (tM h) λh4 C=>qA (jY (ai C)) λe1 e2 =>
  uK (Em h2) λk2 p2 H=>tD k2 p2 (e2▸H) (e1▸ai h1▸z) (e1▸e2▸h4)
section
variable{T:pg}{D D' D₁:oN}{φ ph:af ay}{c:MC}{env:Env}{A:aX}{st tm:St}{s s':ah}{E:ag->ah->Prop}
theorem wq (F:qi T c env A) (H:∀e,pT T c env A e) (G:∀e,SimG T c env A (assign e env) (λv s=>o4 c e v s)) {t e:aI} {q:Pos} (hs:swapsWithSole [t] e q.line env=pure false) (hw:gv [t] e env=pure none)
  (ht:(cY [t] env).map (·.2)=[assign t env]) {Q:kZ->ah->Prop} (P:pI T D φ c env A st s) (k:KX T D φ c env (sC T) ((oO c e st).bind λv s=>(o4 c t v s).bind λu_ s=>.ok .next s) Q E) :
  wpAny (model T.prog T.w) A (exec (.Assign [t] e q) env) Q E s:=by
 refine ae (bh ?_);refine rg (hs) ?_;refine(let C:Prop:=_;(?_:C))
 refine ae (aj ?_);refine ae (H e _ _ _ _ _ _ P (KX.o3 k P.uniq λv z mv s1 D1 M e1 g1 O k1=>?_));have P1:=P.good g1;refine(hw).symm▸?_;refine(let o:_->ah->Prop:=_;let y:ag->ah->Prop:=_;(?_:wpAny _ _ _ o y _))
 refine ae (aj ?_);refine rg (ht) ?_;refine ae (G t _ _ _ _ _ _ _ _ P1 O (KX.o3 k1 P1.uniq λu U u' s2 D2 Y e2 g2 r2 k2=>?_));exact aj (k2.ok (b:=dq) ((P1.good g2).here.x (P1.good g2).uniq) trivial)
set_option tactic.hygienic true in
theorem BD(F:qi T c env A)(H:∀e,pT T c env A e)(G:∀e,SimG T c env A (assign e env) (λv s=>o4 c e v s)){ts:af aI}{k1:Nat}{p1:Pos}{e:aI}{q:Pos}:wL T c env A (.Assign [.Tuple ts k1 p1] e q):=λD φ st s Q E P k=>by
 dsimp only at k;simp only[Sr]at k;dsimp only[rT]at k;split at k
 ·rename_i xs vs T1;refine sF (Dl T1) λk2 p2 WY Pg pd=>?_;subst WY;clear T1;split at k
  ·rename_i hf;have ZZ:=hf;unfold se at ZZ;rw[aw,aw,aw]at ZZ;obtain⟨⟨⟨h1,h2⟩,h3⟩,h4⟩:=ZZ;have Bh:xs.Nodup:=bR h1;have Z0:=(uW Pg).1
   have stores:∀(a:ay)(mvs:af ag)(bs:af pq)(U:St)(s2:ah)(D2:oN)(M:af ay),pI T D2 M c env A U s2->mq s2.heap a mvs.toArray->bs.length=mvs.length ->
     ((∃vs,bs=vs.map .val/\oK T D2 M mvs vs)\/∃vs l ms b O,bs=vs.map .val++[.own l]/\mvs=ms++[.ref b]/\oK T D2 M ms vs/\oK T D2 M O l/\l.length<=qf/\D2 b=none/\s2.heap.PlainList b O.toArray) ->
     KX T D2 M c env (sC T) ((pY c xs bs U).bind λu_ s=>.ok .next s) Q E->wpAny (model T.prog T.w) A (lI env (.ref a) none ((cY [ic ts k1 p1] env).map (·.2))) Q E s2/\wpAny (model T.prog T.w) A (lI env (.ref a) (some xs) ((cY [ic ts k1 p1] env).map (·.2))) Q E s2:=λa mvs bs U s2 D2 M P2 WZ Yw hb k2=>by
    refine(let C:Prop:=_;(?_:C))
    have sx:pY c xs bs U≠.stuck:=λe=>by rw[e]at k2;exact k2.oH
    refine y8 (vI sx) λn1 n2 n3=>?_;simp only[n3,R.sT]at k2
    have fin:∀(D3:oN)(s3:ah) (MU:af (Str×pq)),(∀x,MU.lookup x=(Aq U.ρ (xs.zip bs)).lookup x)->rJ T D2 M D3 M c env {U with ρ:=MU} s3->Q .next s3:=λD3 s3 MU MD g3=>by
     have l':Link T D3 M c env ⟨Aq U.ρ (xs.zip bs),U.σ⟩:=Link.congr (st:={U with ρ:=MU}) g3.link λx=>(MD x).symm
     exact k2.ok (b:=dq) ⟨g3.le,g3.pre,g3.pO,l',g3.gens,g3.os,g3.uniq⟩ trivial
    have J4:xs.length=mvs.length:=by exact aZ (uJ .x .y .z .x .z .y rfl (ak Yw) (ak n1)) (uJ .x .y .y .z .x .z rfl (ak Yw.symm) (ak n1.symm))
    refine⟨?_,?_⟩
    ·show wpAny (model T.prog T.w) A (do assign (.Tuple ts k1 p1) env (.ref a);pure dq) Q E s2
     have W0:(cY ts env).length=mvs.toArray.size:=by
      refine rg (bo) ?_;refine(J4)▸?_;refine(Z0)▸?_
      have:∀ts:af aI,(cY ts env).length=ts.length:=λts=>by
       refine(let C:Prop:=_;(?_:C))
       induction ts with
       |nil=>rfl
       |cons e r ih=>induction e using aQ<;>(show(cY r env).length+1=r.length+1;rw[ih])
      exact this ts
     have T4:ts.all pG=true:=by
      obtain⟨_,ps,e2,_⟩:=uW Pg;refine rg e2 ?_;refine rg j6 ?_;rw[iJ];intro p _;rfl
     have W3:(cY ts env).findIdx? (·.1)=none:=by
      refine rg (ro T4) ?_;rw[jD];intro x hx;refine o8 (List.mem_map.mp hx) λt u_ Z1=>?_;subst Z1;rfl
     refine ae (mV (items:=mvs.toArray) F.hd WZ W0 W3 λh' hx=>?_);have g3:Good T D2 M D2 M c env U {s2 with heap:=h'}:=P2.grown (tk:=s2.toks) λb o e=>hx b o (a5 (aS e)) e
     have P3:=P2.good g3
     have Qb:(∃vs,bs=vs.map .val/\oK T D2 M mvs vs)\/∃vs l ms b O,bs=vs.map .val++[.own l]/\mvs=ms++[.ref b]/\oK T D2 M ms vs/\oK T D2 M O l/\l.length<=qf/\D2 b=none/\h'.PlainList b O.toArray:=by
      refine(let C:Prop:=_;(?_:C))
      refine(hb).elim (λhb=>?_) (λPN=>?_)
      ·exact .inl hb
      ·obtain⟨vs,l,ms,b,O,x1,x2,x3,x4,x5,x6,x7⟩:=PN;exact .inr ⟨vs,l,ms,b,O,x1,x2,x3,x4,x5,x6,x7.at λo e=>hx b o (a5 (aS e)) e⟩
     exact(As F P3 n1 Bh n2 Qb (Q:=λu_ s'=>wpAny (model T.prog T.w) A (pure dq) Q E s') λD' s' MU MD g=>aj (fin D' s' MU MD ((g3.x P2.uniq).trans g))).1 _ (Kh Pg)
    ·show wpAny (model T.prog T.w) A (do rule "assign.swapped-stores";let items <- unpackItems (.ref a) xs.length none;assignInOrder (xs.reverse.map λn=>bindName env n) items.reverse;pure dq) Q E s2
     refine ae (fb ?_);have hsz:xs.length=mvs.toArray.size:=rg (bo ..) (rg (J4 ..) rfl);refine rg (hsz ..) ?_;refine(let C:Prop:=_;(?_:C))
     refine ae (unpackItems_tuple F.hd WZ λh' hx=>?_);have g3:Good T D2 M D2 M c env U {s2 with heap:=h'}:=P2.grown (tk:=s2.toks) λb o e=>hx b o (a5 (aS e)) e
     have P3:=P2.good g3
     have Qb:(∃vs,bs=vs.map .val/\oK T D2 M mvs vs)\/∃vs l ms b O,bs=vs.map .val++[.own l]/\mvs=ms++[.ref b]/\oK T D2 M ms vs/\oK T D2 M O l/\l.length<=qf/\D2 b=none/\h'.PlainList b O.toArray:=by
      refine(let C:Prop:=_;(?_:C))
      refine(hb).elim (λhb=>?_) (λPN=>?_)
      ·exact .inl hb
      ·refine(let C:Prop:=_;(?_:C))
       obtain⟨vs,l,ms,b,O,x1,x2,x3,x4,x5,x6,x7⟩:=PN;exact .inr ⟨vs,l,ms,b,O,x1,x2,x3,x4,x5,x6,x7.at λo e=>hx b o (a5 (aS e)) e⟩
     refine ae ?_;refine(let C:Prop:=_;(?_:C))
     exact(As F P3 n1 Bh n2 Qb (Q:=λu_ s'=>wpAny (model T.prog T.w) A (pure dq) Q E s') λD' s' MU MD g=>aj (fin D' s' MU MD ((g3.x P2.uniq).trans g))).2
   have tuple:∀(mvs:af ag)(bs:af pq)(CU:St)(s1:ah)(D1:oN)(Y:af ay),pI T D1 Y c env A CU s1->bs.length=mvs.length->mvs.length<=qf ->
     ((∃vs,bs=vs.map .val/\oK T D1 Y mvs vs)\/∃vs l ms b O,bs=vs.map .val++[.own l]/\mvs=ms++[.ref b]/\oK T D1 Y ms vs/\oK T D1 Y O l/\l.length<=qf/\D1 b=none/\s1.heap.PlainList b O.toArray) ->
     KX T D1 Y c env (sC T) ((pY c xs bs CU).bind λu_ s=>.ok .next s) Q E ->
     wpAny (model T.prog T.w) A (newTuple mvs) (λv s2=>wpAny (model T.prog T.w) A (do lI env v (<- gv [ic ts k1 p1] (.Tuple vs k2 p2) env) ((cY [ic ts k1 p1] env).map (·.2))) Q E s2) E s1:=λmvs bs CU s1 D1 Y P1 Yw hz hb kk=>by
    refine aV ?_ (by show mvs.toArray.size<=dH;rw[bo];exact qa hz)
    have g2:Good T D1 Y D1 Y c env CU {s1 with heap:=s1.heap.push {cls:=.type "tuple", data:=.seq mvs.toArray}}:=P1.grown (tk:=s1.toks) λu_ u_ e=>aq _ e
    have P2:=P1.good g2
    have Qb:(∃vs,bs=vs.map .val/\oK T D1 Y mvs vs)\/∃vs l ms b O,bs=vs.map .val++[.own l]/\mvs=ms++[.ref b]/\oK T D1 Y ms vs/\oK T D1 Y O l/\l.length<=qf/\D1 b=none/\(s1.heap.push {cls:=.type "tuple", data:=.seq mvs.toArray}).PlainList b O.toArray:=by
     refine(let C:Prop:=_;(?_:C))
     refine(hb).elim (λhb=>?_) (λPN=>?_)
     ·exact .inl hb
     ·obtain⟨vs,l,ms,b,O,x1,x2,x3,x4,x5,x6,x7⟩:=PN;exact .inr ⟨vs,l,ms,b,O,x1,x2,x3,x4,x5,x6,x7.at λo e=>aq _ e⟩
    have st:=stores s1.heap.objs.size mvs bs CU _ D1 Y P2 ⟨_,aF _ rfl,rfl,0,rfl⟩ Yw Qb (KX.sub kk (g2.x P1.uniq));refine(let ME:_->ah->Prop:=_;let MF:ag->ah->Prop:=_;(?_:wpAny _ _ _ ME MF _))
    rcases BC (env:=env) (k1:=k1) (k2:=k2) (p1:=p1) (p2:=p2) Pg pd hf with w|w
    ·exact rg (w ..) (ae (aj st.1))
    ·exact rg (w ..) (ae (aj st.2))
   refine ae (bh ?_);refine(let T5:_->ah->Prop:=_;let T6:ag->ah->Prop:=_;(?_:wpAny _ _ _ T5 T6 _))
   refine ae (aj ?_);refine ae (Tuple_ ?_);by_cases B9:∃lp Sd us,vs=us++[gb Sd lp]
   ·obtain⟨lp,Sd,us,rfl⟩:=B9;rw[E6,R.bind_assoc]at k;have hpu:us.all pG=true:=by rw[mn,aw]at h3;exact h3.1
    have hE:Each (SimT T c env A) (us.map λe=>eval e env) (pk c us):=by
     clear k stores tuple h2 h3 h4 hf pd hpu
     induction us with
     |nil=>exact .nil
     |cons e r ih=>exact .cons (H e) ih
    have hsp:gx p2 (dv (us++[gb Sd lp]) env)=((us.map λe=>eval e env)++[eval (.List Sd lp) env]).map λt=>(false,t):=by
     refine rg (rV p2 h3) ?_;simp
    refine rg (hsp) ?_;refine(let MV:_->ah->Prop:=_;(?_:wpAny _ _ _ MV _ _))
    refine MT hE P (KX.o3 k P.uniq λvals CU mvs s1 D1 Y e1 g1 r1 kk=>?_);have P1:=P.good g1;simp only[R.bind_assoc]at kk;refine(let MS:_->ah->Prop:=_;let T3:ag->ah->Prop:=_;(?_:wpAny _ _ _ MS T3 _))
    refine List_ (rZ (rn (λy u_=>H y) lp) P1 (KX.o3 kk P1.uniq λls U Z2 s2 D2 M e2 g2 r2 VP=>?_));have P2:=P1.good g2;refine(let Hl:_->ah->Prop:=_;(?_:wpAny _ _ _ Hl _ _))
    split at VP
    ·rename_i hz;refine aV ?_ (by rw[<-r2.length]at hz;show Z2.toArray.size<=dH;rw[bo];exact qa hz)
     have g3:Good T D2 M D2 M c env U {s2 with heap:=s2.heap.push {cls:=.type "list", data:=.seq Z2.toArray}}:=P2.grown (tk:=s2.toks) λu_ u_ e=>aq _ e
     have P3:=P2.good g3;simp only[R.sT]at VP;have E7:=r1.length;have hsl:(pY c xs (vals.map pq.val++[pq.own ls]) U)≠.stuck:=λe=>by rw[e]at VP;exact VP.oH
     have Ki:=(vI hsl).1
     have Y9:(mvs++[aH s2.heap.objs.size]).length<=qf:=by
      rw[av]at Ki ⊢;simp only[aK,bc,ml]at Ki ⊢;unfold qf;exact BM .x .y .y (.n 30) .z .w (.a .w (.n 1)) .x (.a .z (.n 1)) (.n 1000000) rfl (ak pd) (bR h4) (ak E7) (ak Ki.symm)
     exact tuple (mvs++[.ref s2.heap.objs.size]) _ U _ D2 M P3 (by simp[E7]) Y9 (.inr ⟨vals,ls,mvs,_,Z2,rfl,rfl,r1.mono g2.le g2.pre,r2,hz,P2.pO.fresh,⟨0,aF _ rfl⟩⟩) (KX.sub VP (g3.x P2.uniq))
    ·exact VP.oH.elim
   ·simp only[E5 (λlp Sd us e=>B9 (V7 lp Sd us e)),R.bind_assoc]at k;refine(let T7:ag->ah->Prop:=_;(?_:wpAny _ _ _ _ T7 _))
    refine rZ (rn (λy u_=>H y) p2) P (KX.o3 k P.uniq λvals CU mvs s1 D1 Y e1 g1 r1 kk=>?_);have P1:=P.good g1;simp only[R.sT]at kk;have hsl:(pY c xs (vals.map pq.val) CU)≠.stuck:=λe=>by rw[e]at kk;exact kk.oH
    have Ki:=(vI hsl).1;have E7:=r1.length;rw[aK]at Ki;exact tuple mvs _ CU s1 D1 Y P1 (by simp[E7]) (by unfold qf;exact BM .x .y .z .x .w .z .y (.n 30) .w (.n 1000000) rfl (ak pd) (ak Ki.symm) (ak E7) (bR h4)) (.inl ⟨vals,rfl,r1⟩) kk
  ·exact k.oH.elim
 ·rename_i T1;refine wq F H G ?_ (Dk T1) rfl P k
  induction e using aQ<;>rfl
end
section
variable{T:pg}{D D' D₁:oN}{φ ph:af ay}{c:MC}{env:Env}{A:aX}{st tm:St}{s s':ah}{E:ag->ah->Prop}{H:ay->au Obj}
theorem rJ.yw(g:rJ T (D.hide H) φ D' ph c env st s)(M:∀a o,H a=some o->D a=none):rJ T D φ (D'.shown H) ph c env st s/\Bx (D'.shown H) s.heap H/\D'.NL (D'.shown H):=by
 have hl:∀a o,H a=some o->D' a=some (.lk o):=λa o e=>g.le _ _ (oN.xr e) rfl;have nl:=Ad hl;refine qB ⟨λa sp e hs=>?_,g.pre,λa sp e=>?_,g.link.nl nl,g.gens,g.os,λa z x vs y e e'=>?_⟩ (λa o e=>⟨oN.sm e,g.pO _ _ (hl a o e)⟩) nl
 ·cases q:H a with
  |none=>exact rg (oN.shown_none q) (g.le _ _ ((oN.rq q)▸e) hs)
  |some o=>rw[M a o q]at e;exact(nS e).elim
 ·refine(let C:Prop:=_;(?_:C))
  cases q:H a with
  |none=>rw[oN.shown_none q]at e;exact g.pO _ _ e
  |some o=>rw[oN.sm q]at e;exact(nS e).elim
 ·cases q:H a with
  |none =>
   cases q':H z with
   |none=>replace e:=(oN.shown_none q)▸e;rw[oN.shown_none q']at e';exact g.uniq a z x vs y e e'
   |some o=>rw[oN.sm q']at e';cases e'
  |some o=>rw[oN.sm q]at e;exact(nS e).elim
theorem KX.rL {Y β z M:Type} {O:oN->af ay->β->Y->Prop} {y:oN->af ay->M->z->Prop} {Q:β->ah->Prop} {Q':M->ah->Prop} {r:R z} {f:z->St->R Y}
  (k:KX T D φ c env O (r.bind f) Q E) (hH:∀a o,H a=some o->D a=none) (U:∀D' ph b x,D'.NL (D'.shown H)->y D' ph b x->y (D'.shown H) ph b x)
  (h:∀x st b s D' ph,r=.ok x st->rJ T D φ D' ph c env st s->Bx D' s.heap H->y D' ph b x->KX T D' ph c env O (f x st) Q E->Q' b s):KX T (D.hide H) φ c env y r Q' E:=by
 refine qB (λe=>?_) (λa st e b s D' ph g hr=>?_) (λw p σ e x s D' ph g=>?_)
 ·refine(let C:Prop:=_;(?_:C))
  subst e;exact k.1 rfl
 ·subst e;refine y8 (g.yw hH) λg1 hd nl=>?_;exact h a st b s _ _ rfl g1 hd (U _ _ _ _ nl hr) (KX.sub k g1)
 ·subst e;exact k.2.2 w p σ rfl x s _ _ (g.yw hH)
theorem KX.Kd{z C:Type}{y:oN->af ay->C->z->Prop}{r:R z}{Q:C->ah->Prop}(k:KX T D φ c env y r Q E)(hs:JL D env A)(hb:∀a o,T.b.get? a=some o->D a=some (.fz o)) :
  KX T D φ c env y r Q (dh (model T.prog T.w) A env (iP (model T.prog T.w) A env E)):=by
 refine qB k.1 k.2.1 (λw p σ e x s D' ph g=>?_);exact xn (hs.le g.le) g.pO (λa o h=>g.le _ _ (hb a o h) rfl) g.locals g.L6 λh1 M f1=>yP M f1 λh2 O f2=>k.2.2 w p σ e x _ D' ph (g.heap O f2.Mq)
theorem sC.nl{f:kZ}{x:Fl}(hn:D'.NL D₁)(h:sC T D' φ f x):sC T D₁ φ f x:=by
 cases f<;>induction x using Fl.casesOn<;>first|exact h|exact oR.vl h hn.vl (ao _)
theorem yX(F:qi T c env A){t:aI}{body:af cW}(hG:SimG T c env A (assign t env) (λv s=>o4 c t v s))(hb:ui T c env A (execs body env) (o7 c body)){all:af V} :
  ∀(n i:Nat),all.length=i+n->∀{D φ st s} {I:ay} {RR:eO->ah->Prop},pI T D φ c env A st s->tA T A D φ I s.heap i all->D I=none ->
   KX T D φ c env (sC T) (vh (λv s=>o4 c t v s) (λs=>o7 c body s) (all.drop i) st) (λf s'=>RR (.ok f) s') (dh (model T.prog T.w) A env λx s'=>RR (.error x) s') ->
   cF (model T.prog T.w) A (.forLoop t (.ref I) body [] env) RR s:=by
 intro n
 induction n with
 |zero =>
  intro i pd D φ st s I RR P it hI k;refine cz ?_;show wpAny (model T.prog T.w) A ((forTurn t (.ref I) body [] env).onRaise (λx=>do noteFrame x env;fD x)) _ _ s
  refine gq ?_;refine ae (bh ?_);refine(let C:Prop:=_;(?_:C))
  obtain⟨fp,m,Pi,Sx,W,q1,q2,q3,q4,q5⟩:=it.ex;have hm:i=m:=by exact aZ (uJ (.a .x (.n 0)) .y .y .z .x .z rfl (ak pd.symm) (ak q2.symm)) (uJ .x (.a .y (.n 0)) .z .x .z .y rfl (ak pd) (ak q2))
  subst hm;have hd:all.drop i=[]:=ej (by exact pZ .x .y .x .y rfl (ak q2.symm))
  simp only[hd]at k;refine(let TN:_->ah->Prop:=_;(?_:wpAny _ _ _ TN _ _))
  refine ae (dB (W.done s _ _ q1 λh' tk hk=>?_));have g1:Good T D φ D φ c env st {s with heap:=h',toks:=tk}:=P.turnAt hI λb o hb=>hk b o (by simpa using hb)
  exact aj ⟨rfl,codeAny_block (fC (k.ok (b:=dq) (g1.x P.uniq) trivial))⟩
 |succ n ih =>
  intro i pd D φ st s I RR P it hI k;refine cz ?_;show wpAny (model T.prog T.w) A ((forTurn t (.ref I) body [] env).onRaise (λx=>do noteFrame x env;fD x)) _ _ s
  refine gq ?_;refine ae (bh ?_);refine(let C:Prop:=_;(?_:C))
  obtain⟨fp,m,Pi,Sx,W,q1,q2,q3,q4,q5⟩:=id it.ex;have ug:i<all.length:=by exact ye (.a .x (.a .y (.n 1))) .z (.a .x (.n 1)) .z rfl (ak pd.symm)
  have hd:all.drop i=all[i]::all.drop (i+1):=dm ug;simp only[hd]at k;refine(let W4:_->ah->Prop:=_;let W5:ag->ah->Prop:=_;(?_:wpAny _ _ _ W4 W5 _))
  refine ae (dB (W.item i s _ _ (by exact uJ .x .y (.a .z (.n 1)) .x (.a .z (.n 1)) .y rfl (ak q2.symm) ug) q1 λv h1 VL hv M Sq=>?_))
  refine o8 (q3 i v (by exact uJ .x .y (.a .z (.n 1)) .x (.a .z (.n 1)) .y rfl (ak q2.symm) ug) hv) λx hx hr=>?_
  have ZF:x=all[i]:=by rw[aW ug]at hx;obtain rfl:=ai hx;rfl
  subst ZF;have g1:Good T D φ D φ c env st {s with heap:=h1,toks:=VL}:=P.turnAt hI λb o hb=>Sq b o (by simpa using hb)
  have P1:=P.good g1;have k1:=KX.sub k (g1.x P.uniq);clear k;refine sF (q4 (i+1) h1 M) λoI cn Y ZH ZI=>?_;have WE:tA T A D φ I h1 (i+1) all:=⟨fp,m,Pi,Sx,W,M,q2,q3,q4,q5⟩
  have CP:Bx D h1 (yx I oI):=λa o e=>by
   unfold yx at e;split at e
   ·rename_i ha;cases e;subst ha;exact⟨hI,Y⟩
   ·exact(nS e).elim
  have VM:yx I oI I=some oI:=by unfold yx;exact rg (aO rfl) rfl
  have O:∀Z3:oN,Z3 I=none->∀a o,yx I oI a=some o->Z3 a=none:=λZ3 e1 a o e=>by
   unfold yx at e;split at e
   ·rename_i ha;subst ha;exact e1
   ·exact(nS e).elim
  refine ae (EZ Y ZH ZI ?_);refine ae (hG _ _ _ _ _ _ _ _ (P1.hide CP) (hr.mono (Bx.sub λa o e=>(CP a o e).1).le (ao _)) (KX.toK (KX.rL k1 (O D hI) (λu_ u_ u_ u_ u_ t=>t) λu CT u' s2 D2 Mm e2 g2 Ai u_ k2=>?_) (P1.hide CP).uniq));have P2:=P1.zR g2;have nI2:=(Ai _ _ VM).1;refine ae (hb _ _ _ _ _ _ (P2.hide Ai) (KX.rL k2 (O D2 nI2) (λu_ u_ u_ u_ nl t=>sC.nl nl t) λf ZK mf s3 D3 TU e3 g3 U hf k3=>?_));have P3:=P2.zR g3;have Gv:=((g1.x P.uniq).trans g2).trans g3;refine(let C:Prop:=_;(?_:C))
  induction f using Fl.casesOn with
  |next =>
   cases mf with
   |next =>
    refine aj ⟨rfl,ih (i+1) (by exact aZ (ye .x (.a .y (.a .z (.n 1))) .x (.a (.a .y (.n 1)) .z) rfl (ak pd)) (ye (.a .x (.a .y (.n 1))) .z (.a (.a .x (.n 1)) .y) .z rfl (ak pd.symm))) P3 (WE.moves (λo e=>?_) (λb o e=>Gv.le _ _ e rfl) Gv.pre Gv.le g1.pO Gv.pO) (U _ _ VM).1 k3⟩
    rw[Y]at e;obtain rfl:=ai e;exact(U _ _ VM).2
   |_=>exact hf.elim
  |ret v =>
   cases mf with
   |ret mv=>exact aj (k3.ok (b:=gN mv) (P3.here.x P3.uniq) hf)
   |_=>exact hf.elim
theorem E8 (F:qi T c env A) {t:aI} {body:af cW} (o:SimG T c env A (assign t env) (λv s=>o4 c t v s)) (hb:ui T c env A (execs body env) (o7 c body)) {all:af V} {mv:ag} {v:V} {Q:kZ->ah->Prop}
  (P:pI T D φ c env A st s) (r:oR T D φ mv v) (hi:pR v=some all) (k:KX T D φ c env (sC T) (vh (λv s=>o4 c t v s) (λs=>o7 c body s) all st) Q E) :
  wpAny (model T.prog T.w) A (do mS (.forLoop t (<- fJ [mv] (pyIter mv)) body [] env) env) Q E s:=by
 refine ae (a7 (Ae F P r hi λh' hk hz y=>?_));have g1:Good T D φ D φ c env st {s with heap:=h'}:=P.grown (tk:=s.toks) hk
 have P1:=P.good g1;refine i9 ?_;refine yX F o hb (all:=all) all.length 0 (by exact aZ (sO  .x (.a (.n 0) .x) rfl ) (sO  (.a (.n 0) .x) .x rfl )) P1 y P.pO.fresh ?_
 exact KX.Kd (KX.sub k (g1.x P.uniq)) P1.GJ P1.base
theorem Kj(F:qi T c env A){t:aI}{body:af cW}(hT:sH T c env A t)(hb:ui T c env A (execs body env) (o7 c body)) :
  ∀(n:Nat){D φ st s} {RR:eO->ah->Prop},pI T D φ c env A st s ->
   KX T D φ c env (sC T) (t5 (λs=>s9 c t (λs=>oO c t s) s) (λs=>o7 c body s) n st) (λf s'=>RR (.ok f) s') (dh (model T.prog T.w) A env λx s'=>RR (.error x) s') ->
   cF (model T.prog T.w) A (.whileLoop t body [] env) RR s:=by
 intro n
 induction n with
 |zero=>intro D φ st s RR P k;exact k.oH.elim
 |succ n ih =>
  intro D φ st s RR P k;refine cz ?_;show wpAny (model T.prog T.w) A ((whileTurn t body [] env).onRaise (λx=>do noteFrame x env;fD x)) _ _ s
  refine gq ?_;refine(let o:_->ah->Prop:=_;let y:ag->ah->Prop:=_;(?_:wpAny _ _ _ o y _))
  refine ae (hT _ _ _ _ _ _ P (KX.o3 k P.uniq λb M O s1 D1 U e1 g1 Y k1=>?_));subst Y;have P1:=P.good g1;cases O with
  |false =>
   exact ae (fC (aj (k1.ok (b:=dq) (P1.here.x P1.uniq) trivial)))
  |true =>
   refine ae (hb _ _ _ _ _ _ P1 (KX.bind k1 λf CT z s2 D2 Mm e2 g2 hf k2=>?_));have P2:=P1.zR g2;refine(let C:Prop:=_;(?_:C))
   induction f using Fl.casesOn with
   |next =>
    cases z with
    |next=>exact aj ⟨rfl,ih P2 k2⟩
    |_=>exact hf.elim
   |ret v =>
    cases z with
    |ret mv=>exact aj (k2.ok (b:=gN mv) (P2.here.x P2.uniq) hf)
    |_=>exact hf.elim
theorem Qn(F:qi T c env A)(y:∀e,sH T c env A e){t:aI}{b o:af cW}{p:Pos}(hb:ui T c env A (execs b env) (o7 c b)):wL T c env A (.While t b o p):=λD φ st s Q E P k=>by
 dsimp only at k;simp only[Qj]at k;split at k
 ·rename_i ho;have Pt:o=[]:=by simpa using ho
  subst Pt;refine wpAny_While ?_;exact Kj F (y t) hb c.wf P (KX.Kd k P.GJ P.base)
 ·exact k.oH.elim
end
section
variable{prog:b0}{w:bQ}{A:aX}{E:ag->ah->Prop}{s:ah}
theorem yY(hh:A.handled=none)(y t:ay)(sx:t≠y)(items:bx ag) :
  kD prog w A y [y,t] items.size (λi v=>items[i]?=some v) (λi h=>h.IsTupleIter y t i/\h.IsTuple t items) where
 live:=λu_ u_ st=>let⟨o,ho,_⟩:=st.1;⟨o,ho⟩
 frame:=λu_ u_ u_ st hk=>⟨st.1.at λo e=>hk y (by simp) o e,st.2.at λo e=>hk t (by simp) o e⟩
 item:=λi s Q E hi st Y=>by
  refine tq (st.1) λo ho hc hd=>?_;obtain⟨ol,VG,_,nl,Te⟩:=st.2;refine ae (bU (name:=aa "__next__") st.1.typeIs F.slot_tuple_iterator_next (bE F.slot_tuple_iterator_next st.1.typeIs F.entry_tuple_iterator_next ?_ (F.args_tuple_iterator_next_1 _)));refine(?_:wpAny _ _ (field (.ref y) 0 >>= _) _ _ s);refine ae (bg ho hd (x:=.ref t) rfl ?_);refine(?_:wpAny _ _ (if(aH t==cf)=true then _ else _) _ _ s)
  refine ae (bg ho hd (x:=.int i 0) rfl ?_);refine(let T:_->ah->Prop:=_;(?_:wpAny _ _ _ T _ _))
  refine(let U:ag->ah->Prop:=_;(?_:wpAny _ _ _ _ U _))
  refine ae (dG VG Te ?_);have hx:items[i]?=some items[i]:=bV hi;simp only[en,hx];refine(let C:Prop:=_;(?_:C))
  have D:(s.heap.update y (da λx=>x.setIfInBounds 1 (c7 ((i:Int)+1)))).IsTupleIter y t (i+1) :=
   (qZ _ (bu _ ho (b6 (bS hd _))) ((lX ..).trans hc) (by rw[bS hd];simp[c7]))
  exact ae (cv ho hd (by simp) (aj (o5 _ rfl (aj (Y _ _ s.toks hx ⟨D,st.2.extBut (bK ..).extBut sx⟩ (bK ..))))))
 done:=λs Q E st hE=>by
  obtain⟨o,ho,hc,hd⟩:=st.1;obtain⟨ol,VG,_,nl,Te⟩:=st.2;refine ae (bU (name:=aa "__next__") st.1.typeIs F.slot_tuple_iterator_next (bE F.slot_tuple_iterator_next st.1.typeIs F.entry_tuple_iterator_next ?_ (F.args_tuple_iterator_next_1 _)));refine(?_:wpAny _ _ (field (.ref y) 0 >>= _) _ _ s);refine ae (bg ho hd (x:=.ref t) rfl ?_);refine(?_:wpAny _ _ (if(aH t==cf)=true then _ else _) _ _ s)
  refine ae (bg ho hd (x:=.int items.size 0) rfl ?_);refine(let H:_->ah->Prop:=_;let M:ag->ah->Prop:=_;(?_:wpAny _ _ _ H M _))
  refine ae (dG VG Te ?_);have hx:items[items.size]?=none:=ef (aL _);simp only[en,hx];refine(let O:_->ah->Prop:=_;(?_:wpAny _ _ _ O _ _))
  refine ae (fb (ae (cv ho hd (by simp) ?_)))
  refine ae ?_;refine ae (aV ?_ (by size_fits))
  refine ae (m:=eE _ _) (cw (a:=cf) (by first|rfl|(simp only[eE];rfl)) ?_)
  refine aV ?_ (by size_fits)
  refine ae (kN ?_)
  first|rw[show A.in1.handled=none from hh]|rw[hh]
  refine ae (aj (jI ?_));exact hE _ _ (((bK ..).extBut.push _).push _) (o5 _ (aF _ rfl) rfl)
structure wN(z TI TO i1 i2:ay)(Ss Su:af ay):Prop where
 Yx:z≠TI
 Sv:z≠TO
 W6:z≠i1
 Yy:z≠i2
 TITO:TI≠TO
 TIi1:TI≠i1
 TIi2:TI≠i2
 TOi1:TO≠i1
 TOi2:TO≠i2
 Yl:i1≠i2
 z1:z∉Ss
 z2:z∉Su
 TO1:TO∉Ss
 Z4:TO∉Su
 i21:i2∉Ss
 W7:i1∉Su
variable{Ss Su:af ay}{n1 n2:Nat}{P1 P2:Nat->ag->Prop}{S1 S2:Nat->bP->Prop}{z TI TO i1 i2:ay}
theorem Kk (W1:kD prog w A.in1 i1 Ss n1 P1 S1) (W2:kD prog w A.in1 i2 Su n2 P2 S2) (D:wN z TI TO i1 i2 Ss Su) {k:Nat} {a b:ag} {Q:au ag->ah->Prop}
  (hz:iv s.heap z TI TO .none) (Qo:el s.heap TI (.ref i1) (.ref i2)) (MW:el s.heap TO a b) (h1:S1 k s.heap) (h2:S2 k s.heap) (Sq:k<n1) (Qc:k<n2)
  (hQ:∀x y h' tk,P1 k x->P2 k y->iv h' z TI TO (c7 s.heap.objs.size)->el h' TO x y->S1 (k+1) h'->S2 (k+1) h'->el h' s.heap.objs.size x y->h'.objs.size=s.heap.objs.size+1 ->
   (∀c o,c≠z->c≠TO->c≠i1->c≠i2->s.heap.get? c=some o->h'.get? c=some o)->Q (some (.ref s.heap.objs.size)) {s with heap:=h',toks:=tk}) :
  wpAny (model prog w) A (pyNext (.ref z)) Q E s:=by
 have hT:s.TypeIs (.ref z) "zip":=(o5 _ hz rfl);refine ae (dR (bU (name:=aa "__next__") hT F.slot_zip_next (bE F.slot_zip_next hT F.entry_zip_next ?_ (F.args_zip_next_1 _))));refine(let TM:_->ah->Prop:=_;let WW:ag->ah->Prop:=_;(?_:wpAny _ _ _ TM WW _))
 refine(?_:wpAny _ _ (field (.ref z) 2 >>= _) _ _ _);refine(let WX:_->ah->Prop:=_;let Tx:ag->ah->Prop:=_;(?_:wpAny _ _ _ WX Tx _))
 refine ae (bg hz rfl (x:=.bool false) rfl ?_);refine(let TN:_->ah->Prop:=_;let Z5:ag->ah->Prop:=_;(?_:wpAny _ _ _ TN Z5 _))
 refine ae (bg hz rfl (x:=.ref TI) rfl ?_);refine(let TV:_->ah->Prop:=_;let W8:ag->ah->Prop:=_;(?_:wpAny _ _ _ TV W8 _))
 refine ae (dG Qo rfl ?_);refine(let PE:_->ah->Prop:=_;let PF:ag->ah->Prop:=_;(?_:wpAny _ _ _ PE PF _))
 refine ae ?_;refine(let Q7_:_->ah->Prop:=_;(?_:wpAny _ _ _ Q7_ _ _))
 refine ae (bg hz rfl (x:=.none) rfl (aj ?_));refine(let Zq:_->ah->Prop:=_;let Zr:ag->ah->Prop:=_;(?_:wpAny _ _ _ Zq Zr _))
 refine ae (fb ?_);refine(let W4:_->ah->Prop:=_;let W5:ag->ah->Prop:=_;(?_:wpAny _ _ _ W4 W5 _))
 refine ae (bg hz rfl (x:=.ref TO) rfl ?_);refine(let ME:_->ah->Prop:=_;let MF:ag->ah->Prop:=_;(?_:wpAny _ _ _ ME MF _))
 refine ae (dM hz (by simp) λg1 Sw C=>?_)
 replace Sw:iv g1 z TI TO .ellipsis:=Sw;refine(let Z6:_->ah->Prop:=_;let T8:ag->ah->Prop:=_;(?_:wpAny _ _ _ Z6 T8 _))
 refine ae ?_;simp only[l4,mh,eZ,mI];have Qp:S1 k g1:=W1.frame _ _ _ h1 λc hc o e=>C.extBut c o (λq=>D.z1 (q▸hc)) e;have T9:S2 k g1:=W2.frame _ _ _ h2 λc hc o e=>C.extBut c o (λq=>D.z2 (q▸hc)) e;refine(let T5:_->ah->Prop:=_;let T6:ag->ah->Prop:=_;(?_:wpAny _ _ _ T5 T6 _))
 refine ae (ae (dB ?_));refine(let Z7:_->ah->Prop:=_;let Z8:ag->ah->Prop:=_;(?_:wpAny _ _ _ Z7 Z8 _))
 refine ae (W1.item k _ _ _ Sq Qp λx g2 Wu hx W9 H=>aj ?_);have MX:el g2 TO a b:=H.extBut _ _ D.TOi1 (C.extBut _ _ (b3 D.Sv) MW);have Ua:S2 k g2:=W2.frame _ _ _ T9 λc hc o e=>H.extBut c o (λq=>D.W7 (q▸hc)) e;refine(let MR:_->ah->Prop:=_;(?_:wpAny _ _ _ MR _ _))
 refine ae (dG MX rfl ?_);refine ae (ig MX λg3 Qq M=>?_);replace Qq:el g3 TO x b:=Qq;have Z9:S1 (k+1) g3:=W1.frame _ _ _ W9 λc hc o e=>M.extBut c o (λq=>D.TO1 (q▸hc)) e;have Ub:S2 k g3:=W2.frame _ _ _ Ua λc hc o e=>M.extBut c o (λq=>D.Z4 (q▸hc)) e;refine ae (jJ (aj ?_));refine(let Hl:_->ah->Prop:=_;let aaa:ag->ah->Prop:=_;(?_:wpAny _ _ _ Hl aaa _))
 refine ae (ae (dB ?_));refine(let Uc:_->ah->Prop:=_;let aab:ag->ah->Prop:=_;(?_:wpAny _ _ _ Uc aab _))
 refine ae (W2.item k _ _ _ Qc Ub λy g4 tk4 hy aac O=>aj ?_);have Xa:el g4 TO x b:=O.extBut _ _ D.TOi2 Qq;have aad:S1 (k+1) g4:=W1.frame _ _ _ Z9 λc hc o e=>O.extBut c o (λq=>D.i21 (q▸hc)) e;refine(let Ud:_->ah->Prop:=_;(?_:wpAny _ _ _ Ud _ _))
 refine ae (dG Xa rfl ?_);refine ae (ig Xa λg5 Qr T=>?_);replace Qr:el g5 TO x y:=Qr;have aae:S1 (k+1) g5:=W1.frame _ _ _ aad λc hc o e=>T.extBut c o (λq=>D.TO1 (q▸hc)) e;have aaf:S2 (k+1) g5:=W2.frame _ _ _ aac λc hc o e=>T.extBut c o (λq=>D.Z4 (q▸hc)) e;refine(let aag:_->ah->Prop:=_;let aah:ag->ah->Prop:=_;(?_:wpAny _ _ _ aag aah _))
 refine ae (jJ (aj (aj ?_)));refine ae (dG Qr rfl ?_);refine ae (wpAny_newTuple ?_);have hsz:g5.objs.size=s.heap.objs.size:=rg (T.1 ..) (rg (O.1 ..) (rg (M.1 ..) (rg (H.1 ..) (rg (C.1 ..) rfl))));have Yt:iv g5 z TI TO .ellipsis:=T.extBut _ _ D.Sv (O.extBut _ _ D.Yy (M.extBut _ _ D.Sv (H.extBut _ _ D.W6 Sw)))
 have Qh:∀c o,c≠z->c≠TO->c≠i1->c≠i2->s.heap.get? c=some o->g5.get? c=some o:=λc o c1 c2 c3 c4 e =>
  T.extBut _ _ c2 (O.extBut _ _ c4 (M.extBut _ _ c2 (H.extBut _ _ c3 (C.extBut _ _ c1 e))))
 have Kl:z<g5.objs.size:=aS Yt;refine ae ?_;have hz6:iv (g5.push {cls:=.type "tuple", data:=.seq #[x,y]}) z TI TO .ellipsis:=aq _ Yt;refine ae (dM hz6 (by simp) λg7 hz7 U=>?_)
 replace hz7:iv g7 z TI TO (c7 g5.objs.size):=hz7;refine dM hz7 (by simp) λg8 Yz Y=>?_
 replace Yz:iv g8 z TI TO (c7 g5.objs.size):=Yz;have up:∀c o,c≠z->g5.get? c=some o->g8.get? c=some o:=λc o c1 e=>Y.extBut _ _ c1 (U.extBut _ _ c1 (aq _ e));have hT8:el g8 g5.objs.size x y:=Y.extBut _ _ (bj Kl) (U.extBut _ _ (bj Kl) (aF _ rfl));have hz9:g8.objs.size=g5.objs.size+1:=rg (Y.1 ..) (rg (U.1 ..) (rg (cK ..) rfl));rw[hsz]at Yz hT8 hz9;refine aj (o5 _ rfl (aj ?_));refine rg (hsz ..) ?_
 exact hQ x y g8 tk4 hx hy Yz (up _ _ (b3 D.Sv) Qr) (W1.frame _ _ _ aae λc hc o e=>up c o (λq=>D.z1 (q▸hc)) e) (W2.frame _ _ _ aaf λc hc o e=>up c o (λq=>D.z2 (q▸hc)) e) hT8 hz9
  λc o c1 c2 c3 c4 e=>up c o c1 (Qh c o c1 c2 c3 c4 e)
theorem MY (W1:kD prog w A.in1 i1 Ss n1 P1 S1) (W2:kD prog w A.in1 i2 Su n2 P2 S2) (D:wN z TI TO i1 i2 Ss Su) {k:Nat} {a b:ag} {Q:au ag->ah->Prop}
  (hz:iv s.heap z TI TO .none) (Qo:el s.heap TI (.ref i1) (.ref i2)) (MW:el s.heap TO a b) (h1:S1 k s.heap) (h2:S2 k s.heap) (JH:k=n1\/(k<n1/\k=n2))
  (hQ:∀h' tk,(∀c o,c≠z->c≠TO->c≠i1->c≠i2->s.heap.get? c=some o->h'.get? c=some o)->Q none {s with heap:=h',toks:=tk}) :
  wpAny (model prog w) A (pyNext (.ref z)) Q E s:=by
 have hT:s.TypeIs (.ref z) "zip":=(o5 _ hz rfl);refine ae (dR (bU (name:=aa "__next__") hT F.slot_zip_next (bE F.slot_zip_next hT F.entry_zip_next ?_ (F.args_zip_next_1 _))))
 have fin:∀h' tk e,(∀c o,c≠z->c≠TO->c≠i1->c≠i2->s.heap.get? c=some o->h'.get? c=some o)->(∃o,h'.get? e=some o/\o.cls=.type "StopIteration") ->
   wpAny (model prog w) A (do if <- iO (.ref e) (.type "StopIteration")then pure none else throw (.ref e)) Q E {s with heap:=h',toks:=tk}:=λh' tk e hk he=>by
  refine(let C:Prop:=_;(?_:C))
  refine o8 (he) λo ho hc=>?_;refine ae (fc (T:="StopIteration") (b:=true) (o5 o ho hc) kf ?_);exact aj (hQ _ _ hk)
 refine(?_:wpAny _ _ (field (.ref z) 2 >>= _) _ _ _);refine(let TV:_->ah->Prop:=_;let W8:ag->ah->Prop:=_;(?_:wpAny _ _ _ TV W8 _))
 refine ae (bg hz rfl (x:=.bool false) rfl ?_);refine(let PE:_->ah->Prop:=_;let PF:ag->ah->Prop:=_;(?_:wpAny _ _ _ PE PF _))
 refine ae (bg hz rfl (x:=.ref TI) rfl ?_);refine(let E7_:ag->ah->Prop:=_;(?_:wpAny _ _ _ _ E7_ _))
 refine ae (dG Qo rfl ?_);refine ae ?_;refine ae (bg hz rfl (x:=.none) rfl (aj ?_));refine ae (fb ?_);refine(let T8:ag->ah->Prop:=_;(?_:wpAny _ _ _ _ T8 _))
 refine ae (bg hz rfl (x:=.ref TO) rfl ?_);refine ae (dM hz (by simp) λg1 Sw O=>?_)
 replace Sw:iv g1 z TI TO .ellipsis:=Sw;refine ae ?_;simp only[l4,mh,eZ,mI];have Qp:S1 k g1:=W1.frame _ _ _ h1 λc hc o e=>O.extBut c o (λq=>D.z1 (q▸hc)) e;have T9:S2 k g1:=W2.frame _ _ _ h2 λc hc o e=>O.extBut c o (λq=>D.z2 (q▸hc)) e;refine(let MR:_->ah->Prop:=_;let T2:ag->ah->Prop:=_;(?_:wpAny _ _ _ MR T2 _))
 refine ae (ae (dB ?_));refine(let MV:_->ah->Prop:=_;let Ue:ag->ah->Prop:=_;(?_:wpAny _ _ _ MV Ue _))
 rcases JH with rfl|⟨Sq,rfl⟩
 ·refine ae (W1.done _ _ _ Qp λg2 e y he=>?_);refine o8 (he) λoe H U=>?_;have Yv:iv g2 z TI TO .ellipsis:=y _ _ D.W6 Sw;have Y:e≠z:=λq=>by subst q;rw[Yv]at H;obtain rfl:=ai H;simp at U
  refine(let Hl:_->ah->Prop:=_;(?_:wpAny _ _ _ Hl _ _))
  refine dM Yv (by simp) λg3 u_ M=>fin g3 _ e (λc o c1 u_ c3 u_ q=>M.extBut _ _ c1 (y _ _ c3 (O.extBut _ _ c1 q))) (o5 oe (M.extBut _ _ Y H) U)
 ·refine ae (W1.item k _ _ _ Sq Qp λx g2 Wu hx W9 y=>aj ?_);have MX:el g2 TO a b:=y.extBut _ _ D.TOi1 (O.extBut _ _ (b3 D.Sv) MW);have Ua:S2 k g2:=W2.frame _ _ _ T9 λc hc o e=>y.extBut c o (λq=>D.W7 (q▸hc)) e;refine(let Ud:_->ah->Prop:=_;let T7:ag->ah->Prop:=_;(?_:wpAny _ _ _ Ud T7 _))
  refine ae (dG MX rfl ?_);refine ae (ig MX λg3 Qq M=>?_);have Ub:S2 k g3:=W2.frame _ _ _ Ua λc hc o e=>M.extBut c o (λq=>D.Z4 (q▸hc)) e;refine ae (jJ (aj ?_));refine ae (ae (dB ?_));refine ae (W2.done _ _ _ Ub λg4 e hs4 he=>?_);refine o8 (he) λoe H U=>?_;have hz4:iv g4 z TI TO .ellipsis:=hs4 _ _ D.Yy (M.extBut _ _ D.Sv (y.extBut _ _ D.W6 Sw));have Y:e≠z:=λq=>by subst q;rw[hz4]at H;obtain rfl:=ai H;simp at U
  refine(let aaj:_->ah->Prop:=_;(?_:wpAny _ _ _ aaj _ _))
  refine dM hz4 (by simp) λg5 u_ VN=>fin g5 _ e (λc o c1 c2 c3 c4 q=>VN.extBut _ _ c1 (hs4 _ _ c4 (M.extBut _ _ c2 (y.extBut _ _ c3 (O.extBut _ _ c1 q))))) (o5 oe (VN.extBut _ _ Y H) U)
theorem Dn(l1 l2:ay)(xs ys:bx ag) :
  Meets (c0.«zip.__new__» ⟨[.type "zip", .ref l1,.ref l2],[]⟩) (λu_ R s=>s.heap.IsTuple l1 xs/\s.heap.IsList l2 ys /\
   ∀h1 h2 o h4 H,h1=s.heap.push {cls:=.type "tuple_iterator", data:=.fields #[.ref l1,.int 0 0]}->h2=h1.push {cls:=.type "list_iterator", data:=.fields #[.ref l2,.int 0 0]} ->
    o=h2.push {cls:=.type "tuple", data:=.seq #[.ref s.heap.objs.size,.ref h1.objs.size]}->h4=o.push {cls:=.type "tuple", data:=.seq #[.none,.none]} ->
    H=h4.push {cls:=.type "zip", data:=.fields #[.none,.bool false,.bool false,.ref h2.objs.size,.ref o.objs.size]}->R (.ok (.ret (.ref h4.objs.size))) {s with heap:=H}) :=
 .of_wp λprog w A R s h=>by
  obtain⟨hp,g,d,tk,os⟩:=s;obtain⟨y,TJ,h⟩:=h;have vq:=sub_zip;have C:Heap.IsTuple (mW ⟨hp,g,d,tk,os⟩) l1 xs:=y;have D:Heap.IsList (mW ⟨hp.push {cls:=.type "tuple_iterator", data:=.fields #[.ref l1,.int 0 0]},g,d,tk,os⟩) l2 ys:=Heap.IsList.push TJ _
  wp_walk using mO C,gp D
  exact o5 _ rfl (h _ _ _ _ _ rfl rfl rfl rfl rfl)
end
noncomputable def MZ(S:af ay)(h:bP):ay->au Obj:=λa=>if a∈S then h.get? a else none
theorem IE{S:af ay}{h:bP}{a:ay}(ha:a∈S):MZ S h a=h.get? a:=by unfold MZ;exact rg (aO ha) rfl
theorem M0{D:oN}{S:af ay}{h:bP}(y:∀a∈S,D a=none):Bx D h (MZ S h):=λa o e=>by
 unfold MZ at e;split at e
 ·rename_i ha;exact⟨y a ha,e⟩
 ·exact(nS e).elim
theorem wt(x y:Nat)(h:x≠y):@Ne ay x y:=h
theorem Ce(x y z:Nat)(h:x≠y)(h':x≠z):(x:ay)∉([y,z]:af ay):=by simp[h,h']
theorem Km(n a b:Nat)(h1:a<n)(h2:b<n):wN (n+4) (n+2) (n+3) n (n+1) [n,a] [n+1,b] :=
 ⟨wt _ _ (by exact bj (sO  (.a (.a .x (.n 2)) (.n 1)) (.a .x (.n 4)) rfl )),wt _ _ (by exact bj (sO  (.a (.a .x (.n 3)) (.n 1)) (.a .x (.n 4)) rfl )),wt _ _ (by exact bj (sO  (.a .x (.n 1)) (.a .x (.n 4)) rfl )),wt _ _ (by exact bj (sO  (.a (.a .x (.n 1)) (.n 1)) (.a .x (.n 4)) rfl )),wt _ _ (by exact a5 (sO  (.a (.a .x (.n 2)) (.n 1)) (.a .x (.n 3)) rfl )),wt _ _ (by exact bj (sO  (.a .x (.n 1)) (.a .x (.n 2)) rfl )),wt _ _ (by exact bj (sO  (.a (.a .x (.n 1)) (.n 1)) (.a .x (.n 2)) rfl )),wt _ _ (by exact bj (sO  (.a .x (.n 1)) (.a .x (.n 3)) rfl )),wt _ _ (by exact bj (sO  (.a (.a .x (.n 1)) (.n 1)) (.a .x (.n 3)) rfl )),wt _ _ (by exact a5 (sO  (.a .x (.n 1)) (.a .x (.n 1)) rfl )),
  Ce _ _ _ (by exact bj (sO  (.a .x (.n 1)) (.a .x (.n 4)) rfl )) (by exact bj (pZ (.a .x (.n 1)) .y (.a .x (.n 1)) (.a .y (.n 4)) rfl h1)),Ce _ _ _ (by exact bj (sO  (.a (.a .x (.n 1)) (.n 1)) (.a .x (.n 4)) rfl )) (by exact bj (pZ (.a .x (.n 1)) .y (.a .x (.n 1)) (.a .y (.n 4)) rfl h2)),Ce _ _ _ (by exact bj (sO  (.a .x (.n 1)) (.a .x (.n 3)) rfl )) (by exact bj (pZ (.a .x (.n 1)) .y (.a .x (.n 1)) (.a .y (.n 3)) rfl h1)),Ce _ _ _ (by exact bj (sO  (.a (.a .x (.n 1)) (.n 1)) (.a .x (.n 3)) rfl )) (by exact bj (pZ (.a .x (.n 1)) .y (.a .x (.n 1)) (.a .y (.n 3)) rfl h2)),Ce _ _ _ (by exact bj (sO  (.a .x (.n 1)) (.a .x (.n 1)) rfl )) (by exact bj (pZ (.a .x (.n 1)) .y (.a .x (.n 1)) (.a .y (.n 1)) rfl h1)),Ce _ _ _ (by exact a5 (sO  (.a .x (.n 1)) (.a .x (.n 1)) rfl )) (by exact bj (pZ (.a .x (.n 1)) .y (.a .x (.n 1)) .y rfl h2))⟩
theorem M1{n a b:ay}(h1:a<n)(h2:b<n):wN (n+4) (n+2) (n+3) n (n+1) [n,a] [n+1,b]:=Km n a b h1 h2
theorem Kn{c:MC}{o a b:aI}(h:xe c o=some (a,b)):∃f p q,o=.Call (.Name f p) [a,b] [] q/\(f==aa "zip"&&qw c f&&pG a&&pG b)=true :=
 qH h λr h1 h=>qH h λf h2 h=>qH h λq C h=>qA (tM h) λh4 y=>qA (Bool.and_eq_true_iff.mp h4) λH z =>
  p8 (yj h1) λp e1=>p8 (uy h2) λp2 e2=>zb f p2 p (rg (e1 ..) (rg (e2 ..) (rg (Pq C) (rg (ai y) (rg (List.isEmpty_iff.mp H) rfl))))) (by rw[ai y]at z;exact z)
section
variable{T:pg}{D D' D₁:oN}{φ ph:af ay}{c:MC}{env:Env}{A:aX}{st tm:St}{s s':ah}{E:ag->ah->Prop}
theorem pI.Sy(P:pI T D φ c env A st s){S:af ay}{h':bP}{tk:Tok}(y:∀a∈S,D a=none)(hk:∀b o,b∉S->s.heap.get? b=some o->h'.get? b=some o):Good T D φ D φ c env st {s with heap:=h',toks:=tk} :=
 ⟨.refl _,ao _,λa sp e=>(P.pO a sp e).at λo ho=>hk a o (λha=>by rw[y a ha]at e;cases e) ho,P.link,P.gens,P.os,.refl _⟩
structure Xb(D:oN)(h:bP)(z TI TO i1 i2 l1 l2:ay)(i:Nat):Prop where
 hz:iv h z TI TO .none
 Qo:el h TI (.ref i1) (.ref i2)
 MW:∃a b,el h TO a b
 h1:h.IsTupleIter i1 l1 i
 h2:h.IsListIter i2 l2 i
 un:∀a∈[z,TI,TO,i1,i2],D a=none
noncomputable def zr(T:pg)(c:MC)(env:Env)(A:aX)(o:af aI)(y:Nat)(C:Pos)(body:af cW)(l k:af V)(xs ys:bx ag)(H n2:Nat)(z TI TO i1 i2 l1 l2:ay)(i:Nat):Prop :=
 ∀D φ st s RR,pI T D φ c env A st s->Xb D s.heap z TI TO i1 i2 l1 l2 i ->
  D l1=some (.fz {cls:=.type "tuple", dict:=none,data:=.seq xs H,slots:=#[]})->oK T D φ xs.toList l->D l2=some (.fz {cls:=.type "list", dict:=none,data:=.seq ys n2,slots:=#[]})->oK T D φ ys.toList k ->
  KX T D φ c env (sC T) (vh (λv s=>o4 c (.Tuple o y C) v s) (λs=>o7 c body s) (Ei (l.drop i) (k.drop i)) st) (λf s'=>RR (.ok f) s') (dh (model T.prog T.w) A env λx s'=>RR (.error x) s') ->
  cF (model T.prog T.w) A (.forLoop (.Tuple o y C) (.ref z) body [] env) RR s
theorem IF(F:qi T c env A){ts:af aI}{tn:Nat}{tp:Pos}{body:af cW}{l k:af V}{xs ys:bx ag}{n1 n2:Nat}{z TI TO i1 i2 l1 l2:ay}(Ap:wN z TI TO i1 i2 [i1,l1] [i2,l2])(H:l1≠i1)(M:l2≠i2){i:Nat}(O:i<=l.length)(hi2:i<=k.length)(JH:i=l.length\/i=k.length) :
  zr T c env A ts tn tp body l k xs ys n1 n2 z TI TO i1 i2 l1 l2 i:=λD φ st s RR P y U r1 Y r2 kk=>by
 have W1:∀(_:qi T c env A),kD T.prog T.w A.in1 i1 [i1,l1] xs.size (λi v=>xs[i]?=some v) (λi h=>h.IsTupleIter i1 l1 i/\h.IsTuple l1 xs):=λF=>yY (A:=A.in1) F.hd i1 l1 H xs;have W2:∀(_:qi T c env A),kD T.prog T.w A.in1 i2 [i2,l2] ys.size (λi v=>ys[i]?=some v) (λi h=>h.IsListIter i2 l2 i/\h.IsList l2 ys):=λF=>n9 (A:=A.in1) F.hd i2 l2 M ys;have Sz:∀{D φ},oK T D φ xs.toList l->xs.size=l.length:=λr=>by rw[<-r.length,aM]
 have hyl:∀{D φ},oK T D φ ys.toList k->ys.size=k.length:=λr=>by rw[<-r.length,aM]
 have hz:Ei (l.drop i) (k.drop i)=[]:=by
  refine JH.elim (λh=>?_) (λh=>?_)
  ·refine rg (ej (ak h.symm)) ?_;rfl
  ·refine rg (ej (as:=k) (ak h.symm)) ?_;cases l.drop i<;>rfl
 simp only[hz]at kk;refine(let C:Prop:=_;(?_:C))
 refine cz ?_;refine(let C:Prop:=_;(?_:C))
 refine gq ?_;refine ae (bh ?_);refine(let C:Prop:=_;(?_:C))
 refine uK (y.MW) λa b MW=>?_;have Xc:s.heap.IsTuple l1 xs:=⟨_,P.heap U,rfl,n1,rfl⟩;have Xd:s.heap.IsList l2 ys:=⟨_,P.heap Y,rfl,n2,rfl⟩;refine ae (dB (MY (W1 F) (W2 F) Ap y.hz y.Qo MW ⟨y.h1,Xc⟩ ⟨y.h2,Xd⟩ ?_ λh' tk hk=>?_))
 ·refine rg (Sz r1) ?_;refine rg (hyl r2) ?_;rcases ku i l.length with h|h
  ·exact .inr ⟨h,JH.resolve_left (a5 h)⟩
  ·exact .inl (aZ O h)
 ·have g1:Good T D φ D φ c env st {s with heap:=h',toks:=tk}:=P.Sy y.un λb o hb=>by
   simp only[bk,bf,dn,gR]at hb;exact hk b o hb.1 hb.2.2.1 hb.2.2.2.1 hb.2.2.2.2
  exact aj ⟨rfl,codeAny_block (fC (kk.ok (b:=dq) (g1.x P.uniq) trivial))⟩
theorem M3 (F:qi T c env A) {ts:af aI} {tn:Nat} {tp:Pos} {body:af cW} {l k:af V} {xs ys:bx ag} {n1 n2:Nat} {z TI TO i1 i2 l1 l2:ay} (hG:SimG T c env A (assign (.Tuple ts tn tp) env) (λv s=>o4 c (.Tuple ts tn tp) v s)) (hb:ui T c env A (execs body env) (o7 c body))
  (M:wN z TI TO i1 i2 [i1,l1] [i2,l2]) (aal:l1≠i1) (TS:l2≠i2) {i:Nat} (Y:i<l.length) (Ug:i<k.length) (ih:zr T c env A ts tn tp body l k xs ys n1 n2 z TI TO i1 i2 l1 l2 (i+1)) :
  zr T c env A ts tn tp body l k xs ys n1 n2 z TI TO i1 i2 l1 l2 i:=λD φ st s RR P U hl1 r1 TJ r2 kk=>by
 have W1:∀(_:qi T c env A),kD T.prog T.w A.in1 i1 [i1,l1] xs.size (λi v=>xs[i]?=some v) (λi h=>h.IsTupleIter i1 l1 i/\h.IsTuple l1 xs):=λF=>yY (A:=A.in1) F.hd i1 l1 aal xs;have W2:∀(_:qi T c env A),kD T.prog T.w A.in1 i2 [i2,l2] ys.size (λi v=>ys[i]?=some v) (λi h=>h.IsListIter i2 l2 i/\h.IsList l2 ys):=λF=>n9 (A:=A.in1) F.hd i2 l2 TS ys;have Sz:∀{D φ},oK T D φ xs.toList l->xs.size=l.length:=λr=>by rw[<-r.length,aM]
 have hyl:∀{D φ},oK T D φ ys.toList k->ys.size=k.length:=λr=>by rw[<-r.length,aM]
 have Ln:l.drop i=l[i]::l.drop (i+1):=dm Y;have Sk:k.drop i=k[i]::k.drop (i+1):=dm Ug;simp only[Ln,Sk]at kk;refine cz ?_;show wpAny (model T.prog T.w) A ((forTurn (.Tuple ts tn tp) (.ref z) body [] env).onRaise (λx=>do noteFrame x env;fD x)) _ _ s
 refine gq ?_;refine ae (bh ?_);refine uK (U.MW) λa b MW=>?_;have Xc:s.heap.IsTuple l1 xs:=⟨_,P.heap hl1,rfl,n1,rfl⟩;have Xd:s.heap.IsList l2 ys:=⟨_,P.heap TJ,rfl,n2,rfl⟩;refine ae (dB (Kk (W1 F) (W2 F) M U.hz U.Qo MW ⟨U.h1,Xc⟩ ⟨U.h2,Xd⟩ (rg (Sz r1) Y) (rg (hyl r2) Ug) λx y h1 tk hx hy qz YA q1 q2 qT hsz hk=>?_));refine(let C:Prop:=_;(?_:C))
 refine o8 (r1.at (aW Y)) λmx ex rx=>?_;refine o8 (r2.at (aW Ug)) λmy ey ry=>?_;have hx':mx=x:=by rw[cD]at ex;rw[hx]at ex;obtain rfl:=ai ex;rfl
 have hy':my=y:=by rw[cD]at ey;rw[hy]at ey;obtain rfl:=ai ey;rfl
 subst hx' hy';refine ae (wpAny_letOwnedTupleGo_zip qz λh2 qz2 H=>?_)
 have up:∀b o,b∉[z,TI,TO,i1,i2]->s.heap.get? b=some o->h2.get? b=some o:=λb o hb e=>by
  simp only[bk,bf,dn,gR]at hb;exact H.extBut _ _ hb.1 (hk b o hb.1 hb.2.2.1 hb.2.2.2.1 hb.2.2.2.2 e)
 have g1:Good T D φ D φ c env st {s with heap:=h2,toks:=tk}:=P.Sy U.un up
 have P1:=P.good g1;have Kl:z<s.heap.objs.size:=aS U.hz;have qT2:el h2 s.heap.objs.size mx my:=H.extBut _ _ (bj Kl) qT;have g2:=P1.more (tk:=tk) (h':=h2) (λu_ u_ e=>e) P.pO.fresh qT2;have P2:=P1.good g2;have gg:=g1.trans g2;have k1:=KX.sub kk (gg.x P.uniq);clear kk;have lz:z≠s.heap.objs.size:=a5 Kl
 have unS:∀a∈[z,TI,TO,i1,i2],(D.put s.heap.objs.size (.fz {cls:=.type "tuple", data:=.seq #[mx,my]})) a=none:=λa ha=>by
  have We:a<s.heap.objs.size:=by
   refine(let C:Prop:=_;(?_:C))
   refine o8 (U.h1) λo1 e1 u_=>?_;refine(let C:Prop:=_;(?_:C))
   refine o8 (U.h2) λo2 e2 u_=>?_;simp only[bk,bf,dn]at ha;refine(let C:Prop:=_;(?_:C))
   rcases ha with rfl|rfl|rfl|rfl|rfl
   ·exact Kl
   ·exact aS U.Qo
   ·exact aS MW
   ·exact aS e1
   ·exact aS e2
  exact(oN.pj _ _ (a5 We))▸(U.un a ha)
 have CP:Bx (D.put s.heap.objs.size (.fz {cls:=.type "tuple", data:=.seq #[mx,my]})) h2 (MZ [z,TI,TO,i1,i2] h2):=M0 unS
 have hr:oR T (D.put s.heap.objs.size (.fz {cls:=.type "tuple", data:=.seq #[mx,my]})) φ (.ref s.heap.objs.size) (.tup [l[i],k[i]]) :=
  .tup (oN.oV ..) (by simp[qf]) (.cons (rx.mono g2.le (ao _)) (.cons (ry.mono g2.le (ao _)) .nil))
 refine ae (hG _ _ _ _ _ _ _ _ (P2.hide CP) (hr.mono (Bx.sub λa o e=>(CP a o e).1).le (ao _)) (KX.toK (KX.rL k1 (λa o e=>(CP a o e).1) (λu_ u_ u_ u_ u_ t=>t) λu CT u' s2 D2 Mm e2 g2' Ai u_ k2=>?_) (P2.hide CP).uniq));have P3:=P2.zR g2';refine ae (hb _ _ _ _ _ _ (P3.hide Ai) (KX.rL k2 (λa o e=>(Ai a o e).1) (λu_ u_ u_ u_ nl t=>sC.nl nl t) λf ZK mf s3 D3 TU e3 g3 Qi hf k3=>?_));have P4:=P3.zR g3;have Gv:=((gg.x P.uniq).trans g2').trans g3
 induction f using Fl.casesOn with
 |next =>
  cases mf with
  |next =>
   have O:∀a∈[z,TI,TO,i1,i2],∀o,h2.get? a=some o->s3.heap.get? a=some o:=λa ha o e=>(Qi a o ((IE ha).trans e)).2
   have Pe:∀a∈[z,TI,TO,i1,i2],D3 a=none:=λa ha=>by
    have:∃o,h2.get? a=some o:=by
     refine(let C:Prop:=_;(?_:C))
     refine o8 (q1.1) λo1 e1 u_=>?_;refine(let C:Prop:=_;(?_:C))
     refine o8 (q2.1) λo2 e2 u_=>?_;simp only[bk,bf,dn]at ha;refine(let C:Prop:=_;(?_:C))
     rcases ha with rfl|rfl|rfl|rfl|rfl
     ·exact⟨_,qz2⟩
     ·exact⟨_,H.extBut _ _ (b3 M.Yx) (hk _ _ (b3 M.Yx) M.TITO M.TIi1 M.TIi2 U.Qo)⟩
     ·refine(let C:Prop:=_;(?_:C))
      exact⟨_,H.extBut _ _ (b3 M.Sv) YA⟩
     ·exact⟨_,H.extBut _ _ (b3 M.W6) e1⟩
     ·exact⟨_,H.extBut _ _ (b3 M.Yy) e2⟩
    obtain⟨o,e⟩:=this;exact(Qi a o ((IE ha).trans e)).1
   refine aj ⟨rfl,ih _ _ _ _ _ P4 ⟨O z (by simp) _ qz2,O TI (by simp) _ (H.extBut _ _ (b3 M.Yx) (hk _ _ (b3 M.Yx) M.TITO M.TIi1 M.TIi2 U.Qo)),
    (zD _ _ (O TO (by simp) _ (H.extBut _ _ (b3 M.Sv) YA))),q1.1.at λo e=>O i1 (by simp) _ (H.extBut _ _ (b3 M.W6) e),q2.1.at λo e=>O i2 (by simp) _ (H.extBut _ _ (b3 M.Yy) e),Pe⟩
    (Gv.le _ _ hl1 rfl) (r1.mono Gv.le Gv.pre) (Gv.le _ _ TJ rfl) (r2.mono Gv.le Gv.pre) k3⟩
  |_=>exact hf.elim
 |ret v =>
  cases mf with
  |ret mv=>exact aj (k3.ok (b:=gN mv) (P4.here.x P4.uniq) hf)
  |_=>exact hf.elim
theorem yZ (F:qi T c env A) {O:af aI} {U:Nat} {Y:Pos} {body:af cW} (hG:SimG T c env A (assign (.Tuple O U Y) env) (λv s=>o4 c (.Tuple O U Y) v s)) (hb:ui T c env A (execs body env) (o7 c body))
  {l k:af V} {xs ys:bx ag} {n1 n2:Nat} {z TI TO i1 i2 l1 l2:ay} (M:wN z TI TO i1 i2 [i1,l1] [i2,l2]) (o:l1≠i1) (C:l2≠i2) :
  ∀(n i:Nat),l.length=i+n->i<=k.length->zr T c env A O U Y body l k xs ys n1 n2 z TI TO i1 i2 l1 l2 i
 |0,i,pd,H=>IF F M o C (ak pd.symm) H (.inl pd.symm)
 |n+1,i,pd,H=>(ku i k.length).elim (λh=>M3 F hG hb M o C (by exact ye (.a .x (.a .y (.n 1))) .z (.a .x (.n 1)) .z rfl (ak pd.symm)) h (yZ F hG hb M o C n (i+1) (by exact aZ (ye .x (.a .y (.a .z (.n 1))) .x (.a (.a .y (.n 1)) .z) rfl (ak pd)) (ye (.a .x (.a .y (.n 1))) .z (.a (.a .x (.n 1)) .y) .z rfl (ak pd.symm))) h)) (λh=>IF F M o C (by exact ye (.a .x (.a .y (.n 1))) .z .x .z rfl (ak pd.symm)) H (.inr (aZ H h)))
theorem E9 {l1 l2:ay} {xs ys:bx ag} {Q:ag->ah->Prop} (z:s.heap.IsTuple l1 xs) (H:s.heap.IsList l2 ys)
  (h:∀h',iv h' (s.heap.objs.size+4) (s.heap.objs.size+2) (s.heap.objs.size+3) .none->el h' (s.heap.objs.size+2) (.ref s.heap.objs.size) (.ref (s.heap.objs.size+1)) ->
   el h' (s.heap.objs.size+3) .none .none->h'.IsTupleIter s.heap.objs.size l1 0->h'.IsListIter (s.heap.objs.size+1) l2 0->h'.objs.size=s.heap.objs.size+5 ->
   (∀c o,s.heap.get? c=some o->h'.get? c=some o)->Q (.ref (s.heap.objs.size+4)) {s with heap:=h'}) :
  wpAny (model T.prog T.w) A (call (.type "zip") [.ref l1,.ref l2]) Q E s:=by
 refine lH F.called_zip (rfl) (F.typeCall_zip_2 _ _) (F.newCall_zip_2 _ _) (λobj=>F.args_object_init_3 obj _ _) F.entry_zip_new
  (Dn l1 l2 xs ys) (qB z H (λh1 h2 M h4 y e1 e2 O U Y=>?_))
 refine(let C:Prop:=_;(?_:C))
 have z1:h1.objs.size=s.heap.objs.size+1:=rg (e1 ..) (cK ..);have z2:h2.objs.size=s.heap.objs.size+2:=rg (e2 ..) (rg (cK ..) (rg (z1 ..) rfl));have z3:M.objs.size=s.heap.objs.size+3:=rg (O ..) (rg (cK ..) (rg (z2 ..) rfl));have z4:h4.objs.size=s.heap.objs.size+4:=rg (U ..) (rg (cK ..) (rg (z3 ..) rfl));have z5:y.objs.size=s.heap.objs.size+5:=rg (Y ..) (rg (cK ..) (rg (z4 ..) rfl));have u2:∀c o,h1.get? c=some o->h2.get? c=some o:=λc o e=>rg (e2 ..) (aq _ e);have u3:∀c o,h2.get? c=some o->M.get? c=some o:=λc o e=>rg (O ..) (aq _ e);have u4:∀c o,M.get? c=some o->h4.get? c=some o:=λc o e=>rg (U ..) (aq _ e);have u5:∀c o,h4.get? c=some o->y.get? c=some o:=λc o e=>rg (Y ..) (aq _ e)
 have g5:y.get? (s.heap.objs.size+4)=some {cls:=.type "zip", data:=.fields #[.none,.bool false,.bool false,.ref (s.heap.objs.size+2),.ref (s.heap.objs.size+3)]}:=by
  refine rg (Y) ?_;refine(z4)▸?_;refine(z2)▸?_;refine(z3)▸?_;exact aF _ rfl
 have g4:y.get? (s.heap.objs.size+3)=some {cls:=.type "tuple", data:=.seq #[.none,.none]}:=u5 _ _ (rg (U ..) (rl (z3 ..) (aF _ rfl)));have g3:y.get? (s.heap.objs.size+2)=some {cls:=.type "tuple", data:=.seq #[.ref s.heap.objs.size,.ref (s.heap.objs.size+1)]}:=u5 _ _ (u4 _ _ (rg (O ..) (rl (z2 ..) (rl (z1 ..) (aF _ rfl)))));have g2:y.get? (s.heap.objs.size+1)=some {cls:=.type "list_iterator", data:=.fields #[.ref l2,.int 0 0]}:=u5 _ _ (u4 _ _ (u3 _ _ (rg (e2 ..) (rl (z1 ..) (aF _ rfl)))));have g1:y.get? s.heap.objs.size=some {cls:=.type "tuple_iterator", data:=.fields #[.ref l1,.int 0 0]}:=u5 _ _ (u4 _ _ (u3 _ _ (u2 _ _ (rg (e1 ..) (aF _ rfl)))));refine(?_:_/\_);refine rg (z4 ..) ?_;exact⟨(o5 _ g5 rfl),h _ g5 g3 g4 (qZ _ g1 rfl rfl) (qZ _ g2 rfl rfl) z5 λc o x=>u5 _ _ (u4 _ _ (u3 _ _ (u2 _ _ (rg (e1 ..) (aq _ x)))))⟩
set_option tactic.hygienic true in
theorem Hm (F:qi T c env A) (H:∀e,pT T c env A e) {y:af aI} {M:Nat} {O:Pos} {body:af cW} (hG:SimG T c env A (assign (.Tuple y M O) env) (λv s=>o4 c (.Tuple y M O) v s)) (hb:ui T c env A (execs body env) (o7 c body))
  {U a b:aI} (hz:xe c U=some (a,b)) {Q:kZ->ah->Prop} (P:pI T D φ c env A st s)
  (k:KX T D φ c env (sC T) ((rG c (.Tuple y M O) U st).bind λitems s=>vh (λv s=>o4 c (.Tuple y M O) v s) (λs=>o7 c body s) items s) Q E) :
  wpAny (model T.prog T.w) A (do let x <- dX U env (<- eval U env);gQ U.pos;mS (.forLoop (.Tuple y M O) (<- fJ [x] (pyIter x)) body [] env) env) Q E s:=by
 unfold rG at k;rw[hz]at k;dsimp only at k;rw[aO (show xg (ic y M O)=true from rfl)]at k;refine y9 (Kn hz) λf p pos WY hf=>?_;subst WY;simp only[aw,aw,aw]at hf;refine(let C:Prop:=_;(?_:C))
 obtain⟨⟨⟨hf1,hf2⟩,pa⟩,pb⟩:=hf;have hl:c.names.lookup f=some .globalImplicit:=beq_iff_eq.mp hf2;have VQ:=beq_iff_eq.mp hf1;subst VQ;refine qA (F.top.Wj ("zip", .type "zip") (by simp[qx])) λb1 b2=>?_
 rw[R.bind_assoc]at k;refine ae (lB rfl (sj F P hl b1 b2 ?_));refine(rV pos (show[a,b].all pG=true by simp[pa,pb])).symm▸?_
 refine gu (P:=λu_=>fh) rfl (λh u_=>ua (.inr ⟨_,rfl⟩) h) ?_;refine eI (cZ (H a _ _ _ _ _ _ P (KX.o3 k P.uniq λv CU mv s1 D1 Tz e1 g1 r1 k1=>?_)));have P1:=P.good g1;simp only[R.bind_assoc]at k1;refine cZ (H b _ _ _ _ _ _ P1 (KX.o3 k1 P1.uniq λv2 CT mv2 o D2 Y e2 g2 r2 k2=>er ⟨trivial,?_⟩));have P2:=P1.good g2;have r1':=oR.mono r1 g2.le g2.pre;clear k k1;refine(let C:Prop:=_;(?_:C))
 refine IB k2.1 λl e n=>?_;subst e;refine PS n λkk e=>?_;subst e;refine vp (r1'.rN) λa1 xs n1 Z1 p q rs=>?_;subst Z1;refine vp (r2.lst_inv) λa2 ys n2 e6_ p2 q2 rs2=>?_;subst e6_;have Xc:o.heap.IsTuple a1 xs:=⟨_,P2.heap p,rfl,n1,rfl⟩;have Xd:o.heap.IsList a2 ys:=⟨_,P2.heap p2,rfl,n2,rfl⟩;have YB:a1<o.heap.objs.size:=aS (P2.heap p);have lt2:a2<o.heap.objs.size:=aS (P2.heap p2);refine E9 Xc Xd λh' qz qTI YA q1 q2' hsz hk=>?_;have g3:Good T D2 Y D2 Y c env CT {o with heap:=h'}:=P2.grown (tk:=o.toks) hk
 have P3:=P2.good g3;refine ae (aj ?_);refine ae (bh ?_);refine ae (a7 (wpAny_pyIter_zip qz ?_));refine i9 ?_;have big:∀j,D2 (o.heap.objs.size+j)=none:=λj=>P2.unknown (bJ _ _);refine yZ F hG hb (l:=l) (k:=kk) (xs:=xs) (ys:=ys) (l1:=a1) (l2:=a2) (z:=o.heap.objs.size+4) (TI:=o.heap.objs.size+2) (TO:=o.heap.objs.size+3) (i1:=o.heap.objs.size) (i2:=o.heap.objs.size+1) (M1 YB lt2) (a5 YB) (a5 (lY lt2)) l.length 0 (by exact aZ (sO  .x (.a (.n 0) .x) rfl ) (sO  (.a (.n 0) .x) .x rfl )) (by exact sO  (.n 0) .x rfl ) _ _ _ _ _ P3 ⟨qz,qTI,(zD _ _ YA),q1,q2',λa ha=>?_⟩ p rs p2 rs2 ?_
 case refine_1 =>
  simp only[bk,bf,dn]at ha;rcases ha with rfl|rfl|rfl|rfl|rfl
  ·exact big 4
  ·exact big 2
  ·exact big 3
  ·exact big 0
  ·exact big 1
 case refine_2 =>
  exact KX.Kd (KX.sub k2 (g3.x P2.uniq)) P3.GJ P3.base
end
theorem qQ:Slot "reversed" "__next__" "reversed.__next__" :=
 .of (owner:="reversed") (n:="__next__") (by rw[dQ,cU];kernel_rfl) (by decide +kernel) (by decide +kernel) (by decide +kernel)
  (by first|exact .inl (by decide +kernel)|exact .inr (by decide +kernel)) (by rw[dp];kernel_rfl)
theorem vJ:jc table "reversed.__next__"=some c0.«reversed.__next__»:=jA (by kernel_rfl)
theorem vj(a:ag):lJ "reversed.__next__" ⟨[a],[]⟩:=by
 kernel_rfl
theorem sU:Slot "reversed" "__iter__" "reversed.__iter__" :=
 .of (owner:="reversed") (n:="__iter__") (by rw[dQ,cU];kernel_rfl) (by decide +kernel) (by decide +kernel) (by decide +kernel)
  (by first|exact .inl (by decide +kernel)|exact .inr (by decide +kernel)) (by rw[dp];kernel_rfl)
theorem vk(a:ag):lJ "reversed.__iter__" ⟨[a],[]⟩:=by
 kernel_rfl
theorem vK:jc table "reversed.__iter__"=some c0.«dict_keyiterator.__iter__» :=
 ki (id':="dict_keyiterator.__iter__") (by kernel_rfl) (by first|rfl|decide +kernel|(unfold String.splitOn;simp +decide [String.splitOnAux])) (by decide +kernel) (by kernel_rfl)
theorem BE:Slot "reversed" "__init__" "object.__init__" :=
 .of (owner:="object") (n:="__init__") (by rw[dQ,cU];kernel_rfl) (by decide +kernel) (by decide +kernel) (by decide +kernel)
  (by first|exact .inl (by decide +kernel)|exact .inr (by decide +kernel)) (by rw[dp];kernel_rfl)
theorem Hn:TypeCalled "reversed" "reversed.__new__" "object.__init__" :=
 ⟨by decide +kernel,by decide +kernel,(zD _ _ F.mro_reversed),F.made_reversed,by decide +kernel,by rw[dp];kernel_rfl,BE⟩
theorem yy:fS (.type "tuple") "__reversed__"=pure none:=by rw[dQ,cU];kernel_rfl
theorem zh:iy (.type "tuple") (.type "dict")=pure false:=by rw[dp];kernel_rfl
section
variable{prog:b0}{w:bQ}{A:aX}{E:ag->ah->Prop}{s:ah}
noncomputable def M4(t:ay)(i:Int):Obj:={cls:=.type "reversed", data:=.fields #[.ref t,c7 i]}
theorem BF(t:ay)(items:bx ag) :
  Meets (c0.«reversed.__new__» ⟨[.type "reversed", .ref t],[]⟩) (λu_ R s=>mq s.heap t items/\(items.size:Int)<2^63/\∀tk,R (.ok (.ret (.ref s.heap.objs.size))) {s with heap:=s.heap.push (M4 t ((items.size:Int)-1)),toks:=tk}) :=
 .of_wp λprog w A R s h=>by
  refine y8 (h) λht hsz h=>?_;refine ae (cw (newClass_reversed _) ?_)
  try dsimp only
  refine ae (cw (a:=()) (by first|rfl|kernel_rfl) ?_)
  refine ae (cw (a:=()) (by first|rfl|kernel_rfl) ?_)
  try dsimp only
  refine ae (eg ht.typeIs yy ?_)
  try dsimp only
  refine ae (ae (fc ht.typeIs zh ?_));refine ae (eg ht.typeIs slot_tuple_getitem.lookup ?_);refine aj ?_;refine ae (iH ht hsz ?_);refine ae (cw (a:=some (items.size:Int)) rfl ?_);refine ae ?_;unfold l7;refine aV (aj (o5 _ rfl (h _)))
theorem M5 {t:ay} {items:bx ag} {Q:ag->ah->Prop} (ht:mq s.heap t items) (hsz:(items.size:Int)<2^63)
  (h:∀tk,Q (.ref s.heap.objs.size) {s with heap:=s.heap.push (M4 t ((items.size:Int)-1)),toks:=tk}):wpAny (model prog w) A (call (.type "reversed") [.ref t]) Q E s :=
 lH Hn (rfl) (F.typeCall_reversed_1 _) (F.newCall_reversed_1 _) (λobj=>F.args_object_init_2 obj _) F.entry_reversed_new (BF t items)
  (qB ht hsz (λtk=>⟨(o5 _ (aF _ rfl) rfl),h tk⟩))
noncomputable def y0(h:bP)(a t:ay)(i:Int):Prop:=∃o,h.get? a=some o/\o.cls=.type "reversed"/\o.data=.fields #[.ref t,c7 i]
theorem y0.typeIs{a t:ay}{i:Int}(x:y0 s.heap a t i):s.TypeIs (.ref a) "reversed":=x.elim λo h=>o5 o h.1 h.2.1
theorem BG {z t:ay} {i:Nat} {items:bx ag} {x:ag} {Q:au ag->ah->Prop} (zd:y0 s.heap z t (i:Int)) (ht:mq s.heap t items) (hx:items[i]?=some x) (hsz:(items.size:Int)<2^63)
  (C:∀h' tk,y0 h' z t ((i:Int)-1)->fm z s.heap h'->Q (some x) {s with heap:=h',toks:=tk}):wpAny (model prog w) A (pyNext (.ref z)) Q E s:=by
 refine tq (id zd) λo ho hc hd=>?_
 have ug:i<items.size:=by
  refine(ku i items.size).elim (λh=>?_) (λh=>?_)
  ·exact h
  ·rw[ef h]at hx;exact(nS hx).elim
 refine ae (dR (bU (name:=aa "__next__") zd.typeIs qQ
  (bE qQ zd.typeIs vJ ?_ (vj _))))
 refine ae (cw (a:=(aH z,[])) rfl ?_)
 try dsimp only
 refine ae (bg ho hd (x:=.ref t) rfl ?_);refine ae (bg ho hd (x:=c7 (i:Int)) rfl ?_);refine(?_:wpAny _ _ (if(i:Int)<0 then _ else _) _ _ s)
 refine ae (eg ht.typeIs slot_tuple_getitem.lookup ?_);show wpAny _ _ (if(some (cQ "tuple.__getitem__")).isNone=true then _ else _) _ _ s
 refine ae (wpAny_mkInt (ae (dR (oq ht (j:=i) (by exact vf (.n 0) .x (.g 9223372036854775807) .x rfl (bq _)) (by exact R5 (.a .x (.n 1)) (.n 9223372036854775808) (.a .y (.n 1)) .x (.a .y (.n 1)) (.n 9223372036854775808) rfl hsz (eo.2 ug)) ?_ hx ?_))))
 ·unfold nK;have h0:¬(i:Int)<0:=by exact dt.2 (bq _)
  simp[h0,ug]
 refine ae (bg ho hd (x:=c7 (i:Int)) rfl ?_);refine ae (cv ho hd (by simp) ?_)
 refine aj (o5 x rfl (aj (C _ _ ?_ (bK ..))))
 exact⟨_,bu _ ho (b6 (bS hd _)),(lX ..).trans hc,by
  rw[bS hd];simp⟩
theorem Dp {y t:ay} {Q:au ag->ah->Prop} (hh:A.handled=none) (zd:y0 s.heap y t (-1))
  (z:∀h',nZ y s.heap h'->Q none {s with heap:=h'}):wpAny (model prog w) A (pyNext (.ref y)) Q E s:=by
 refine tq (id zd) λo ho hc hd=>?_
 refine ae (dR (bU (name:=aa "__next__") zd.typeIs qQ
  (bE qQ zd.typeIs vJ ?_ (vj _))))
 refine ae (cw (a:=(aH y,[])) rfl ?_)
 try dsimp only
 refine ae (bg ho hd (x:=.ref t) rfl ?_);refine ae (bg ho hd (x:=c7 (-1)) rfl ?_);refine(?_:wpAny _ _ (if(-1:Int)<0 then _ else _) _ _ s)
 refine ae (fb ?_);refine ae (ae (cv ho hd (by simp) ?_))
 have Sk:=bS hd (·.setIfInBounds 1 (c7 (-1)));have ho2:=bu (da (·.setIfInBounds 1 (c7 (-1)))) ho (b6 Sk);refine cv ho2 Sk (by simp) ?_
 first
 |show wpAny _ _ (newExc (.type "StopIteration") [] >>= _) _ _ _
 |(refine ae ?_;refine(?_:wpAny _ _ (newExc (.type "StopIteration") [] >>= _) _ _ _))
 refine ae ?_;simp only[newExc,newTuple];refine ae (aV ?_ (by size_fits))
 refine ae (m:=eE _ _) (cw (a:=cf) (by first|rfl|(simp only[eE];rfl)) ?_)
 refine aV ?_ (by size_fits)
 refine ae (kN ?_)
 first|rw[show A.in1.handled=none from hh]|rw[hh]
 refine ae (aj (jI ?_));refine ae (fc (T:="StopIteration") (b:=true) (o5 _ (aF _ rfl) rfl) kf ?_);exact aj (z _ (((((bK ..).extBut).trans ((bK ..).extBut)).push _).push _))
theorem Ko(hh:A.handled=none)(I t:ay)(sx:t≠I)(items:bx ag)(hsz:(items.size:Int)<2^63) :
  Walks prog w A I [I,t] [I] items.size (λi v=>items[items.size-1-i]?=some v) (λi h=>i<=items.size/\y0 h I t ((items.size:Int)-1-(i:Int))/\mq h t items) where
 sub:=λb hb=>by simp at hb;simp[hb]
 frame:=λu_ u_ u_ x hk=>(qB x.1 (let⟨o,ho,r⟩:=x.2.1;(o5 o (hk I (by simp) o ho) r)) (let⟨o,ho,r⟩:=x.2.2;(o5 o (hk t (by simp) o ho) r)))
 item:=λi s Q E hi x D=>by
  have e:(items.size:Int)-1-(i:Int)=((items.size-1-i:Nat):Int):=((nB (Nat.le_sub_one_of_lt hi)).trans (aD (· - (i:Int)) (nB (iD hi)))).symm;have hx0:items.size-1-i<items.size:=cI (aP _ _) (Nat.sub_lt (iD hi) kR);have zd:=x.2.1;simp only[e]at zd;have hx:items[items.size-1-i]?=some (items[items.size-1-i]'(hx0)):=bV hx0;refine BG zd x.2.2 hx hsz λh' tk C H=>?_;have e2:((items.size-1-i:Nat):Int)-1=(items.size:Int)-1-((i+1:Nat):Int):=(aD (· - (1:Int)) e.symm).trans (Int.sub_sub _ _ _);rw[e2]at C;exact D _ h' tk hx (qB hi C (let⟨o,ho,r⟩:=x.2.2;(o5 o ((H.2 t sx).trans ho) r))) λb o hb M=>H.extBut b o (λh=>hb (by simp[h])) M
 done:=λs Q E x D=>by
  have e:(items.size:Int)-1-(items.size:Int)=-1:=by exact mL (S5  (w:=0) (z:=0) (y:=0) (.s (.s .x (.n 1)) .x) (.g 0) rfl ) (S5  (w:=0) (z:=0) (y:=0) (.g 0) (.s (.s .x (.n 1)) .x) rfl )
  have zd:=x.2.1;simp only[e]at zd;exact Dp hh zd λh' O=>D h' s.toks λb o hb M=>O b o (λh=>hb (by simp[h])) M
 self:=λu_ s Q E x D=>by
  refine gm x.2.1.typeIs sU (bE sU x.2.1.typeIs vK ?_ (vk _));exact aj ⟨_,rfl,"reversed", _,x.2.1.typeIs,qQ.lookup,D⟩
end
theorem Kp{c:MC}{o a:aI}(h:xf c o=some a):∃f p q,o=.Call (.Name f p) [a] [] q/\(f==aa "reversed"&&qw c f&&pG a)=true :=
 qH h λr h1 h=>qH h λf h2 h=>qH h λq C h=>qA (tM h) λh4 y=>qA (Bool.and_eq_true_iff.mp h4) λH z =>
  p8 (yj h1) λp e1=>p8 (uy h2) λp2 e2=>zb f p2 p (rg (e1 ..) (rg (e2 ..) (rg (yk C) (rg (ai y) (rg (List.isEmpty_iff.mp H) rfl))))) (by rw[ai y]at z;exact z)
section
variable{T:pg}{D D' D₁:oN}{φ ph:af ay}{c:MC}{env:Env}{A:aX}{st tm:St}{s s':ah}{E:ag->ah->Prop}
theorem M6(F:qi T c env A)(P:pI T D φ c env A st s){R t:ay}{xs:bx ag}{n:Nat}{l:af V}(hR:y0 s.heap R t ((xs.size:Int)-1))(sx:t≠R)(p:D t=some (.fz {cls:=.type "tuple", dict:=none,data:=.seq xs n,slots:=#[]}))(z:xs.size<=qf)(rs:oK T D φ xs.toList l) :
  tA T A D φ R s.heap 0 l.reverse:=by
 have hl:xs.size=l.length:=rl (rs.length ..) (rg (aM ..) rfl);refine⟨_,_,_,_,Ko F.hd R t sx xs (EU z),⟨bL _,by simpa using hR,⟨_,P.heap p,rfl,n,rfl⟩⟩,?_,?_,?_,?_⟩
 ·simp only[dw,hl]
 ·intro i v hi e;refine(let C:Prop:=_;(?_:C))
  have ug:i<l.length:=by exact uJ .x .y (.a .z (.n 1)) .x (.a .z (.n 1)) .y rfl (ak hl) hi
  refine(let C:Prop:=_;(?_:C))
  refine o8 (rs.at (aW (cI (aP _ _) (Nat.sub_lt (iD ug) kR):l.length-1-i<l.length))) λH e1 e2=>?_;replace e1:=(cD)▸e1;replace e1:=(hl).symm▸e1;replace e1:=(e)▸e1;refine(let C:Prop:=_;(?_:C))
  obtain rfl:=ai e1;refine o5 _ ?_ e2;simp only[List.getElem?_reverse ug];exact aW _
 ·rintro i h ⟨_,⟨o,ho,hc,_⟩,_⟩;exact tD o _ ho hc (by simp)
 ·intro b hb;simp only[bk,bf,dn]at hb;refine(let C:Prop:=_;(?_:C))
  rcases hb with rfl|rfl
  ·exact .inl rfl
  ·exact .inr ⟨_,p⟩
theorem Kq{o:aI}(h:∀es k p,o≠.Set es k p)(x:ag):dX o env x=pure x:=by
 induction o using aQ<;>first|rfl|exact absurd rfl (h _ _ _)
theorem Ho (F:qi T c env A) (H:∀e,pT T c env A e) {t O a:aI} {body:af cW} (hG:SimG T c env A (assign t env) (λv s=>o4 c t v s)) (hb:ui T c env A (execs body env) (o7 c body))
  (hz:xf c O=some a) {Q:kZ->ah->Prop} (P:pI T D φ c env A st s)
  (k:KX T D φ c env (sC T) (((oO c a st).bind λx s=>VE x λl=>R.ok l.reverse s).bind λitems s=>vh (λv s=>o4 c t v s) (λs=>o7 c body s) items s) Q E) :
  wpAny (model T.prog T.w) A (do let x <- dX O env (<- eval O env);gQ O.pos;mS (.forLoop t (<- fJ [x] (pyIter x)) body [] env) env) Q E s:=by
 refine y9 (Kp hz) λf p pos U hf=>?_;subst U;simp only[aw,aw]at hf;refine(let C:Prop:=_;(?_:C))
 obtain⟨⟨Y,hf2⟩,pa⟩:=hf;have hl:c.names.lookup f=some .globalImplicit:=beq_iff_eq.mp hf2;have VQ:=beq_iff_eq.mp Y;subst VQ;obtain⟨b1,b2⟩:=F.top.Wj ("reversed", .type "reversed") (by simp[qx])
 simp only[R.bind_assoc]at k;refine ae (lB rfl (sj F P hl b1 b2 ?_));refine(rV pos (show[a].all pG=true by simp[pa])).symm▸?_
 refine(let TM:_->ah->Prop:=_;let WW:ag->ah->Prop:=_;(?_:wpAny _ _ _ TM WW _))
 refine gu (P:=λu_=>fh) rfl (λh u_=>ua (.inr ⟨_,rfl⟩) h) ?_;refine(let WX:_->ah->Prop:=_;let Tx:ag->ah->Prop:=_;(?_:wpAny _ _ _ WX Tx _))
 refine eI (cZ (H a _ _ _ _ _ _ P (KX.o3 k P.uniq λv CU mv o D1 y e1 g1 r1 k1=>er ⟨trivial,?_⟩)));refine(let C:Prop:=_;(?_:C))
 have P1:=P.good g1;clear k;refine IB k1.1 λl e u_=>?_;subst e;refine vp (r1.rN) λa1 xs n1 WY p z rs=>?_;subst WY;have ht:mq o.heap a1 xs:=⟨_,P1.heap p,rfl,n1,rfl⟩;have YB:a1<o.heap.objs.size:=aS (P1.heap p);refine M5 ht (EU z) λtk=>?_;have g3:Good T D1 y D1 y c env CU {o with heap:=o.heap.push (M4 a1 ((xs.size:Int)-1)),toks:=tk}:=P1.grown (tk:=tk) λu_ u_ e=>aq _ e
 have P3:=P1.good g3;have hR:y0 (o.heap.push (M4 a1 ((xs.size:Int)-1))) o.heap.objs.size a1 ((xs.size:Int)-1):=(qZ _ (aF _ rfl) rfl rfl);have WE:tA T A D1 y o.heap.objs.size (o.heap.push (M4 a1 ((xs.size:Int)-1))) 0 l.reverse:=M6 F P3 hR (a5 YB) p z rs;refine ae (aj ?_);refine ae (bh ?_);refine ae (a7 ?_);refine(let W4:_->ah->Prop:=_;(?_:wpAny _ _ _ W4 _ _))
 refine(let W5:ag->ah->Prop:=_;(?_:wpAny _ _ _ _ W5 _))
 refine gm hR.typeIs sU (bE sU hR.typeIs vK ?_ (vk _));refine aj ⟨_,rfl,"reversed", _,hR.typeIs,qQ.lookup,?_⟩;refine(let M:ag->ah->Prop:=_;(?_:wpAny _ _ _ _ M _))
 refine i9 ?_;refine yX F hG hb (all:=l.reverse) l.reverse.length 0 (by exact aZ (sO  .x (.a (.n 0) .x) rfl ) (sO  (.a (.n 0) .x) .x rfl )) P3 WE P1.pO.fresh ?_
 exact KX.Kd (KX.sub k1 (g3.x P1.uniq)) P3.GJ P3.base
theorem Xe(F:qi T c env A)(H:∀e,pT T c env A e)(G:∀e,SimG T c env A (assign e env) (λv s=>o4 c e v s)){t z:aI}{b o:af cW}{p:Pos}(hb:ui T c env A (execs b env) (o7 c b)):wL T c env A (.For t z b o p):=λD φ st s Q E P k=>by
 dsimp only at k;simp only[WT]at k;split at k
 rotate_left
 ·exact k.oH.elim
 rename_i ho;have Pt:o=[]:=by simpa using ho
 subst Pt;refine(let O:ag->ah->Prop:=_;(?_:wpAny _ _ _ _ O _))
 refine ae (bh ?_);refine(let C:Prop:=_;(?_:C))
 cases hz:xe c z with
 |some U =>
  obtain⟨x,y⟩:=U
  have ht:xg t=true:=by
   cases q:xg t with
   |true=>rfl
   |false =>
    unfold rG at k;rw[hz]at k;rw[q]at k;exact k.oH.elim
  induction t using aQ with
  |Tuple ts tn tp=>exact Hm F H (G _) hb hz P k
  |_=>cases ht
 |none =>
  unfold rG at k;replace k:=(hz)▸k;dsimp only at k;cases hr:xf c z with
  |some a =>
   rw[hr]at k;exact Ho F H (G t) hb hr P k
  |none =>
   rw[hr]at k;dsimp only at k;rw[R.bind_assoc]at k;have hs:∀es kk p,z≠.Set es kk p:=λes kk p q=>by subst q;exact k.1 rfl
   refine ae (H z _ _ _ _ _ _ P (KX.o3 k P.uniq λv Y mv s1 D1 Tz e1 g1 r1 k1=>?_));have P1:=P.good g1;rw[Kq hs];refine ae (aj ?_);refine(let M:ag->ah->Prop:=_;(?_:wpAny _ _ _ _ M _))
   refine ae (bh ?_);refine(let C:Prop:=_;(?_:C))
   cases hi:pR v with
   |none=>replace k1:=(hi)▸k1;exact k1.oH.elim
   |some all =>
    rw[hi]at k1;exact E8 F (G t) hb P1 r1 hi k1
theorem Fb(F:qi T c env A)(H:∀e,pT T c env A e)(G:∀e,SimG T c env A (assign e env) (λv s=>o4 c e v s)){o i e:aI}{sp q:Pos}:wL T c env A (.Assign [.Subscript o i sp] e q):=λD φ st s Q E P k=>by
 dsimp only at k;exact wq F H G (by cases e<;>rfl) (by cases e<;>rfl) rfl P k
theorem Bad.stays{w p:V}{σ:af Cell}{e:ay}(g:Bad T D φ D' ph env w p σ e s)(hb:∀a o,T.b.get? a=some o->D a=some (.fz o)):T.b.StaysIn s.heap:=λa o h=>g.pO a _ (g.le _ _ (hb a o h) rfl)
theorem Hp {x:Sem ag} {pos:Pos} {Q:kZ->ah->Prop} (F:qi T c env A)
  (h:wpAny (model T.prog T.w) A x (λmv M=>∃e H y O z w p σ,mv=.ref e/\(∀a o,T.b.get? a=some o->H a=some (.fz o))/\Bad T H y O z env w p σ e M/\∀s2,Bad T H y O z env w p σ e s2->E (.ref e) s2) E s) :
  wpAny (model T.prog T.w) A (raiseStmt env (some (do let v <- x;gQ pos;pure v)) none) Q E s:=by
 refine ae (ae (cE h (λmv M h=>?_) λu_ u_ x=>x));refine(let C:Prop:=_;(?_:C))
 obtain⟨e,H,y,O,z,w,pp,σ,rfl,hb,g,hE⟩:=h;refine(let U:_->ah->Prop:=_;let Y:ag->ah->Prop:=_;(?_:wpAny _ _ _ U Y _))
 refine ae (bh (aj ?_));refine ae (aj ?_);refine za (id g.L6) λd vs sl hx he hv=>?_;have L:=F.top.Tn M.heap e d vs sl (g.stays hb) he;refine ae (a7 ?_);refine(let TV:_->ah->Prop:=_;let W8:ag->ah->Prop:=_;(?_:wpAny _ _ _ TV W8 _))
 refine ae ?_;refine(let PE:_->ah->Prop:=_;let PF:ag->ah->Prop:=_;(?_:wpAny _ _ _ PE PF _))
 refine ae (L.1.here ?_);refine aj ?_;refine ae (L.2.1.here ?_);refine aj ?_;refine ae (L.1.here ?_);refine ae (L.2.2.1.here ?_);refine ae (B7 g.pO g.L6 λh' I' f'=>?_);refine wpAny_raiseNew_none F.hd (hE _ ⟨g.le,g.pre,I',g.exc,f',g.locals,g.cells,g.gens,g.os⟩)
theorem Uh{vs:af V}{s:St}{C:Prop}(n:uN vs s≠.stuck)(h:∀w p,vs=[w,p]->uN [w,p] s=.ok (.wx w p) s->C):C:=by
 cases vs with
 |nil=>exact(n rfl).elim
 |cons w r=>cases r with
  |nil=>exact(n rfl).elim
  |cons p r=>cases r with
   |nil =>
    by_cases hh:(w.oQ&&p.oQ)=true
    ·exact h w p rfl (aO hh)
    ·exact(n (aT hh)).elim
   |cons _ _=>exact(n rfl).elim
set_option tactic.hygienic true in
theorem Qs(F:qi T c env A)(H:∀e,pT T c env A e){e y:au aI}{p:Pos}:wL T c env A (.Raise e y p):=λD φ st s Q E P k=>by
 induction e using cT with
 |none=>exact(k.1 rfl).elim
 |some e =>
 induction y using cT with
 |some _=>exact(k.1 rfl).elim
 |none =>
 replace k:KX T D φ c env _ (if xh c e=true then(oO c e st).bind λv s=>(match v with|.wx w p=>.rQ w p s.σ|_=>.stuck)else .stuck) Q E:=k
 split at k
 rotate_left
 ·exact k.oH.elim
 rename_i hf;refine Eo hf λf fp M R9 pos e_ VQ Zn=>?_;subst e_;simp only[Lz]at k;split at k
 rotate_left
 ·exact k.oH.elim
 rename_i hk;simp only[aw]at hk;have hkw:R9=[]:=by simpa using hk.1
 subst hkw
 have hp:M.all pG=true:=by
  have:=hk.2;unfold uO at this;simp only[aw,aw]at this;exact this.1.1
 unfold s7 at k;dsimp only at k;split at k
 rotate_left
 ·refine(let C:Prop:=_;(?_:C))
  exact k.oH.elim
 rename_i hg;simp only[aw]at hg;have hl:c.names.lookup f=some .globalImplicit:=beq_iff_eq.mp hg.1
 have pd:tF c f M st=none:=by
  unfold tF;split
  ·rw[aT];subst VQ;decide +kernel
  ·rfl
 rw[pd]at k;dsimp only at k;rw[R.bind_assoc]at k;refine(let C:Prop:=_;(?_:C))
 refine ae (bh ?_);refine(let C:Prop:=_;(?_:C))
 refine Hp F ?_;refine(let C:Prop:=_;(?_:C))
 cases VQ;refine lB rfl (ta F P hl F.top.fl ?_);refine(let U:_->ah->Prop:=_;(?_:wpAny _ _ _ U _ _))
 refine qC P hp (λx u_=>H x) (λh hs=>(o5 .machine (.inr (.inl rfl)) (F.top.CQ _ (.inr rfl) h hs))) (KX.o3 k P.uniq λvs O mvs s1 Y z e1 g1 r1 k1=>⟨(P.good g1).stays,?_⟩);have P1:=P.good g1;unfold qO at k1;rw[Zn]at k1;dsimp only at k1;rw[aT (show ¬(aa "EvalFault"==aa "Evaluator")=true by decide +kernel),aO (show(aa "EvalFault"==aa "EvalFault")=true by simp)]at k1
 refine(let C:Prop:=_;(?_:C))
 refine Uh (vs:=vs) (s:=O) (λq=>k1.1 (rg (q ..) rfl)) λw p e e2=>?_;subst e;rw[e2,R.sT]at k1;refine sF (oK.two r1) λm1 m2 aaq h1 h2=>?_;subst aaq;refine F.top.L8 A E _ s1 m1 m2 P1.stays F.hd F.room F.units λh' e d ws sl x1 t1 x2 t2 n t' hk he hd sx q1 q2 q3 q4=>?_
 have Pe:∀b,s1.heap.get? b=none->Y b=none:=λb hb=>by
  cases q:Y b with
  |none=>rfl
  |some sp=>obtain⟨o,ho⟩:=(P1.pO _ _ q).get;rw[hb]at ho;exact(nS ho).elim
 have g2:Good T Y z (Y.put e (.xc d)) z c env O {s1 with heap:=h',toks:=t'}:=P1.alloc (Pe e he) hk (uL ws sl q1 q2)
 have P2:=P1.good g2;have g3:=P2.more (tk:=t') (h':=h') (λu_ u_ e=>e) ((oN.pj _ _ (b3 sx))▸Pe d hd) q4;have g:=g2.trans g3;refine⟨e,Y,z,_,z,_,_,O.σ,rfl,P1.base,⟨g.le,g.pre,g.pO,.wx ?_ (oN.oV ..) (h1.mono g.le g.pre) (h2.mono g.le g.pre),(zE d ws sl ?_ q1 (.inl q3)),g.link.locals,g.link.cells,g.gens,g.os⟩,λs2 b=>k1.2.2 _ _ _ rfl e s2 _ _ b⟩
 ·rw[oN.pj _ _ sx];exact oN.oV ..
 ·rw[oN.pj _ _ sx];exact oN.oV ..
end
end
section
set_option genInjectivity true
set_option genSizeOf true
open PySem PySem.Calls PyProof.Rows PySem.SeqAt PySem.W PySem.MeetsSeq
noncomputable def oN.noOwn(D:oN):oN:=λa=>match D a with
 |some (.own _ _)=>none
 |x=>x
theorem oN.Fc{D:oN}{a:ay}{sp:Sp}(h:D a=some sp)(hn:∀x vs,sp≠.own x vs):D.noOwn a=some sp:=by
 unfold oN.noOwn;refine rg (h) ?_;cases sp<;>first|rfl|exact absurd rfl (hn _ _)
theorem oN.Fd{D:oN}{a:ay}{sp:Sp}(h:D.noOwn a=some sp):D a=some sp/\∀x vs,sp≠.own x vs:=by
 unfold oN.noOwn at h;cases q:D a with
 |none=>rw[q]at h;exact(nS h).elim
 |some o=>rw[q]at h;cases o<;>first|(cases h;exact⟨rfl,by intro _ _ e;cases e⟩)|cases h
section
variable{T:pg}{D D' D₁:oN}{φ ph:af ay}{c:MC}{env:Env}{A:aX}{st tm:St}{s s':ah}{E:ag->ah->Prop}
theorem M7 {r:R Fl} {k:Str} {Q:kZ->ah->Prop} {y:kZ->ah->Prop} {z:ag->ah->Prop} (o:KX T D φ c env (sC T) (BY r (some k)) Q E) (C:∀f s,Q f s->y f s)
  (H:∀w p σ e s D' ph,Bad T D φ D' ph env w p σ e s->KX T D φ c env (sC T) (.ok (.ret (.tup [.str k,w,p])) ⟨[],σ⟩) Q E->z (.ref e) s):KX T D φ c env (sC T) r y z:=by
 refine qB (λe=>?_) (λa st e b s D' ph g hr=>?_) (λw p σ e x s D' ph g=>?_)
 ·subst e;exact o.1 rfl
 ·subst e;exact C _ _ (o.2.1 a st rfl b s D' ph g hr)
 ·subst e;exact H w p σ x s D' ph g o
theorem Kr{o:Type}{l:af o}{a b c:o}(h:three l=some (a,b,c)):l=[a,b,c]:=by
 rcases l with _|⟨x,_|⟨y,_|⟨z,_|⟨u,r⟩⟩⟩⟩
 ·exact(nS h).elim
 ·exact(nS h).elim
 ·exact(nS h).elim
 ·cases h;rfl
 ·exact(nS h).elim
theorem Au{x a:Str}{e:aI}(h:GB x a e=true):∃p q,e=.Attribute (.Name x p) a q:=by
 induction e using aQ with
 |Attribute o b q =>
  induction o using aQ with
  |Name y p=>refine qA (Bool.and_eq_true_iff.mp h) λh1 h2=>?_;exact zD p q (rg (beq_iff_eq.mp h1) (rg (beq_iff_eq.mp h2) rfl))
  |_=>exact dA h
 |_=>exact dA h
inductive Fe(c:MC):af ee->Str->Prop
 |mk {z ks:Str} {kp tp kp2 yp ap zp bp rp hp:Pos} {tn kn:Nat}:c.names.lookup (aa "EvalFault")=some .globalImplicit->c.names.lookup z=some .local->c.free=[]->(∀y,c.names.lookup y≠some .cell)->b4 ks=true ->
  Fe c [.ExceptHandler (some (.Name (aa "EvalFault") kp)) (some z) [.Return (some (.Tuple [.Constant (.str ks) kn kp2,.Attribute (.Name z yp) (aa "what") ap,.Attribute (.Name z zp) (aa "spot") bp] tn tp)) rp] hp] ks
theorem Ks{hs:af ee}{ks:Str}(hh:qP c hs=some ks):Fe c hs ks:=by
 refine o8 (Option.bind_eq_some_iff.mp hh) λH e0 M=>?_;clear hh;obtain rfl:=yk e0;clear e0;obtain⟨t0,x0,body,hp⟩:=H;refine o8 (Option.bind_eq_some_iff.mp M) λte ZV Yo=>?_;subst ZV;clear M;refine(let C:Prop:=_;(?_:C))
 refine o8 (Option.bind_eq_some_iff.mp Yo) λK eK O=>?_;clear Yo;obtain⟨kp,rfl⟩:=uy eK;clear eK;refine o8 (Option.bind_eq_some_iff.mp O) λz o U=>?_;subst o;clear O;refine qA (tM U) λhc Y=>?_;clear U;simp only[aw,aw,aw]at hc;obtain⟨⟨⟨c1,c2⟩,c3⟩,c4⟩:=hc;obtain rfl:=beq_iff_eq.mp c1;clear c1;have YC:c.names.lookup (aa "EvalFault")=some .globalImplicit:=beq_iff_eq.mp c2;have Sz:c.names.lookup z=some .local:=beq_iff_eq.mp c3;clear c2 c3;refine o8 (Option.bind_eq_some_iff.mp Y) λaas h3 hh6=>?_;obtain⟨ea,eb,ec⟩:=aas;clear Y;refine o8 (Option.bind_eq_some_iff.mp h3) λes h4 e3=>?_;clear h3;obtain rfl:=Kr e3;clear e3;refine o8 (Option.bind_eq_some_iff.mp h4) λre h5 e4=>?_;clear h4;refine uK (Em e4) λtn tp aat=>?_;subst aat;clear e4;refine o8 (Option.bind_eq_some_iff.mp h5) λrs e6 e5=>?_;clear h5;obtain rfl:=yk e6;clear e6;obtain⟨rp,rfl⟩:=LL e5;clear e5;refine o8 (Option.bind_eq_some_iff.mp hh6) λkk e7 hh7=>?_;clear hh6;refine uK (En e7) λkn kp2 e4_=>?_;subst e4_;clear e7;refine qA (tM hh7) λhq hh8=>?_;clear hh7;obtain rfl:=(ai hh8).symm;clear hh8;simp only[aw,aw]at hq;obtain⟨⟨q1,q2⟩,q5⟩:=hq;refine uK (Au q1) λyp ap e6_=>?_;subst e6_;refine uK (Au q2) λzp bp o=>?_;subst o;unfold ux at c4;simp only[aw]at c4;have M8:c.free=[]:=by simpa using c4.2
 have wo:∀y,c.names.lookup y≠some .cell:=λy e=>by
  have:=List.all_eq_true.mp c4.1 _ (mem_of_lookup e);simp at this
 exact .mk YC Sz M8 wo q5
theorem Qt{y:oN}{M:bP}{L t:ay}{m O:Str->au ag}{o:Obj}(hm:y L=some (.ns m))(f5:y t=none)(sx:t≠L)(U:M.Ns L O)(ht:M.get? t=some o)(I:∀a sp,a≠L->y a=some sp->sp.holds T M a) :
  ∃H:oN,y.Le H/\H.In T M/\H t=some (.fz o)/\H L=some (.ns O)/\(∀a x vs,H a≠some (.own x vs))/\∀a z,y a=some (.dct z)->H a=some (.dct z):=by
 have k8:∀a sp,y a=some sp->(∀x vs,sp≠.own x vs)->a≠L->((y.noOwn.put t (.fz o)).put L (.ns O)) a=some sp:=λa sp q hn ha=>by
  refine rg (oN.pj _ _ ha) ?_;refine rg (oN.pj _ _ (by rintro rfl;rw[f5]at q;cases q)) ?_
  exact oN.Fc q hn
 refine⟨(y.noOwn.put t (.fz o)).put L (.ns O),λa sp q hs=>k8 a sp q (by rintro _ _ rfl;cases hs) (by rintro rfl;rw[hm]at q;obtain rfl:=ai q;cases hs),λa sp q=>?_,(oN.pj _ _ sx).trans (oN.oV ..),oN.oV ..,λa x vs q=>?_,λa z q=>k8 a _ q (by intro _ _ e;cases e) (by rintro rfl;rw[hm]at q;cases q)⟩
 ·refine(let C:Prop:=_;(?_:C))
  by_cases ha:a=L
  ·subst ha;rw[oN.oV]at q;obtain rfl:=ai q;exact U
  ·rw[oN.pj _ _ ha]at q;by_cases hb:a=t
   ·subst hb;rw[oN.oV]at q;obtain rfl:=ai q;exact ht
   ·rw[oN.pj _ _ hb]at q;exact I a sp ha (oN.Fd q).1
 ·by_cases ha:a=L
  ·subst ha;rw[oN.oV]at q;exact nomatch q
  ·rw[oN.pj _ _ ha]at q;by_cases hb:a=t
   ·subst hb;rw[oN.oV]at q;exact nomatch q
   ·rw[oN.pj _ _ hb]at q;exact(oN.Fd q).2 _ _ rfl
set_option tactic.hygienic true in
theorem Xf(F:qi T c env A){b:af cW}{hs:af ee}{o f:af cW}{p:Pos}(hb:ui T c env A (execs b env) (o7 c b)):wL T c env A (.Try b hs o f p):=λD φ st s Q E P k=>by
 dsimp only at k;simp only[WU]at k;split at k
 rotate_left
 ·exact k.oH.elim
 rename_i h0;simp only[aw,aw]at h0;have ho:o=[]:=by simpa using h0.1.1
 have hf:f=[]:=by simpa using h0.1.2
 subst ho hf;cases hh:qP c hs with
 |none=>rw[hh]at k;exact k.oH.elim
 |some ks =>
 replace k:=(hh)▸k;obtain⟨YC,Sz,M8,wo,q5⟩:=Ks hh;rename_i z kp tp kp2 yp ap zp bp rp hp tn kn;have ek:=F.ok.loc z Sz;refine ae (bh ?_);refine(let TN:_->ah->Prop:=_;let Z5:ag->ah->Prop:=_;(?_:wpAny _ _ _ TN Z5 _))
 refine wpAny_tryStmt_except (hb _ _ _ _ _ _ P (M7 k (λf s h=>?_) λw p σ e U Y Tz g k1=>?_))
 ·cases f<;>first|exact fC h|exact h
 have M9:∀a o,T.b.get? a=some o->Y a=some (.fz o):=λa o h=>g.le _ _ (P.base a o h) rfl;refine(let PE:_->ah->Prop:=_;let PF:ag->ah->Prop:=_;(?_:wpAny _ _ _ PE PF _))
 refine xn (P.GJ.le g.le) g.pO M9 g.locals g.L6 λh2 I2 f2=>?_;refine uS I2 f2 λh3 I3 f3=>?_;refine(let C:Prop:=_;(?_:C))
 have stays:∀{h:bP},Y.In T h->T.b.StaysIn h:=λI a o e=>I a _ (M9 a o e);refine(let C:Prop:=_;(?_:C))
 obtain⟨m,hm⟩:=g.locals;refine(let C:Prop:=_;(?_:C))
 have aau:=g.exc;refine(let C:Prop:=_;(?_:C))
 cases aau with
 |@wx _ d t1 t2 m1 t3 t4 m2 n _ _ dd Sk r1 r2 =>
 refine wpAny_handleBy_cons ?_ (by intro q;cases q)
 refine codeAny_handlers_test ?_;refine iu F.ok.kind (F.ok.YY _ YC) (ni (by rw[F.ok.glob];exact F.top.g.keeps (stays I3)) F.top.fl ?_) (F.ok.plain _ _ YC).1
 refine(let C:Prop:=_;(?_:C))
 refine tW (I3 _ _ dd) λvs sl he3 hz3=>?_;refine(F.top.Tn h3 _ _ vs sl (stays I3) he3).2.2.2.here ?_;refine codeAny_handlers_suite_as ?_;refine uS I3 f3 λh4 I4 f4=>?_;refine hJ ek (I4 _ _ hm) (λH O VN=>?_) (rg (F.ok.kind ..) rfl);refine(let C:Prop:=_;(?_:C))
 have I5:(Y.put env.locals (.ns λM=>if M=z then some (.ref e)else m M)).In T H:=I4.turn VN O
 refine(let C:Prop:=_;(?_:C))
 have D5k:∀a sp,Y a=some sp->sp.stays=true->(Y.put env.locals (.ns λM=>if M=z then some (.ref e)else m M)) a=some sp:=λa sp q hs=>by
  exact rg (oN.pj _ _ (by rintro rfl;rw[hm]at q;obtain rfl:=ai q;cases hs)) q
 refine(let C:Prop:=_;(?_:C))
 have Na:T.b.StaysIn H:=λa o e=>I5 a _ (D5k a _ (M9 a o e) rfl);refine(let C:Prop:=_;(?_:C))
 refine tW (I5 _ _ (D5k _ _ dd rfl)) λvs5 sl5 he5 Yt=>?_;have Yr:=I5 _ _ (D5k _ _ Sk rfl)
 have SA:∀(tk:Tok)(Q':ag->ah->Prop)(E':ag->ah->Prop)(A':aX)(pp:Pos),Q' (.ref e) {U with heap:=H,toks:=tk}->wpAny (model T.prog T.w) A' (eval (.Name z pp) env) Q' E' {U with heap:=H,toks:=tk}:=λtk Q' E' A' pp hq =>
  d2 (cx F.ok.kind ek O (by simp) hq) (F.ok.plain _ _ Sz).1
 refine(let MV:_->ah->Prop:=_;let Ue:ag->ah->Prop:=_;(?_:wpAny _ _ _ MV Ue _))
 refine nH (nf (Tuple_ ?_));refine rg (rV tp (by rfl)) ?_
 refine(let MS:_->ah->Prop:=_;(?_:wpAny _ _ _ MS _ _))
 refine cZ (lT ?_);refine(let Hl:_->ah->Prop:=_;(?_:wpAny _ _ _ Hl _ _))
 refine cZ (kE (SA _ _ _ _ _ (F.top.GK _ _ _ _ _ _ _ _ _ _ _ _ _ _ _ Na r1.uz he5 Yr λt'=>?_)) ?_)
 rotate_left
 ·show(do let o' <- attributeBase _ _ env (eval _ env);_)=_
  rw[uR rfl]
 refine(let Uc:_->ah->Prop:=_;(?_:wpAny _ _ _ Uc _ _))
 refine cZ (kE (SA _ _ _ _ _ (F.top.GO _ _ _ _ _ _ _ _ _ _ _ _ _ _ _ Na r2.uz he5 Yr λt''=>er ?_)) ?_)
 rotate_left
 ·show(do let o' <- attributeBase _ _ env (eval _ env);_)=_
  rw[uR rfl]
 refine aV ?_ (by size_fits)
 have Xg:env.locals<H.objs.size:=by
  refine y9 (O) λo es ep ho u_=>?_;exact aS ho
 have hn6:(H.push {cls:=.type "tuple", data:=.seq #[.str ks (U.toks+1),m1,m2]}).Ns env.locals (λM=>if M=z then some (.ref e)else m M):=O.push _
 refine(let aaw:_->ah->Prop:=_;(?_:wpAny _ _ _ aaw _ _))
 refine(let aax:ag->ah->Prop:=_;(?_:wpAny _ _ _ _ aax _))
 refine ae (eD (hJ ek hn6 (λh7 hn7 hs7=>?_) (rg (F.ok.kind ..) rfl)));refine dB (wpAny_unbindName_local ek hn7 (v:=.none) (by simp) (rg (F.ok.kind ..) rfl) λh8 u hn8 hs8=>?_)
 have I6:=I5.push {cls:=.type "tuple", data:=.seq #[.str ks (U.toks+1),m1,m2]};have hT6:(H.push {cls:=.type "tuple", data:=.seq #[.str ks (U.toks+1),m1,m2]}).get? H.objs.size=some {cls:=.type "tuple", data:=.seq #[.str ks (U.toks+1),m1,m2]}:=aF _ rfl;have sx:H.objs.size≠env.locals:=bj Xg;have keep:∀a o,a≠env.locals->(H.push {cls:=.type "tuple", data:=.seq #[.str ks (U.toks+1),m1,m2]}).get? a=some o->h8.get? a=some o:=λa o ha e=>(hs8.2 a ha).trans ((hs7.2 a ha).trans e);have f5:(Y.put env.locals (.ns λM=>if M=z then some (.ref e)else m M)) H.objs.size=none:=I5.fresh
 replace f5:=(oN.pj _ _ sx)▸f5;have in8:∀a sp,a≠env.locals->Y a=some sp->sp.holds T h8 a:=λa sp ha q=>(I6 a sp (rg (oN.pj _ _ ha) q)).at λo ho=>keep a o ha ho;refine(let C:Prop:=_;(?_:C))
 obtain⟨D8,YD,i8,t8,l8,n8,c8⟩:=Qt hm f5 sx hn8 (keep _ _ sx hT6) in8
 exact k1.2.1 _ _ rfl (gN (.ref H.objs.size)) _ D8 Tz ⟨g.le.trans YD,g.pre,i8,⟨⟨_,l8⟩,λy b e=>(by cases e),λy e=>absurd e (wo y),λy v e=>(by rw[M8]at e;cases e),g.cells.vl YD.vl c8⟩,g.gens,g.os,λa a' x vs To q u_=>(n8 _ _ _ q).elim⟩
  (.tup t8 (by simp[qf]) (.cons (.str _ _ q5) (.cons (r1.mono YD (ao _)) (.cons (r2.mono YD (ao _)) .nil))))
end
end
section
open PySem PySem.Calls PyProof.Rows PySem.SeqAt PySem.W PySem.MeetsSeq
section
variable{T:pg}{D D' D₁:oN}{φ ph:af ay}{c:MC}{env:Env}{A:aX}{st tm:St}{s s':ah}{E:ag->ah->Prop}
theorem xx{x:cW}(h:∀s,vz c x s=.stuck):wL T c env A x:=λD φ st s Q E P k=>by
 dsimp only at k;rw[h]at k;exact k.oH.elim
theorem SD{o:af cW}(h:∀x∈o,wL T c env A x):ui T c env A (execs o env) (o7 c o):=by
 induction o with
 |nil=>exact WV
 |cons x r ih=>exact TY (h x az) (ih λy hy=>h y (aA _ hy))
theorem Nb(F:qi T c env A)(H:sS T c.call A):∀(n:Nat)(x:cW),sizeOf x<n->wL T c env A x:=by
 intro n
 induction n with
 |zero=>intro x h;exact absurd h (jh _)
 |succ n Y =>
  intro x hsz
  have all:∀C:af cW,sizeOf C<sizeOf x->ui T c env A (execs C env) (o7 c C):=λC hs =>
   SD λy hy=>Y y (by have:=bz hy;exact CJ (.a .x (.n 1)) .y (.a .z (.n 1)) .x (.a .y (.n 1)) (.a .w (.n 1)) (.a .z (.n 1)) .w rfl hs this hsz)
  have M:=λe=>E3 F H e;have ht:=λe=>E4 F H e;have O:=λe=>An F H e;cases x with
  |Return v p =>
   induction v using cT with
   |none=>exact BB
   |some e=>exact BA M
  |Assign U e q =>
   induction U using bN with
   |nil=>exact xx λs=>rfl
   |cons t r =>
    cases r with
    |cons _ _=>exact xx λs=>rfl
    |nil =>
     induction t using aQ with
     |Name y p=>exact Di F M λc' env' F' hc e=>(qB (E3 F' (hc▸H) e) (E4 F' (hc▸H) e) (An F' (hc▸H) e))
     |Tuple U k p=>exact BD F M O
     |Subscript o i p=>exact Fb F M O
     |_=>exact xx λs=>rfl
  |If t b o p=>exact ZU ht (all b (by simp;exact CI  (.a .x (.n 1)) (.a (.a (.a (.a (.n 1) .y) .x) .z) .w) rfl )) (all o (by simp;exact CI  (.a .x (.n 1)) (.a (.a (.a (.a (.n 1) .y) .z) .x) .w) rfl ))
  |For t it b o p=>exact Xe F M O (all b (by simp;lia))
  |While t b o p=>exact Qn F ht (all b (by simp;exact CI  (.a .x (.n 1)) (.a (.a (.a (.a (.n 1) .y) .x) .z) .w) rfl ))
  |Raise e cs p=>exact Qs F M
  |Expr e p=>exact TZ F M
  |Try b hs o f p=>exact Xf F (all b (by simp;lia))
  |_=>exact xx λs=>rfl
theorem Ff(F:qi T c env A)(H:sS T c.call A)(o:af cW):ui T c env A (execs o env) (o7 c o) :=
 SD λx u_=>Nb F H _ x (d1 _)
theorem Av(g:G)(wf n:Nat)(f:Str)(vs:af V)(σ:af Cell):o6 g wf (n+1) f vs σ=match g.fns f with
  |none=>.stuck
  |some fn=>if fn.params.length=vs.length then pS σ.length (o7 ⟨g,o6 g wf n,wf,fn.names,[]⟩ fn.body ⟨qd fn.params vs++qF fn.params fn.names,σ⟩)else .stuck:=rfl
theorem Nc(wf:Nat):∀(n:Nat)(A:aX),A.depth+n+11<cy->A.units+3*n+703<iq->sS T (o6 T.g wf n) A:=by
 intro n
 induction n with
 |zero =>
  intro A _ _ f fn H o C c env F D φ st s mvs vs Q E P r k;exact k.oH.elim
 |succ n ih =>
  intro A hd hu f fn H o C c env F D φ st s mvs vs Q E P r k;rw[Av,o]at k;dsimp only at k;split at k
  rotate_left
  ·exact k.oH.elim
  rename_i pd;refine G8 (cc:=⟨T.g,o6 T.g wf n,wf,fn.names,[]⟩) F C rfl rfl rfl (by exact pZ (.a (.a (.a .x (.a .y (.n 1))) (.n 11)) (.n 1)) (.n 1000) (.a (.a .x (.n 11)) (.n 1)) (.n 1000) rfl hd) (by exact pZ (.a (.a (.a .x (.m 3 (.a .y (.n 1)))) (.n 703)) (.n 1)) (.n 9900) (.a (.a .x (.n 703)) (.n 1)) (.n 9900) rfl hu) (λenv' F'=>Ff F' (ih _ ?_ ?_) _) P r pd k
  ·show A.depth+1+n+11<cy;exact pZ (.a (.a (.a .x (.a .y (.n 1))) (.n 11)) (.n 1)) (.n 1000) (.a (.a (.a (.a .x (.n 1)) .y) (.n 11)) (.n 1)) (.n 1000) rfl hd
  ·show(A.deeper env').units+3*n+703<iq;have:(A.deeper env').units<=A.units+3:=by first|exact aL _|(show _+_<=_;lia)
   exact uJ (.a (.a (.a .x (.m 3 (.a .y (.n 1)))) (.n 703)) (.n 1)) (.n 9900) .z (.a .x (.n 3)) (.a (.a (.a .z (.m 3 .y)) (.n 703)) (.n 1)) (.n 9900) rfl hu this
end
end
section
open PySem PySem.Calls PyProof.Rows PySem.SeqAt PySem.W
theorem Qu {T:pg} {A:aX} {s:ah} {Q E:ag->ah->Prop} (top:Ir T) {fn:Fn} {fa:ay} (hf:FnAt T fn fa) {cc:MC} (U:cc.g=T.g) (Y:cc.names=fn.names) (Wn:cc.free=[]) (hh:A.handled=none) (ZQ:A.frames=some [])
  (hd:A.depth+11<cy) (hu:A.units+703<iq) (body:∀env',qi T cc env' (A.deeper env')->ui T cc env' (A.deeper env') (execs fn.body env') (o7 cc fn.body))
  (hs:s.heap=T.b) (hg:s.gens=T.gens) (Y5:s.os=T.os) {D:oN} (hD:∀a,D a=(T.b.get? a).map .fz) {mvs:af ag} {vs:af V} (r:oK T D [] mvs vs) (pd:fn.params.length=vs.length)
  {v:V} {M:St} (H:pS 0 (o7 cc fn.body ⟨qd fn.params vs++qF fn.params fn.names,[]⟩)=.ok v M)
  (k:∀mv z D₂ y,oR T D₂ y mv v->(∀b o,T.b.get? b=some o->z.heap.get? b=some o)->z.gens=T.gens->z.os=T.os->Q mv z):wpAny (model T.prog T.w) A (call (.ref fa) mvs) Q E s:=by
 have Mu:D.In T s.heap:=λa sp e=>by
  rw[hD]at e;refine o8 (Option.map_eq_some_iff.mp e) λo ho O=>?_;subst O;refine(?_:s.heap.get? a=some o);exact(hs)▸(ho)
 refine Mt top hh hf U Y Wn hd hu Mu (λb o e=>(hs)▸e) (λa o e=>by rw[hD,e];rfl) (σ:=[]) ⟨rfl,.nil,λi c h=>by simp at h⟩ hg Y5 r pd (λD₁ env' u_ u_ eL eF eS=>⟨env',[],by show A.frames.map (env'::·)=_;rw[ZQ];rfl,rfl,λe he=>by
  obtain rfl:=List.mem_singleton.mp he;exact⟨by rw[eS];decide,_,eF,.inl eL.symm⟩⟩) (λenv' D₁ G9 u_ F' P'=>?_)
 refine body env' F' D₁ [] _ _ _ _ P' ?_;have base:=P'.base;generalize TF:o7 cc fn.body ⟨qd fn.params vs++qF fn.params fn.names,[]⟩=re at H;have keep:∀{D₂:oN} {h:bP},D₁.Le D₂->D₂.In T h->∀b o,T.b.get? b=some o->h.get? b=some o:=λle i b o e=>i b _ (le _ _ (base b o e) rfl);have val:∀{w:V} {s' M:St},(if w.oQ then .ok w ⟨[],s'.σ.take 0⟩else .ok w ⟨[],s'.σ⟩:R V)=.ok v M->w=v:=λq=>by split at q<;>(cases q;rfl)
 refine qB (λe=>?_) (λfl abW e f z D₂ y g hr=>?_) (λw p σ e x z D₂ y g=>?_)
 ·refine(let C:Prop:=_;(?_:C))
  subst e;exact nomatch H
 ·subst e;unfold pS at H;refine(let C:Prop:=_;(?_:C))
  induction fl using Fl.casesOn with
  |next =>
   refine(let C:Prop:=_;(?_:C))
   cases f with
   |next =>
    obtain rfl:=val H;exact k _ _ D₂ y .none (keep g.le g.pO) g.gens g.os
   |_=>exact hr.elim
  |ret w =>
   cases f with
   |ret mv =>
    obtain rfl:w=v:=val H;exact k mv _ D₂ y hr (keep g.le g.pO) g.gens g.os
   |_=>exact hr.elim
 ·subst e;unfold pS at H;dsimp only at H;refine(let C:Prop:=_;(?_:C))
  split at H<;>cases H
end
section
open PySem
noncomputable abbrev S(x:cR):Str:=aa x
noncomputable def pD:af cW:=PySem.Challenge.pw_pq0381_01.main.body
noncomputable def tP:cW->Fn
 |.FunctionDef _ ⟨_,a,_,_,_,_,_⟩ b _ _ _ ⟨_,ns,_,_,_⟩ _ _ _=>⟨a.map (·.arg),b,ns⟩
 |_=>⟨[],[],[]⟩
noncomputable def qq:af cW->Nat->cW
 |[],_=>.Pass ⟨0,0,0,0⟩
 |x::_,0=>x
 |_::r,n+1=>qq r n
noncomputable def defAt(i:Nat):Fn:=tP (qq pD i)
noncomputable def ql:cW->af cW
 |.ClassDef _ _ _ b _ _ _ _ _ _ _=>b
 |_=>[]
noncomputable def qh(i:Nat):Fn:=tP (qq (ql (qq pD 36)) i)
noncomputable def oP:G:=gOf pD
noncomputable def zi:af (Str×Fn):=[(S "range_of", defAt 1),
 (S "put_behind", defAt 2),
 (S "from_values", defAt 3),
 (S "next_from", defAt 4),
 (S "has", defAt 5),
 (S "is_array", defAt 15),
 (S "is_set", defAt 16),
 (S "number_of", defAt 17),
 (S "truth_of", defAt 18),
 (S "text_of", defAt 19),
 (S "set_of", defAt 20),
 (S "list_of", defAt 21),
 (S "elements_of", defAt 22),
 (S "row_of", defAt 23),
 (S "span", defAt 24),
 (S "quotient", defAt 25),
 (S "within_figures", defAt 26),
 (S "power", defAt 27),
 (S "are_same", defAt 28),
 (S "are_compared", defAt 29),
 (S "joined_sets", defAt 30),
 (S "reckoned", defAt 31),
 (S "show_text", defAt 32),
 (S "folded", defAt 33),
 (S "scopes_of", defAt 35),
 (S "Evaluator.__init__", qh 0),
 (S "Evaluator.value_of", qh 1),
 (S "Evaluator.values_of", qh 2),
 (S "Evaluator.built", qh 3),
 (S "Evaluator.gathered", qh 4),
 (S "Evaluator.of_one", qh 5),
 (S "Evaluator.of_two", qh 6),
 (S "Evaluator.element", qh 7),
 (S "Evaluator.chosen", qh 8),
 (S "Evaluator.asserted", qh 9),
 (S "Evaluator.within", qh 10),
 (S "Evaluator.ranges_of", qh 11),
 (S "Evaluator.domain_of", qh 12),
 (S "Evaluator.fitted", qh 13),
 (S "fitted_one", defAt 37),
 (S "called", defAt 38),
 (S "alone", defAt 39),
 (S "of_value", defAt 40),
 (S "indexes_of", defAt 41),
 (S "indexed", defAt 42),
 (S "united", defAt 43),
 (S "is_made", defAt 46),
 (S "is_known", defAt 47),
 (S "is_settled", defAt 48),
 (S "_law_pick", defAt 52),
 (S "_law_leaf", defAt 53),
 (S "_law_test", defAt 54),
 (S "_law_source", defAt 55),
 (S "_law_through", defAt 56),
 (S "_law_item", defAt 57),
 (S "_law_node", defAt 58),
 (S "_law_less", defAt 59),
 (S "_law_asks", defAt 60),
 (S "_law_heard", defAt 61),
 (S "law", defAt 62)]
theorem Dq:oP.fns=λx=>zi.lookup x:=by kernel_rfl!
theorem Kt:(zi.map (·.1)).Nodup:=by decide +kernel
theorem zj{o:Type}:∀{l:af (Str×o)} {i:Nat} {f:Str} {b:o},(l.map (·.1)).Nodup->l[i]?=some (f,b)->l.lookup f=some b:=by
 intro l
 induction l with
 |nil=>intro i f b _ h;cases h
 |cons p r ih =>
  obtain⟨k,v⟩:=p;intro i f b hn h;rw[a6,cN]at hn;cases i with
  |zero=>cases h;exact rg (aU ..) (rg (cC ..) rfl)
  |succ i =>
   have h:r[i]?=some (f,b):=h;have hm:f∈r.map (·.1):=List.mem_map_of_mem (f:=(·.1)) (cg h);have:(f==k)=false:=beq_eq_false_iff_ne.mpr λe=>hn.1 (e▸hm);exact rg (aU ..) (rg (this ..) (ih hn.2 h))
theorem pE{f:Str}{fn:Fn}(i:Nat)(h:zi[i]?=some (f,fn)):oP.fns f=some fn:=(me Dq f).trans (zj Kt h)
noncomputable def ub(f:Str):aN:=zi.any (·.1==f)
theorem Aw{f:Str}(h:ub f=true):∃fn,oP.fns f=some fn:=by
 have e:oP.fns f=zi.lookup f:=me Dq f;refine rg (e ..) ?_;unfold ub at h;cases q:zi.lookup f with
 |some fn=>exact⟨fn,rfl⟩
 |none =>
  rw[jZ]at q;obtain⟨p,hp,hq⟩:=List.any_eq_true.mp h;have:=q p hp;rw[fg]at hq;rw[hq]at this;simp at this
theorem Ax{f:Str}(h:ub f=false):oP.fns f=none:=by
 have e:oP.fns f=zi.lookup f:=me Dq f;refine rg e ?_;rw[jZ];intro p hp;unfold ub at h;rw[List.any_eq_false]at h;have:=h p hp;rw[bne_iff_ne];intro q;apply this;rw[fg];exact q.symm
theorem Hq:oP.fns (S "range_of")=some (defAt 1):=pE 0 rfl
theorem Fg:oP.fns (S "next_from")=some (defAt 4):=pE 3 rfl
theorem Xh:oP.fns (S "has")=some (defAt 5):=pE 4 rfl
theorem qr:oP.fns (S "is_array")=some (defAt 15):=pE 5 rfl
theorem xy:oP.fns (S "is_set")=some (defAt 16):=pE 6 rfl
theorem r5:oP.fns (S "number_of")=some (defAt 17):=pE 7 rfl
theorem wO:oP.fns (S "truth_of")=some (defAt 18):=pE 8 rfl
theorem Fh:oP.fns (S "set_of")=some (defAt 20):=pE 10 rfl
theorem Cf:oP.fns (S "list_of")=some (defAt 21):=pE 11 rfl
theorem uk:oP.fns (S "elements_of")=some (defAt 22):=pE 12 rfl
theorem Nd:oP.fns (S "row_of")=some (defAt 23):=pE 13 rfl
theorem Ui:oP.fns (S "span")=some (defAt 24):=pE 14 rfl
theorem yz:oP.fns (S "within_figures")=some (defAt 26):=pE 16 rfl
theorem wQ:oP.fns (S "are_same")=some (defAt 28):=pE 18 rfl
theorem pK:oP.fns (S "are_compared")=some (defAt 29):=pE 19 rfl
theorem Hr:oP.fns (S "reckoned")=some (defAt 31):=pE 21 rfl
theorem Fi:oP.fns (S "show_text")=some (defAt 32):=pE 22 rfl
theorem Fj:oP.fns (S "folded")=some (defAt 33):=pE 23 rfl
theorem Fm:oP.fns (S "scopes_of")=some (defAt 35):=pE 24 rfl
theorem xA:oP.fns (S "fitted_one")=some (defAt 37):=pE 39 rfl
theorem xB:oP.fns (S "called")=some (defAt 38):=pE 40 rfl
theorem Qv:oP.fns (S "alone")=some (defAt 39):=pE 41 rfl
theorem Ay:oP.fns (S "of_value")=some (defAt 40):=pE 42 rfl
theorem xC:oP.fns (S "indexes_of")=some (defAt 41):=pE 43 rfl
theorem Cg:oP.fns (S "is_made")=some (defAt 46):=pE 46 rfl
theorem wR:oP.fns (S "is_known")=some (defAt 47):=pE 47 rfl
theorem Dr:oP.fns (S "is_settled")=some (defAt 48):=pE 48 rfl
theorem Hs:oP.fns (S "_law_pick")=some (defAt 52):=pE 49 rfl
theorem Ht:oP.fns (S "_law_leaf")=some (defAt 53):=pE 50 rfl
theorem Hu:oP.fns (S "_law_test")=some (defAt 54):=pE 51 rfl
theorem Ds:oP.fns (S "_law_source")=some (defAt 55):=pE 52 rfl
theorem BH:oP.fns (S "_law_through")=some (defAt 56):=pE 53 rfl
theorem Hv:oP.fns (S "_law_item")=some (defAt 57):=pE 54 rfl
theorem Az:oP.fns (S "_law_node")=some (defAt 58):=pE 55 rfl
theorem Hw:oP.fns (S "_law_less")=some (defAt 59):=pE 56 rfl
theorem pU:oP.fns (S "_law_asks")=some (defAt 60):=pE 57 rfl
theorem y2:oP.fns (S "_law_heard")=some (defAt 61):=pE 58 rfl
theorem Xi:oP.fns (S "law")=some (defAt 62):=pE 59 rfl
theorem Hx:oU (S "value_of")=S "Evaluator.value_of":=by kernel_rfl!
theorem pn:oP.fns (oU (S "value_of"))=some (qh 1):=rg (Hx ..) (pE 26 rfl)
theorem Fo:oU (S "values_of")=S "Evaluator.values_of":=by kernel_rfl!
theorem vL:oP.fns (oU (S "values_of"))=some (qh 2):=rg (Fo ..) (pE 27 rfl)
theorem Qw:oU (S "built")=S "Evaluator.built":=by kernel_rfl!
theorem zt:oP.fns (oU (S "built"))=some (qh 3):=rg (Qw ..) (pE 28 rfl)
theorem Hy:oU (S "gathered")=S "Evaluator.gathered":=by kernel_rfl!
theorem AA:oP.fns (oU (S "gathered"))=some (qh 4):=rg (Hy ..) (pE 29 rfl)
theorem Nf:oU (S "of_two")=S "Evaluator.of_two":=by kernel_rfl!
theorem AB:oP.fns (oU (S "of_two"))=some (qh 6):=rg (Nf ..) (pE 31 rfl)
theorem Ku:oU (S "element")=S "Evaluator.element":=by kernel_rfl!
theorem Kv:oP.fns (oU (S "element"))=some (qh 7):=rg (Ku ..) (pE 32 rfl)
theorem Ng:oU (S "chosen")=S "Evaluator.chosen":=by kernel_rfl!
theorem Nh:oP.fns (oU (S "chosen"))=some (qh 8):=rg (Ng ..) (pE 33 rfl)
theorem Ni:oU (S "within")=S "Evaluator.within":=by kernel_rfl!
theorem Nj:oP.fns (oU (S "within"))=some (qh 10):=rg (Ni ..) (pE 35 rfl)
theorem Fp:oU (S "domain_of")=S "Evaluator.domain_of":=by kernel_rfl!
theorem Fq:oP.fns (oU (S "domain_of"))=some (qh 12):=rg (Fp ..) (pE 37 rfl)
theorem Nk:oU (S "fitted")=S "Evaluator.fitted":=by kernel_rfl!
theorem Fs:oP.fns (oU (S "fitted"))=some (qh 13):=rg (Nk ..) (pE 38 rfl)
noncomputable def codeOf(x:Str):Nat:=x.cps.toList.foldl (λa c=>a*131+c) 7
noncomputable def Kw:af (Nat×Str):=[(683081067060787000,S "range_of"),(11701369414421105307225,S "put_behind"),(1517961113705236733612324,S "from_values"),(89139398260488273435,S "next_from"),(17534203,S "has"),(677212893470481895,S "is_array"),(39462321469744,S "is_set"),(89149934976756936154,S "number_of"),(684491382719712202,S "truth_of"),(5224624408911038,S "text_of"),(39844040235347,S "set_of"),(5184345949215789,S "list_of"),(1516403699471564242350056,S "elements_of"),(39808412489179,S "row_of"),(2321964761,S "span"),(682520125118855646,S "quotient"),(3469167926067823482640523732018,S "within_figures"),(303292012314,S "power"),(671911569472027096,S "are_same"),(197877904117975747775000017,S "are_compared"),(1523880017132670160946332,S "joined_sets"),(683100859539714660,S "reckoned"),(89574990096250428864,S "show_text"),(39345433968859,S "folded"),(89571679514849144528,S "scopes_of"),(972496438957438808456808876638541832346,S "Evaluator.__init__"),(972496438957438808456824114304462457319,S "Evaluator.value_of"),(127397033503424483907843958973884626597314,S "Evaluator.values_of"),(432587666138710047082974387607944,S "Evaluator.built"),(972496438957438808456814183669941688136,S "Evaluator.gathered"),(56668984264171016167870141870077200,S "Evaluator.of_one"),(56668984264171016167870141870164194,S "Evaluator.of_two"),(7423636938606403117990938279087958486,S "Evaluator.element"),(56668984264171016167869679541238160,S "Evaluator.chosen"),(972496438957438808456810302225213150419,S "Evaluator.asserted"),(56668984264171016167870451436583309,S "Evaluator.within"),(127397033503424483907843612062638464005798,S "Evaluator.ranges_of"),(127397033503424483907842407103382381206820,S "Evaluator.domain_of"),(56668984264171016167869795585464640,S "Evaluator.fitted"),(11586712191682678925704,S "fitted_one"),(39225572638300,S "called"),(298867633104,S "alone"),(681119574477191536,S "of_value"),(11621220144586045323097,S "indexes_of"),(5169372656438734,S "indexed"),(39923825344006,S "united"),(5169564098977279,S "is_made"),(677212896406440129,S "is_known"),(11621650555316474535499,S "is_settled"),(87842963522564960874,S "_law_pick"),(87842963522555899599,S "_law_leaf"),(87842963522573886699,S "_law_test"),(1507473097010854839626028,S "_law_source"),(197478975708426766957791620,S "_law_through"),(87842963522549413272,S "_law_item"),(87842963522560567783,S "_law_node"),(87842963522555901970,S "_law_less"),(87842963522531412175,S "_law_asks"),(11507428221453644849457,S "_law_heard"),(17602851,S "law"),(17603366,S "len"),(11621657151213197997650,S "isinstance"),(17725588,S "sum"),(17620013,S "max"),(17414207,S "abs"),(39846981097444,S "sorted"),(17553068,S "int"),(2306110361,S "list"),(304483381321,S "tuple"),(303849384682,S "range"),(17725462,S "str"),(17723499,S "set"),(2288123537,S "dict"),(85594598440660887804,S "Evaluator"),(85594598426819408287,S "EvalFault"),(17844146,S "zip"),(683101590789848581,S "reversed"),(2283731885,S "bool"),(1480351585180534217598699,S "MOST_VALUES"),(11300393780003210285564,S "MOST_SHOWN"),(4991282589215002,S "FOLDING"),(294665585255,S "SIZES"),(11507428221445906571103,S "_law_NAMES"),(1507473097009337753147769,S "_law_LEAVES")]
noncomputable def Ft(f:Str)(k:Nat):af (Nat×Str)->Nat->Nat
 |[],_=>0
 |(n,x)::r,i=>match bH n k with
  |true=>(match x==f with
   |true=>i
   |false=>0)
  |false=>Ft f k r (i+1)
theorem Hz{f x:Str}{k n i:Nat}{r:af (Nat×Str)}:Ft f k ((n,x)::r) i=match bH n k with
  |true=>(match x==f with
   |true=>i
   |false=>0)
  |false=>Ft f k r (i+1):=rfl
noncomputable def vm(f:Str):Nat:=Ft f (codeOf f) Kw 1
theorem Nl{f:Str}{k:Nat}:∀(l:af (Nat×Str)) (i j:Nat),Ft f k l i=j->j≠0->∃n,j=i+n/\(l.map (·.2))[n]?=some f:=by
 intro l
 induction l with
 |nil=>intro i j h hj;exact absurd h.symm hj
 |cons p r ih =>
  obtain⟨n,x⟩:=p;intro i j h hj;rw[Hz]at h;cases e:bH n k with
  |true =>
   rw[e]at h;dsimp only at h;cases e2:x==f with
   |true =>
    rw[e2]at h;exact⟨0,h.symm,aD some (beq_iff_eq.mp e2)⟩
   |false=>rw[e2]at h;exact absurd h.symm hj
  |false =>
   rw[e]at h;obtain⟨m,h1,h2⟩:=ih _ _ h hj;exact⟨m+1,by exact aZ (ye .x (.a (.a .y (.n 1)) .z) .x (.a .y (.a .z (.n 1))) rfl (ak h1)) (ye (.a (.a .x (.n 1)) .y) .z (.a .x (.a .y (.n 1))) .z rfl (ak h1.symm)),h2⟩
theorem HA{f:Str}{i:Nat}(h:vm f=i+1):(Kw.map (·.2))[i]?=some f:=by
 obtain⟨n,h1,h2⟩:=Nl Kw 1 (i+1) h (iQ i);have:n=i:=by exact aZ (pZ (.a (.n 1) .x) (.a .y (.n 1)) .x .y rfl (ak h1.symm)) (pZ (.a .x (.n 1)) (.a (.n 1) .y) .x .y rfl (ak h1))
 subst this;exact h2
theorem p7{f x:Str}{i:Nat}(h:vm f=i+1)(e:(Kw.map (·.2))[i]?=some x):f=x:=ai ((HA h).symm.trans e)
noncomputable def rW(f:Str):aN:=l0 1 (vm f)&&l0 (vm f) 77
noncomputable def isFn(f:Str):aN:=l0 (vm f) 60
theorem Qx:(Kw.map (·.2)).take 60=zi.map (·.1):=by kernel_rfl!
theorem IG:(zi.map (·.1)).all (λf=>rW f&&isFn f)=true:=by decide +kernel
theorem Uj:((S "Evaluator")::(S "EvalFault")::qx.map (λp=>aa p.1)).all (λf=>rW f&&!isFn f)=true:=by decide +kernel
theorem Uk:(((Kw.map (·.2)).drop 60).take 17).all (λf=>f==S "Evaluator" ||f==S "EvalFault" ||qx.any λp=>f==aa p.1)=true:=by decide +kernel
theorem yA{f:Str}:ub f=true↔f∈zi.map (·.1):=by
 unfold ub;rw[List.any_eq_true];constructor
 ·rintro⟨p,h1,h2⟩;exact List.mem_map.mpr ⟨p,h1,beq_iff_eq.mp h2⟩
 ·intro h;obtain⟨p,h1,h2⟩:=List.mem_map.mp h;exact⟨p,h1,beq_iff_eq.mpr h2⟩
theorem xD{f:Str}(h:rW f=true):∃i,vm f=i+1/\i<77:=by
 unfold rW at h;rw[aw,lP,lP]at h;exact⟨vm f-1,by exact sb (qu (.n 1) .x (.n 1) .x rfl h.1),by exact vS (.a .x (.n 1)) .y .y (.n 77) (.a .x (.n 1)) (.n 77) rfl (ak (ck (qu (.n 1) .x (.n 1) .x rfl h.1))) h.2⟩
theorem xE{f:Str}(h:rW f=true):isFn f=ub f:=by
 obtain⟨i,hi,hl⟩:=xD h;have hm:=HA hi;cases e:isFn f with
 |true =>
  unfold isFn at e;rw[lP]at e;refine(yA.mpr ?_).symm;refine rl (Qx ..) ?_;exact cg ((fQ (by exact vS (.a .x (.n 1)) .y .y (.n 60) (.a .x (.n 1)) (.n 60) rfl (ak hi.symm) e)).trans hm)
 |false =>
  cases e2:ub f with
  |false=>rfl
  |true =>
   have:=List.all_eq_true.mp IG f (yA.mp e2);rw[e,fB]at this;exact this
theorem Ci(c:MC)(o:c.g=oP)(f:Str):rW f=BW c f:=by
 have hd:(c.g.fns f).isSome=ub f:=by
  refine rg (o ..) ?_;cases e:ub f with
  |true=>obtain⟨fn,h⟩:=Aw e;exact rg (h ..) rfl
  |false=>exact rg (Ax e) rfl
 unfold BW;refine rg (hd ..) ?_;cases e:rW f with
 |true =>
  obtain⟨i,hi,hl⟩:=xD e;have hm:=HA hi;cases e2:isFn f with
  |true=>refine rl (xE e) ?_;refine rg (e2 ..) ?_;rfl
  |false =>
   unfold isFn at e2;have e2:¬vm f<=60:=λh=>by rw[Nat.ble_eq.mpr h]at e2;exact absurd e2 (by decide)
   have:=List.all_eq_true.mp Uk f (cg (i:=i-60) ((fQ (by exact vS (.a .x (.n 1)) (.n 77) (.a .y (.n 60)) .x (.a .y (.n 1)) (.n 17) rfl hl (ak (ck (vS .x (.a .y (.n 1)) (.a (.n 60) (.n 1)) .x (.n 60) .y rfl (ak hi) (iR e2)))))).trans (by rw[List.getElem?_drop];rw[show 60+(i-60)=i by exact aZ (pZ (.a .x (.n 60)) .y (.a (.n 60) .x) .y rfl (ak (ck (vS .x (.a .y (.n 1)) (.a (.n 60) (.n 1)) .x (.n 60) .y rfl (ak hi) (iR e2))))) (pZ .x (.a .y (.n 60)) .x (.a (.n 60) .y) rfl (ak (ck (vS .x (.a .y (.n 1)) (.a (.n 60) (.n 1)) .x (.n 60) .y rfl (ak hi) (iR e2))).symm))];exact hm)))
   cases ub f
   ·exact rg (eT ..) this.symm
   ·rfl
 |false =>
  symm
  rw[Bool.eq_false_iff];intro h;rw[nc,nc,bZ]at h;rcases h with h|h
  ·have:=List.all_eq_true.mp IG f (yA.mp h);rw[e,jx]at this;exact absurd this (by decide)
  ·have hm:f∈(S "Evaluator")::(S "EvalFault")::qx.map (λp=>aa p.1):=by
    rw[bZ,bZ,fg,fg]at h;rcases h with h|h|h
    ·exact rg (h ..) az
    ·exact rg (h ..) (aA _ az)
    ·obtain⟨p,h1,h2⟩:=List.any_eq_true.mp h;exact aA _ (aA _ (List.mem_map.mpr ⟨p,h1,(beq_iff_eq.mp h2).symm⟩))
   have:=List.all_eq_true.mp Uj f hm;rw[e,jx]at this;exact absurd this (by decide)
noncomputable abbrev XT:=V->V->af Cell->Prop
noncomputable abbrev NT:=aN->af V->St->Prop
noncomputable def W{o:Type}(r:R o)(Q:o->St->Prop)(X:XT):Prop:=match r with
 |.ok a s=>Q a s
 |.rQ w p σ=>X w p σ
 |.stuck=>eu
@[irreducible] noncomputable def CW(r:R V)(Q:V->af Cell->Prop)(X:XT):Prop:=W r (λv s=>Q v s.σ) X
theorem xF{r:R V}{Q:V->af Cell->Prop}{X:XT}:CW r Q X=W r (λv s=>Q v s.σ) X:=by unfold CW;rfl
noncomputable def HB(n:Nat)(Q:V->af Cell->Prop)(v:V)(σ:af Cell):Prop:=Q v (match v.oQ with
 |true=>σ.take n
 |false=>σ)
noncomputable def HX(n:Nat)(X:XT)(w p:V)(σ:af Cell):Prop:=(w.oQ&&p.oQ)=true/\X w p (σ.take n)
inductive Tr where
 |no
 |ret(v:V)(σ:af Cell)
 |nx(b:aN)(acc:af V)(s:St)
 |rQ(w p:V)(σ:af Cell)
 |call(f:Str)(vs:af V)(σ:af Cell)(k:V->af Cell->Tr)
 |lv(f:St->R V)(s:St)(k:V->St->Tr)
 |rF(b:aN)(A B:Tr)
 |lp(l acc:af V)(s:St)(B:V->af V->St->Tr)(k:af V->St->Tr)
 |wh(n:Nat)(s:St)(B:St->Tr)(k:St->Tr)
 |tr(B:Tr)(h:V->V->af Cell->Tr)(k:St->Tr)
noncomputable def Qy(P:V->af V->St->NT->Prop)(Z:af V->St->Prop):af V->af V->St->Prop
 |[],acc,s=>Z acc s
 |v::r,acc,s=>P v acc s λu_ acc s=>Qy P Z r acc s
noncomputable def Ul(P:St->NT->Prop)(Z:St->Prop):Nat->St->Prop
 |0,_=>eu
 |n+1,s=>P s λb u_ s=>match b with
  |true=>Ul P Z n s
  |false=>Z s
noncomputable def pP(K:sY)(n:Nat)(Q:V->af Cell->Prop)(t:Tr):NT->XT->Prop:=Tr.rec (motive:=λu_=>NT->XT->Prop)
 (λu_ u_=>eu) (λv σ u_ u_=>HB n Q v σ) (λb acc s N u_=>N b acc s) (λw p σ u_ X=>X w p σ)
 (λf vs σ u_ ih N X=>CW (K f vs σ) (λv σ=>ih v σ N X) X) (λf s u_ ih N X=>W (f s) (λv s=>ih v s N X) X)
 (λb u_ u_ A B N X=>match b with
  |true=>A N X
  |false=>B N X)
 (λl acc s u_ u_ B k N X=>Qy (λv acc s N'=>B v acc s N' X) (λacc s=>k acc s N X) l acc s)
 (λn s u_ u_ B k N X=>Ul (λs N'=>B s N' X) (λs=>k s N X) n s)
 (λu_ u_ u_ B h k N X=>B (λu_ u_ s=>k s N X) (λw p σ=>h w p σ N X)) t
noncomputable def LT{o:Type}(r:R o)(k:o->St->Tr):Tr:=match r with
 |.ok a s=>k a s
 |.rQ w p σ=>.rQ w p σ
 |.stuck=>.no
noncomputable def OT{y:Type}(o:au y)(k:y->Tr):Tr:=match o with
 |some a=>k a
 |none=>.no
noncomputable def yd(b:aN)(A:Tr):Tr:=match b with
 |true=>A
 |false=>.no
noncomputable def YE(b:aN)(A B:Tr):Tr:=match b with
 |true=>A
 |false=>B
noncomputable def YF(y:Str):au V:=match oP.consts y with
 |some v=>some v
 |none=>rj y
noncomputable def glT(i:Nat)(y:Str):au V :=
 cond (bH i 69) (some (.typ "tuple")) (
 cond (bH i 67) (some (.typ "int")) (
 cond (bH i 78) (some (.typ "bool")) (
 cond (bH i 71) (some (.typ "str")) (
 cond (bH i 68) (some (.typ "list")) (
 cond (bH i 79) (some (.int 100000)) (
 cond (bH i 80) (some (.int 1000)) (
 cond (bH i 81) (some (.tup [.str (S "forall"),.str (S "exists"),.str (S "xorall"),.str (S "iffall"),.str (S "sum"),.str (S "product"),.str (S "min"),.str (S "max")])) (
 cond (bH i 82) (some (.tup [.str (S "length"),.str (S "index_set"),.str (S "index_set_1of2"),.str (S "index_set_2of2")])) (
 cond (bH i 83) (some (.tup [.str (S "x"),.str (S "n"),.str (S "b"),.str (S "k")])) (
 cond (bH i 84) (some (.tup [.str (S "n"),.str (S "x"),.str (S "k"),.str (S "x"),.str (S "b"),.str (S "r"),.str (S "v")])) (
 YF y)))))))))))
noncomputable def Nn(f:Str)(vs:af V)(s:St):R V:=if f==aa "Evaluator" then wC vs s else if f==aa "EvalFault" then uN vs s else sZ f vs s
noncomputable def biR(i:Nat)(f:Str)(vs:af V):St->R V :=
 cond (bH i 61) (BP vs) (
 cond (bH i 62) (rm vs) (
 cond (bH i 67) (BQ vs) (
 cond (bH i 68) (yg vs) (
 cond (bH i 69) (vT vs) (
 cond (bH i 70) (uM vs) (
 cond (bH i 63) (zG vs) (
 cond (bH i 64) (BR vs) (
 cond (bH i 65) (BS vs) (
 cond (bH i 71) (BV vs) (
 cond (bH i 72) (zH vs) (
 cond (bH i 66) (tL vs) (
 cond (bH i 73) (vw vs) (
 cond (bH i 74) (wC vs) (
 cond (bH i 75) (uN vs) (
 Nn f vs)))))))))))))))
noncomputable def Dt(f:Str)(vs:af V)(s:St)(k:V->St->Tr):Tr:=match isFn f with
 |true=>.call f vs s.σ (λv σ=>k v ⟨s.ρ,σ⟩)
 |false=>.lv (biR (vm f) f vs) s k
noncomputable def nmR(c:MC)(y:Str)(s:St):R V:=match c.names.lookup y with
 |some .local|some .cell=>(match s.ρ.lookup y with
  |some (.val v)=>.ok v s
  |some (.own l)=>.ok (.lst l) ⟨oZ s.ρ y (.val (.lst l)),s.σ⟩
  |_=>.stuck)
 |some .free=>R.opt (c.free.lookup y) s
 |some .globalImplicit=>R.opt (glT (vm y) y) s
 |_=>.stuck
noncomputable def SE(v:V)(F:V->Tr):Tr:=match v with
 |.ev v=>F v
 |_=>.no
noncomputable def Xj(v:V)(F:aN->Tr):Tr:=match v with
 |.bool b=>F b
 |_=>.no
noncomputable def onStr(v:V)(F:Str->Tr):Tr:=match v with
 |.str x=>F x
 |_=>.no
noncomputable def Qz(x m:Str)(vs:af V)(s:St)(k:V->St->Tr):Tr:=match s.ρ.lookup x with
 |some (.own l)=>.lv (sA x l m vs) s k
 |_=>.no
noncomputable def glue(acc:Str)(v:V)(s:St):R V:=match v with
 |.str t=>if acc.length+t.length<=qf then .ok (.str (acc++t)) s else .stuck
 |_=>.stuck
noncomputable def room(acc:af V)(v:V)(s:St):R V:=if acc.length<qf then .ok v s else .stuck
noncomputable def putAt(d j v:V)(s:St):R cV:=match d,j with
 |.ptr n,.str k=>(match s.σ[n]? with
  |some cell=>if v.oQ&&decide (cell.length<qf)then .ok () {s with σ:=s.σ.set n (pv cell k v)}else .stuck
  |none=>.stuck)
 |_,_=>.stuck
noncomputable def td(op:fv)(a b:V)(s:St):R V:=R.opt ((sX op a b s.σ).map .bool) s
noncomputable def AD(r:R cV):R V:=match r with
 |.ok _ s=>.ok .none s
 |.rQ w p σ=>.rQ w p σ
 |.stuck=>.stuck
noncomputable def HC(o:af Str)(n:Nat):aN:=decide (o.length=n/\n<=15/\n≠0/\o.Nodup)
noncomputable def AE:af (V->St->(St->Tr)->Tr)->af V->St->(St->Tr)->Tr
 |[],[],s,k=>k s
 |t::o,v::vs,s,k=>t v s λs=>AE o vs s k
 |_,_,_,_=>.no
noncomputable def II(n:Nat)(v:V)(F:af V->Tr):Tr:=match v with
 |.tup l=>yd (decide (n=l.length)) (F l)
 |.lst l=>yd (decide (n=l.length)) (F l)
 |_=>.no
mutual
noncomputable def pw(c:MC)(e:aI)(s:St)(k:V->St->Tr):Tr:=match e with
 |.Constant v _ _=>LT (yh v s) k
 |.Name y _=>LT (nmR c y s) k
 |.BoolOp op vs _=>IJ c (op==.And) vs s k
 |.BinOp l op r _=>pw c l s (λa s=>pw c r s (λb s=>.lv (sy op a b) s k))
 |.UnaryOp op y _=>pw c y s (λv s=>.lv (Lw op v) s k)
 |.IfExp t a b _=>xG c t (λs k=>pw c t s k) s (λq s=>.rF q (pw c a s k) (pw c b s k))
 |.Compare l ops cs _=>pw c l s (λa s=>QA c a ops cs s k)
 |.Tuple es _ _=>vn c es s (λvs s=>.lv (vg vs) s k)
 |.List es _=>vn c es s (λvs s=>.lv (wg vs) s k)
 |.Dict ks vs _=>OT (uf ks) λz=>yd (HC z vs.length) (vn c vs s (λA s=>.lv (rk (z.zip A)) s k))
 |.JoinedStr vs _=>Np c cM vs s k
 |.FormattedValue x conv spec _=>yd (decide (conv=-1/\spec.isNone)) (pw c x s (λv s=>.lv (R.opt ((vu v).map .str)) s k))
 |.Attribute o a _=>yd (sG o) (pw c o s (λv s=>.lv (wz v a) s k))
 |.Subscript o i _=>(match ue i with
  |some (a,b)=>pw c o s (λv s=>.lv (sP v a b) s k)
  |none=>(match owned c o s,zI i with
   |some (_,l),some n=>.lv (pW (.lst l) (.int n)) s k
   |_,_=>pw c o s (λv s=>pw c i s (λn s=>.lv (pW v n) s k))))
 |.ListComp elt gens scope _=>yd (CL c.names scope gens) (Nq c gens s (λv s=>OT (pR v) λitems=>OT (qg scope.names (pB scope.names s.ρ)) λC =>
   SG (under c scope.names C) gens (λs k=>pw (under c scope.names C) elt s k) items ⟨qF [] scope.names,s.σ⟩ (λl D=>k (.lst l) ⟨pB scope.names s.ρ,D.σ⟩)))
 |.Call func args R9 p=>yd (R9.isEmpty&&uO func args p) (match func with
  |.Name f _=>yd (qw c f&&rW f) (match tF c f args s with
   |some n=>k (.int n) s
   |none=>vn c args s (λvs s=>Dt f vs s k))
  |.Attribute o m _=>(match owned c o s with
   |some (y,_)=>yd (zo m) (vn c args s (λvs s=>Qz y m vs s k))
   |none=>pw c o s (λH s=>SE H λv=>yd (rW (oU m)&&isFn (oU m)) (vn c args s (λvs s=>.call (oU m) (.ev v::vs) s.σ (λv σ=>k v ⟨s.ρ,σ⟩)))))
  |_=>.no)
 |_=>.no
termination_by structural e
noncomputable def vn(c:MC)(es:af aI)(s:St)(k:af V->St->Tr):Tr:=match es with
 |[]=>k [] s
 |e::r=>pw c e s (λv s=>vn c r s (λvs s=>k (v::vs) s))
termination_by structural es
noncomputable def Np(c:MC)(acc:Str)(es:af aI)(s:St)(k:V->St->Tr):Tr:=match es with
 |[]=>k (.str acc) s
 |e::r=>pw c e s (λv s=>.lv (glue acc v) s (λv s=>onStr v λacc=>Np c acc r s k))
termination_by structural es
noncomputable def IJ(c:MC)(b:aN)(es:af aI)(s:St)(k:V->St->Tr):Tr:=match es with
 |[]=>.no
 |e::r=>(match r with
  |[]=>pw c e s k
  |_::_=>pw c e s (λv s=>Xj v λt=>.rF (t==b) (IJ c b r s k) (k v s)))
termination_by structural es
noncomputable def QA(c:MC)(a:V)(o:af fv)(es:af aI)(s:St)(k:V->St->Tr):Tr:=match es with
 |[]=>.no
 |e::r=>(match o with
  |[]=>.no
  |op::o=>(match o,r with
   |[],[]=>pw c e s (λv s=>.lv (td op a v) s k)
   |_::_,_::_=>pw c e s (λv s=>.lv (td op a v) s (λx s=>Xj x λb=>.rF b (QA c v o r s k) (k (.bool false) s)))
   |_,_=>.no))
termination_by structural es
noncomputable def xG(c:MC)(e:aI)(o:St->(V->St->Tr)->Tr)(s:St)(k:aN->St->Tr):Tr:=match e with
 |.UnaryOp op y _=>(match op with
  |.Not=>xG c y (λs k=>pw c y s k) s (λb s=>k (!b) s)
  |_=>o s (λv s=>Xj v λb=>k b s))
 |.BoolOp op vs _=>wU c (op==.And) vs s k
 |.IfExp t a b _=>xG c t (λs k=>pw c t s k) s (λq s=>.rF q (xG c a (λs k=>pw c a s k) s k) (xG c b (λs k=>pw c b s k) s k))
 |_=>o s (λv s=>Xj v λb=>k b s)
termination_by structural e
noncomputable def wU(c:MC)(b:aN)(es:af aI)(s:St)(k:aN->St->Tr):Tr:=match es with
 |[]=>k b s
 |e::r=>xG c e (λs k=>pw c e s k) s (λq s=>.rF (q==b) (wU c b r s k) (k q s))
termination_by structural es
noncomputable def Nq(c:MC)(gs:af aR)(s:St)(k:V->St->Tr):Tr:=match gs with
 |[]=>.no
 |⟨_,it,_,_⟩::_=>pw c it s k
termination_by structural gs
noncomputable def SG(c:MC)(gs:af aR)(o:St->(V->St->Tr)->Tr)(items:af V)(s:St)(k:af V->St->Tr):Tr:=match gs with
 |[]=>.no
 |⟨t,_,ifs,_⟩::gs=>.lp items [] s (λv acc s=>sV c t v s (λs=>wU c true ifs s (λq s=>.rF q (IK c gs o acc s) (.nx true acc s)))) k
termination_by structural gs
noncomputable def IK(c:MC)(gs:af aR)(o:St->(V->St->Tr)->Tr)(acc:af V)(s:St):Tr:=match gs with
 |[]=>o s (λv s=>.lv (room acc v) s (λv s=>.nx true (acc++[v]) s))
 |⟨t,it,ifs,_⟩::gs=>pw c it s (λv s=>OT (pR v) λitems =>
   .lp items acc s (λv acc s=>sV c t v s (λs=>wU c true ifs s (λq s=>.rF q (IK c gs o acc s) (.nx true acc s)))) (λacc s=>.nx true acc s))
termination_by structural gs
noncomputable def sV(c:MC)(e:aI)(v:V)(s:St)(k:St->Tr):Tr:=match e with
 |.Name x _=>LT (qs c x (.val v) s) (λu_ s=>k s)
 |.Tuple ts _ _=>yd (ts.all pG) (II ts.length v λl=>AE (AF c ts) l s k)
 |.Subscript o i _=>pw c o s (λd s=>pw c i s (λj s=>.lv (λs=>AD (putAt d j v s)) s (λu_ s=>k s)))
 |_=>.no
termination_by structural e
noncomputable def AF(c:MC)(es:af aI):af (V->St->(St->Tr)->Tr):=match es with
 |[]=>[]
 |e::r=>(λv s k=>sV c e v s k)::AF c r
termination_by structural es
end
noncomputable def Um(c:MC)(e:aI)(s:St)(k:pq->St->Tr):Tr:=match e with
 |.List es _=>vn c es s (λvs s=>yd (decide (vs.length<=qf)) (k (.own vs) s))
 |e=>pw c e s (λv s=>k (.val v) s)
noncomputable def IL(c:MC):af aI->St->(af pq->St->Tr)->Tr
 |[],s,k=>k [] s
 |e::r,s,k=>(match r with
  |[]=>Um c e s (λb s=>k [b] s)
  |_::_=>pw c e s (λv s=>IL c r s (λbs s=>k (.val v::bs) s)))
noncomputable def Xk(c:MC)(t e:aI)(s:St)(k:St->Tr):Tr:=match t with
 |.Name x _=>Um c e s (λb s=>LT (qs c x b s) (λu_ s=>k s))
 |.Tuple ..=>(match rH t e with
  |some (xs,vs)=>yd (se xs vs) (IL c vs s (λbs s=>LT (pY c xs bs s) (λu_ s=>k s)))
  |none=>pw c e s (λv s=>sV c t v s k))
 |.Subscript ..=>pw c e s (λv s=>sV c t v s k)
 |_=>.no
noncomputable def Xl:V->au (af V)
 |.tup l=>some l
 |_=>none
noncomputable def aaz:V->au (af V)
 |.lst l=>some l
 |_=>none
noncomputable def HD(c:MC)(t e:aI)(s:St)(k:af V->St->Tr):Tr:=match xe c e with
 |some (a,b)=>yd (xg t) (pw c a s λx s=>pw c b s λy s=>OT (Xl x) λl=>OT (aaz y) λm=>k (Ei l m) s)
 |none=>(match xf c e with
  |some a=>pw c a s (λx s=>OT (Xl x) λl=>k l.reverse s)
  |none=>pw c e s (λv s=>OT (pR v) λitems=>k items s))
mutual
noncomputable def SH(c:MC)(st:cW)(s:St)(k:St->Tr):Tr:=match st with
 |.Return e _=>(match e with
  |some e=>pw c e s (λv s=>.ret v s.σ)
  |none=>.ret .none s.σ)
 |.Assign ts e _=>(match ts with
  |[t]=>Xk c t e s k
  |_=>.no)
 |.If t b o _=>xG c t (λs k=>pw c t s k) s (λq s=>.rF q (uX c b s k) (uX c o s k))
 |.For t it b o _=>yd o.isEmpty (HD c t it s λitems s=>.lp items [] s (λv u_ s=>sV c t v s (λs=>uX c b s (λs=>.nx true [] s))) (λu_ s=>k s))
 |.While t b o _=>yd o.isEmpty (.wh c.wf s (λs=>xG c t (λs k=>pw c t s k) s (λq s=>.rF q (uX c b s (λs=>.nx true [] s)) (.nx false [] s))) k)
 |.Raise e f _=>(match e,f with
  |some e,none=>yd (xh c e) (pw c e s (λv s=>LT (match v with|.wx w p=>R.rQ w p s.σ|_=>.stuck) λ(u_:cV) s=>k s))
  |_,_=>.no)
 |.Expr e _=>yd (GC e) (pw c e s (λu_ s=>k s))
 |.Try b hs o f _=>yd (o.isEmpty&&f.isEmpty&&!hs.isEmpty) (OT (qP c hs) λy=>.tr (uX c b s (λs=>.nx true [] s)) (λw p σ=>.ret (.tup [.str y,w,p]) σ) k)
 |_=>.no
termination_by structural st
noncomputable def uX(c:MC)(o:af cW)(s:St)(k:St->Tr):Tr:=match o with
 |[]=>k s
 |st::r=>SH c st s (λs=>uX c r s k)
termination_by structural o
end
theorem Un{f:Str}:glT (vm f) f=YF f :=
 have h:∀{i n:Nat} {A B P:au V},(i=n->A=P)->B=P->cond (bH i n) A B=P:=λ{i n A B P} h1 h2=>by
  cases e:bH i n with
  |true=>exact h1 (eA e)
  |false=>exact h2
 h (λe=>by rw[p7 (i:=68) (x:=S "tuple") e rfl];kernel_rfl!) <|
 h (λe=>by rw[p7 (i:=66) (x:=S "int") e rfl];kernel_rfl!) <|
 h (λe=>by rw[p7 (i:=77) (x:=S "bool") e rfl];kernel_rfl!) <|
 h (λe=>by rw[p7 (i:=70) (x:=S "str") e rfl];kernel_rfl!) <|
 h (λe=>by rw[p7 (i:=67) (x:=S "list") e rfl];kernel_rfl!) <|
 h (λe=>by rw[p7 (i:=78) (x:=S "MOST_VALUES") e rfl];kernel_rfl!) <|
 h (λe=>by rw[p7 (i:=79) (x:=S "MOST_SHOWN") e rfl];kernel_rfl!) <|
 h (λe=>by rw[p7 (i:=80) (x:=S "FOLDING") e rfl];kernel_rfl!) <|
 h (λe=>by rw[p7 (i:=81) (x:=S "SIZES") e rfl];kernel_rfl!) <|
 h (λe=>by rw[p7 (i:=82) (x:=S "_law_NAMES") e rfl];kernel_rfl!) <|
 h (λe=>by rw[p7 (i:=83) (x:=S "_law_LEAVES") e rfl];kernel_rfl!) rfl
theorem Xm{f:Str}{vs:af V}{s:St}:biR (vm f) f vs s=Nn f vs s :=
 have h:∀{i n:Nat} {A B:St->R V} {P:R V},(i=n->A s=P)->B s=P->cond (bH i n) A B s=P:=λ{i n A B P} h1 h2=>by
  cases e:bH i n with
  |true=>exact h1 (eA e)
  |false=>exact h2
 h (λe=>by rw[p7 (i:=60) (x:=S "len") e rfl];kernel_rfl!) <|
 h (λe=>by rw[p7 (i:=61) (x:=S "isinstance") e rfl];kernel_rfl!) <|
 h (λe=>by rw[p7 (i:=66) (x:=S "int") e rfl];kernel_rfl!) <|
 h (λe=>by rw[p7 (i:=67) (x:=S "list") e rfl];kernel_rfl!) <|
 h (λe=>by rw[p7 (i:=68) (x:=S "tuple") e rfl];kernel_rfl!) <|
 h (λe=>by rw[p7 (i:=69) (x:=S "range") e rfl];kernel_rfl!) <|
 h (λe=>by rw[p7 (i:=62) (x:=S "sum") e rfl];kernel_rfl!) <|
 h (λe=>by rw[p7 (i:=63) (x:=S "max") e rfl];kernel_rfl!) <|
 h (λe=>by rw[p7 (i:=64) (x:=S "abs") e rfl];kernel_rfl!) <|
 h (λe=>by rw[p7 (i:=70) (x:=S "str") e rfl];kernel_rfl!) <|
 h (λe=>by rw[p7 (i:=71) (x:=S "set") e rfl];kernel_rfl!) <|
 h (λe=>by rw[p7 (i:=65) (x:=S "sorted") e rfl];kernel_rfl!) <|
 h (λe=>by rw[p7 (i:=72) (x:=S "dict") e rfl];kernel_rfl!) <|
 h (λe=>by rw[p7 (i:=73) (x:=S "Evaluator") e rfl];kernel_rfl!) <|
 h (λe=>by rw[p7 (i:=74) (x:=S "EvalFault") e rfl];kernel_rfl!) rfl
theorem nmE{c:MC}(o:c.g=oP){y:Str}{s:St}:nmR c y s=tZ c y s:=by
 unfold nmR tZ pQ Gx qw;cases c.names.lookup y with
 |none=>rfl
 |some n =>
  cases n with
  |globalImplicit =>
   refine rg (o ..) ?_;dsimp only;refine rg (Un ..) ?_;show R.opt (YF y) s=match oP.consts y with|some v=>.ok v s|none=>R.opt (rj y) s
   unfold YF;cases oP.consts y<;>rfl
  |_=>rfl
section
variable{c:MC}{n:Nat}{Q:V->af Cell->Prop}{N:NT}{X:XT}
theorem zu{o y:Type}{Q:y->St->Prop}{r:R o}{f:o->St->R y}:W (r.bind f) Q X=W r (λa s=>W (f a s) Q X) X:=by cases r<;>rfl
theorem o3{o y:Type}{P:Prop}{Q:y->St->Prop}{r:R o}{f:o->St->R y}{F:o->St->Prop}(h1:P=W r F X)(h2:∀a s,F a s=W (f a s) Q X):P=W (r.bind f) Q X :=
 h1.trans ((aD (λF=>W r F X) (funext λa=>funext λs=>h2 a s)).trans zu.symm)
theorem Xn{o:Type}{r:R o}{k:o->St->Tr}:pP c.call n Q (LT r k) N X=W r (λa s=>pP c.call n Q (k a s) N X) X:=by cases r<;>rfl
theorem Xo{o:Type}{b:aN}{A:Tr}{F:o->St->Prop}{r:R o}(h:b=true->pP c.call n Q A N X=W r F X):pP c.call n Q (yd b A) N X=W (if b=true then r else .stuck) F X:=by
 cases b
 ·rfl
 ·exact h rfl
theorem xH{o:Type}{b:aN}{A:Tr}{F:o->St->Prop}{r:R o}(h:pP c.call n Q A N X=W r F X):pP c.call n Q (yd b A) N X=W (if b=true then r else .stuck) F X:=Xo λu_=>h
theorem Nr{o:Type}{p:Prop}[fR p]{A:Tr}{F:o->St->Prop}{r:R o}(h:pP c.call n Q A N X=W r F X):pP c.call n Q (yd (decide p) A) N X=W (if p then r else .stuck) F X:=by
 by_cases e:p
 ·exact rg (b5 e) (rg (aO e) h)
 ·exact rg (eh e) (rg (aT e) rfl)
theorem Fu(o:c.g=oP){f:Str}(h:ub f=true):∃fn,c.g.fns f=some fn:=o▸Aw h
theorem Fv(o:c.g=oP){f:Str}(h:ub f=false):c.g.fns f=none:=o▸Ax h
theorem Cj{s:St}{r:R V}{F:V->St->Prop}:CW r (λv σ=>F v ⟨s.ρ,σ⟩) X=W (uv s r) F X:=by rw[xF];cases r<;>rfl
theorem Uo(o:c.g=oP){f:Str}(hk:rW f=true){vs:af V}{s:St}{k:V->St->Tr}:pP c.call n Q (Dt f vs s k) N X=W (qO c f vs s) (λa s=>pP c.call n Q (k a s) N X) X:=by
 unfold Dt qO;have h:=xE hk;cases e:isFn f with
 |true=>obtain⟨fn,hf⟩:=Fu o (h▸e);exact rg (hf ..) (Cj (F:=λa s=>pP c.call n Q (k a s) N X))
 |false=>exact rg (Fv o (h▸e)) (aD (λr=>W r (λa s=>pP c.call n Q (k a s) N X) X) Xm)
theorem Xp(o:c.g=oP){f:Str}{A:Tr}{r:R V}{F:V->St->Prop}(h:pP c.call n Q A N X=W r F X):pP c.call n Q (yd (rW f&&isFn f) A) N X=W (match c.g.fns f with|some _=>r|none=>.stuck) F X:=by
 cases e:ub f with
 |true =>
  obtain⟨fn,hf⟩:=Fu o e;have hk:rW f=true:=by rw[Ci c o];unfold BW;refine rg (hf ..) ?_;rfl
  exact rg (hf ..) (rg (hk ..) (rg (xE hk) (rg (e ..) h)))
 |false =>
  refine rg (Fv o e) ?_;cases hk:rW f with
  |false=>rfl
  |true=>refine rg (xE hk) ?_;refine rg (e ..) ?_;rfl
theorem aaA{x m:Str}{vs:af V}{s:St}{k:V->St->Tr}:pP c.call n Q (Qz x m vs s k) N X=W (match s.ρ.lookup x with|some (.own l)=>sA x l m vs s|_=>.stuck) (λa s=>pP c.call n Q (k a s) N X) X:=by
 unfold Qz;cases s.ρ.lookup x with
 |none=>rfl
 |some b=>cases b<;>rfl
theorem Xq{acc:Str}{v:V}{s:St}{F:Str->St->Tr}{f:Str->St->R V}{G:V->St->Prop}(h:∀x s,pP c.call n Q (F x s) N X=W (f x s) G X) :
  pP c.call n Q (.lv (glue acc v) s (λv s=>onStr v λacc=>F acc s)) N X=W (match v with|V.str t=>if acc.length+t.length<=qf then f (acc++t) s else R.stuck|_=>R.stuck) G X:=by
 cases v with
 |str t =>
  show W (if acc.length+t.length<=qf then R.ok (V.str (acc++t)) s else .stuck) _ X=W (if acc.length+t.length<=qf then f (acc++t) s else .stuck) G X
  by_cases e:acc.length+t.length<=qf
  ·exact rg (aO e) (rg (aO e) (h _ _))
  ·refine rg (aT e) ?_;refine rg (aT e) ?_;rfl
 |_=>rfl
theorem lpE{step:V->af V->St->R (af V)}{B:V->af V->St->Tr}{F:af V->St->Prop}(h:∀v acc s N',pP c.call n Q (B v acc s) N' X=W (step v acc s) (λacc s=>N' true acc s) X) :
  ∀(l acc:af V)(s:St),Qy (λv acc s N'=>pP c.call n Q (B v acc s) N' X) F l acc s=W (rS step l acc s) F X
 |[],_,_=>rfl
 |v::r,acc,s=>o3 (h v acc s _) λacc s=>lpE h r acc s
theorem QB{o:Type}{m:Nat}{v:V}{F:af V->Tr}{f:af V->R o}{G:o->St->Prop}(h:∀l,pP c.call n Q (F l) N X=W (f l) G X) :
  pP c.call n Q (II m v F) N X=W (match v with|.tup l=>if m=l.length then f l else .stuck|.lst l=>if m=l.length then f l else .stuck|_=>.stuck) G X:=by
 cases v with
 |tup l=>exact Nr (h l)
 |lst l=>exact Nr (h l)
 |_=>rfl
theorem y3:∀o:af aI,(sd c o).length=o.length
 |[]=>rfl
 |t::o=>aD (· + 1) (y3 o)
theorem aaC{s:St}{d j v:V}{k:St->Tr}:pP c.call n Q (.lv (λs=>AD (putAt d j v s)) s (λu_ s=>k s)) N X=W (putAt d j v s) (λu_ s=>pP c.call n Q (k s) N X) X:=by
 show W (AD (putAt d j v s)) _ X=_;cases putAt d j v s<;>rfl
mutual
theorem oX(c:MC)(z:c.g=oP)(N:NT)(X:XT)(e:aI)(s:St)(k:V->St->Tr):pP c.call n Q (pw c e s k) N X=W (oO c e s) (λa s=>pP c.call n Q (k a s) N X) X:=match e with
 |.Constant _ _ _=>Xn
 |.Name y _=>Xn.trans (aD (λr=>W r _ X) (nmE z))
 |.BoolOp op vs _=>Fw c z N X (op==.And) vs s k
 |.BinOp l op r _=>o3 (oX c z N X l s _) λa s=>o3 (oX c z N X r s _) λb s=>rfl
 |.UnaryOp op y _=>o3 (oX c z N X y s _) λa s=>rfl
 |.IfExp t a b _=>o3 (tg c z N X t _ _ (λs k=>oX c z N X t s k) s _) λq s=>by
  have ha:=oX c z N X a s k;have hb:=oX c z N X b s k;cases q
  ·exact hb
  ·exact ha
 |.Compare l ops cs _=>o3 (oX c z N X l s _) λa s=>IM c z N X a ops cs s k
 |.Tuple es _ _=>o3 (tQ c z N X es s _) λa s=>rfl
 |.List es _=>o3 (tQ c z N X es s _) λa s=>rfl
 |.Dict ks vs _=>by
  have h:=λk=>tQ c z N X vs s k;show pP c.call n Q (OT (uf ks) λA=>yd (HC A vs.length) (vn c vs s (λD s=>.lv (rk (A.zip D)) s k))) N X=W (s8 ks vs.length (pk c vs) s) _ X;unfold s8 HC;cases uf ks with
  |none=>rfl
  |some A=>exact Nr (o3 (h _) λa s=>rfl)
 |.JoinedStr vs _=>Fx c z N X cM vs s k
 |.FormattedValue x conv spec _=>Nr (o3 (oX c z N X x s _) λa s=>rfl)
 |.Attribute o a _=>xH (o3 (oX c z N X o s _) λa s=>rfl)
 |.Subscript o i q=>by
  have ho:=λk=>oX c z N X o s k;have hi:=λs k=>oX c z N X i s k
  have h:pP c.call n Q (pw c o s (λv s=>pw c i s (λn s=>.lv (pW v n) s k))) N X=W ((oO c o s).bind λv s=>(oO c i s).bind λn s=>pW v n s) (λa s=>pP c.call n Q (k a s) N X) X :=
   o3 (ho _) λv s=>o3 (hi s _) λn s=>rfl
  show pP c.call n Q (match ue i with
  |some (a,b)=>pw c o s (λv s=>.lv (sP v a b) s k)
  |none=>(match owned c o s,zI i with
   |some (_,l),some n=>.lv (pW (.lst l) (.int n)) s k
   |_,_=>pw c o s (λv s=>pw c i s (λn s=>.lv (pW v n) s k)))) N X=W (vV c o i (λs=>oO c o s) (λs=>oO c i s) s) _ X
  unfold vV;cases ue i with
  |some p=>exact o3 (ho _) λv s=>rfl
  |none =>
   cases owned c o s with
   |none=>exact h
   |some p =>
    cases zI i with
    |none=>exact h
    |some m=>rfl
 |.ListComp elt gens scope _=>xH (o3 (Kx c z N X gens s _) λv s=>by
  have M:=λC N s k=>oX (under c scope.names C) z N X elt s k;have hc:=λC N O s k=>Nt (under c scope.names C) z N X gens _ _ (M C) O s k;cases pR v with
  |none=>rfl
  |some items =>
   show pP c.call n Q (OT (qg scope.names (pB scope.names s.ρ)) _) N X=_;cases qg scope.names (pB scope.names s.ρ)with
   |none=>rfl
   |some C =>
    refine(hc C N items _ _).trans ?_;dsimp only;cases rX (under c scope.names C) gens (λs=>oO (under c scope.names C) elt s) items ⟨qF [] scope.names,s.σ⟩<;>rfl)
 |.Call func args R9 p=>match func with
  |.Name f _=>xH (by
   have h:=tQ c z N X args s (λvs s=>Dt f vs s k);show pP c.call n Q (yd (qw c f&&rW f) _) N X=W (if(qw c f&&BW c f)=true then _ else _) _ X
   rw[<-Ci c z];refine Xo λhk=>?_;rw[aw]at hk;cases tF c f args s with
   |some n=>rfl
   |none=>exact o3 h λvs s=>Uo z hk.2)
  |.Attribute o m _=>xH (by
   have ha:=λs k=>tQ c z N X args s k;have ho:=λk=>oX c z N X o s k;show pP c.call n Q (match owned c o s with
   |some (y,_)=>yd (zo m) (vn c args s (λvs s=>Qz y m vs s k))
   |none=>pw c o s (λH s=>SE H λv=>yd (rW (oU m)&&isFn (oU m)) (vn c args s (λvs s=>.call (oU m) (.ev v::vs) s.σ (λv σ=>k v ⟨s.ρ,σ⟩))))) N X=W (match owned c o s with
   |some (x,_)=>ownCall x m (pk c args) s
   |none=>uw c m (λs=>oO c o s) (pk c args) s) _ X
   cases owned c o s with
   |some p=>exact xH (o3 (ha s _) λvs s=>aaA)
   |none =>
    refine o3 (ho _) λH s=>?_;cases H with
    |ev v=>exact Xp z (o3 (ha s _) λvs s=>Cj (F:=λa s=>pP c.call n Q (k a s) N X))
    |_=>rfl)
  |.BoolOp .. |.NamedExpr .. |.BinOp .. |.UnaryOp .. |.Lambda .. |.IfExp .. |.Dict .. |.Set .. |.ListComp .. |.SetComp .. |.DictComp .. |.GeneratorExp .. |.Await .. |.Yield .. |.YieldFrom .. |.Compare .. |.Call .. |.FormattedValue .. |.JoinedStr .. |.Constant .. |.Subscript .. |.Starred .. |.List .. |.Tuple .. |.Slice ..=>xH rfl
 |.NamedExpr .. |.Lambda .. |.Set .. |.SetComp .. |.DictComp .. |.GeneratorExp .. |.Await .. |.Yield .. |.YieldFrom .. |.Starred .. |.Slice ..=>rfl
termination_by structural e
theorem tQ(c:MC)(o:c.g=oP)(N:NT)(X:XT)(es:af aI)(s:St)(k:af V->St->Tr):pP c.call n Q (vn c es s k) N X=W (pC (pk c es) s) (λa s=>pP c.call n Q (k a s) N X) X:=match es with
 |[]=>rfl
 |e::r=>o3 (oX c o N X e s _) λv s=>o3 (tQ c o N X r s _) λvs s=>rfl
termination_by structural es
theorem Fx(c:MC)(o:c.g=oP)(N:NT)(X:XT)(acc:Str)(es:af aI)(s:St)(k:V->St->Tr):pP c.call n Q (Np c acc es s k) N X=W (wB acc (pk c es) s) (λa s=>pP c.call n Q (k a s) N X) X:=match es with
 |[]=>rfl
 |e::r=>o3 (oX c o N X e s _) λv s=>Xq λx s=>Fx c o N X x r s k
termination_by structural es
theorem Fw(c:MC)(o:c.g=oP)(N:NT)(X:XT)(b:aN)(es:af aI)(s:St)(k:V->St->Tr):pP c.call n Q (IJ c b es s k) N X=W (wA b (pk c es) s) (λa s=>pP c.call n Q (k a s) N X) X:=match es with
 |[]=>rfl
 |e::r=>match r with
  |[]=>oX c o N X e s k
  |e'::r'=>o3 (oX c o N X e s _) λv s=>by
   have h:=λs=>Fw c o N X b (e'::r') s k;cases v with
   |bool t =>
    show pP c.call n Q (.rF (t==b) (IJ c b (e'::r') s k) (k (.bool t) s)) N X=W (if(t==b)=true then wA b (pk c (e'::r')) s else .ok (.bool t) s) _ X
    cases t==b
    ·rfl
    ·exact h s
   |_=>rfl
termination_by structural es
theorem IM(c:MC)(z:c.g=oP)(N:NT)(X:XT)(a:V)(y:af fv)(es:af aI)(s:St)(k:V->St->Tr):pP c.call n Q (QA c a y es s k) N X=W (q8 a y (pk c es) s) (λa s=>pP c.call n Q (k a s) N X) X:=match es with
 |[]=>by cases y with|nil=>rfl|cons o os=>cases os<;>rfl
 |e::r=>match y with
  |[]=>rfl
  |op::y=>match y,r with
   |[],[]=>o3 (oX c z N X e s _) λv s=>rfl
   |[],_::_=>rfl
   |_::_,[]=>rfl
   |R8::Xr,e'::r'=>o3 (oX c z N X e s _) λv s=>by
    have h:=λs=>IM c z N X v (R8::Xr) (e'::r') s k;show W (R.opt ((sX op a v s.σ).map .bool) s) (λx s=>pP c.call n Q (Xj x λb=>.rF b (QA c v (R8::Xr) (e'::r') s k) (k (.bool false) s)) N X) X=_;cases sX op a v s.σ with
    |none=>rfl
    |some t =>
     cases t
     ·rfl
     ·exact h s
termination_by structural es
theorem tg(c:MC)(z:c.g=oP)(N:NT)(X:XT)(e:aI)(o:St->(V->St->Tr)->Tr)(A:St->R V)(hw:∀s k,pP c.call n Q (o s k) N X=W (A s) (λa s=>pP c.call n Q (k a s) N X) X)(s:St)(k:aN->St->Tr) :
  pP c.call n Q (xG c e o s k) N X=W (s9 c e A s) (λa s=>pP c.call n Q (k a s) N X) X:=match e with
 |.UnaryOp op y p=>(match op with
  |.Not=>o3 (tg c z N X y _ _ (λs k=>oX c z N X y s k) s _) λb s=>rfl
  |.Invert|.UAdd|.USub=>o3 (hw s _) λv s=>by cases v<;>rfl)
 |.BoolOp op vs _=>v3 c z N X (op==.And) vs s k
 |.IfExp t a b _=>o3 (tg c z N X t _ _ (λs k=>oX c z N X t s k) s _) λq s=>by
  have ha:=tg c z N X a _ _ (λs k=>oX c z N X a s k) s k;have hb:=tg c z N X b _ _ (λs k=>oX c z N X b s k) s k;cases q
  ·exact hb
  ·exact ha
 |.Constant .. |.Name .. |.BinOp .. |.Compare .. |.Tuple .. |.List .. |.Attribute .. |.Subscript .. |.Call .. |.NamedExpr .. |.Lambda .. |.Dict .. |.Set .. |.ListComp .. |.SetComp .. |.DictComp .. |.GeneratorExp .. |.Await .. |.Yield .. |.YieldFrom .. |.FormattedValue .. |.JoinedStr .. |.Starred .. |.Slice ..=>o3 (hw s _) λv s=>by cases v<;>rfl
termination_by structural e
theorem v3(c:MC)(o:c.g=oP)(N:NT)(X:XT)(b:aN)(es:af aI)(s:St)(k:aN->St->Tr):pP c.call n Q (wU c b es s k) N X=W (q9 c b es s) (λa s=>pP c.call n Q (k a s) N X) X:=match es with
 |[]=>rfl
 |e::r=>o3 (tg c o N X e _ _ (λs k=>oX c o N X e s k) s _) λq s=>by
  have h:=v3 c o N X b r s k;show pP c.call n Q (.rF (q==b) (wU c b r s k) (k q s)) N X=W (if(q==b)=true then q9 c b r s else .ok q s) _ X
  cases q==b
  ·rfl
  ·exact h
termination_by structural es
theorem Kx(c:MC)(o:c.g=oP)(N:NT)(X:XT)(gs:af aR)(s:St)(k:V->St->Tr):pP c.call n Q (Nq c gs s k) N X=W (firstIter c gs s) (λa s=>pP c.call n Q (k a s) N X) X:=match gs with
 |[]=>rfl
 |⟨_,it,_,_⟩::_=>oX c o N X it s k
termination_by structural gs
theorem Nt(c:MC)(o:c.g=oP)(N:NT)(X:XT)(gs:af aR)(y:St->(V->St->Tr)->Tr)(z:St->R V)(A:∀N s k,pP c.call n Q (y s k) N X=W (z s) (λa s=>pP c.call n Q (k a s) N X) X)(items:af V)(s:St)(k:af V->St->Tr) :
  pP c.call n Q (SG c gs y items s k) N X=W (rX c gs z items s) (λa s=>pP c.call n Q (k a s) N X) X:=match gs with
 |[]=>rfl
 |⟨t,it,ifs,as⟩::gs=>lpE (λv acc s N'=>o3 (tR c o N' X t v s _) λu_ s=>o3 (v3 c o N' X true ifs s _) λq s=>by
   have h:=Fy c o N' X gs y z A acc s;cases q
   ·rfl
   ·exact h) items [] s
termination_by structural gs
theorem Fy(c:MC)(o:c.g=oP)(N:NT)(X:XT)(gs:af aR)(y:St->(V->St->Tr)->Tr)(z:St->R V)(A:∀N s k,pP c.call n Q (y s k) N X=W (z s) (λa s=>pP c.call n Q (k a s) N X) X)(acc:af V)(s:St) :
  pP c.call n Q (IK c gs y acc s) N X=W (qy c gs z acc s) (λacc s=>N true acc s) X:=match gs with
 |[]=>o3 (A N s _) λv s=>by
  show W (if acc.length<qf then R.ok v s else .stuck) (λv s=>N true (acc++[v]) s) X=W (if acc.length<qf then R.ok (acc++[v]) s else .stuck) _ X
  by_cases e:acc.length<qf
  ·rw[aO e,aO e];rfl
  ·rw[aT e,aT e];rfl
 |⟨t,it,ifs,as⟩::gs=>o3 (oX c o N X it s _) λv s=>by
  have h:∀items,pP c.call n Q (.lp items acc s (λv acc s=>sV c t v s (λs=>wU c true ifs s (λq s=>.rF q (IK c gs y acc s) (.nx true acc s)))) (λacc s=>.nx true acc s)) N X=W (rS (λv acc s=>(o4 c t v s).bind λu_ s=>(q9 c true ifs s).bind λk s=>if k then qy c gs z acc s else .ok acc s) items acc s) (λacc s=>N true acc s) X:=λitems =>
   lpE (λv acc s N'=>o3 (tR c o N' X t v s _) λu_ s=>o3 (v3 c o N' X true ifs s _) λq s=>by
    have h:=Fy c o N' X gs y z A acc s;cases q
    ·rfl
    ·exact h) items acc s
  cases pR v with
  |none=>rfl
  |some items=>exact h items
termination_by structural gs
theorem tR(c:MC)(y:c.g=oP)(N:NT)(X:XT)(e:aI)(v:V)(s:St)(k:St->Tr):pP c.call n Q (sV c e v s k) N X=W (o4 c e v s) (λu_ s=>pP c.call n Q (k s) N X) X:=match e with
 |.Name x _=>Xn
 |.Tuple ts _ _=>xH (by
  have h:=λl s=>y4 c y N X ts l s k;refine(QB λl=>h l s).trans ?_;unfold vU;rw[y3]<;>cases v<;>rfl)
 |.Subscript o i _=>o3 (oX c y N X o s _) λd s=>o3 (oX c y N X i s _) λj s=>aaC
 |.BoolOp .. |.NamedExpr .. |.BinOp .. |.UnaryOp .. |.Lambda .. |.IfExp .. |.Dict .. |.Set .. |.ListComp .. |.SetComp .. |.DictComp .. |.GeneratorExp .. |.Await .. |.Yield .. |.YieldFrom .. |.Compare .. |.Call .. |.FormattedValue .. |.JoinedStr .. |.Constant .. |.Attribute .. |.Starred .. |.List .. |.Slice ..=>rfl
termination_by structural e
theorem y4(c:MC)(o:c.g=oP)(N:NT)(X:XT)(es:af aI)(l:af V)(s:St)(k:St->Tr):pP c.call n Q (AE (AF c es) l s k) N X=W (r9 (sd c es) l s) (λu_ s=>pP c.call n Q (k s) N X) X:=match es with
 |[]=>by cases l<;>rfl
 |e::r=>by
  have h1:=λv s k=>tR c o N X e v s k;have h2:=λl s=>y4 c o N X r l s k;cases l with
  |nil=>rfl
  |cons v vs=>exact o3 (h1 v s _) λu_ s=>h2 vs s
termination_by structural es
end
theorem aaD(o:c.g=oP){e:aI}{s:St}{k:pq->St->Tr}:pP c.call n Q (pw c e s (λv s=>k (.val v) s)) N X=W ((oO c e s).bind λv s=>.ok (.val v) s) (λa s=>pP c.call n Q (k a s) N X) X:=o3 (oX c o N X e s _) λv s=>rfl
theorem IP(o:c.g=oP)(e:aI)(s:St)(k:pq->St->Tr):pP c.call n Q (Um c e s k) N X=W (vy c e s) (λa s=>pP c.call n Q (k a s) N X) X:=by
 cases e with
 |List es p=>exact o3 (tQ c o N X es s _) λvs s=>Nr rfl
 |_=>exact aaD o
theorem Fz(o:c.g=oP):∀(es:af aI)(s:St)(k:af pq->St->Tr),pP c.call n Q (IL c es s k) N X=W (rB c es s) (λa s=>pP c.call n Q (k a s) N X) X
 |[],s,k=>rfl
 |[e],s,k=>o3 (IP o e s (λb s=>k [b] s)) λb s=>rfl
 |e::e'::r,s,k=>o3 (oX c o N X e s _) λv s=>o3 (Fz o (e'::r) s _) λbs s=>rfl
noncomputable abbrev FN(c:MC)(n:Nat)(Q:V->af Cell->Prop)(N:NT)(X:XT)(k:St->Tr)(f:Fl)(s:St):Prop:=match f with
 |.next=>pP c.call n Q (k s) N X
 |.ret v=>HB n Q v s.σ
theorem Up{r:R cV}{k:St->Tr}:W r (λu_ s=>pP c.call n Q (k s) N X) X=W (r.bind λu_ s=>R.ok Fl.next s) (FN c n Q N X k) X:=by cases r<;>rfl
theorem QC(z:c.g=oP)(t e:aI)(s:St)(k:St->Tr):pP c.call n Q (Xk c t e s k) N X=W (rT c t e s) (FN c n Q N X k) X:=by
 have h1:∀t,pP c.call n Q (pw c e s (λv s=>sV c t v s k)) N X=W ((oO c e s).bind λv s=>(o4 c t v s).bind λu_ s=>R.ok Fl.next s) (FN c n Q N X k) X:=λt =>
  o3 (oX c z N X e s _) λv s=>(tR c z N X t v s k).trans Up
 cases t with
 |Name x p=>exact o3 (IP z e s (λb s=>LT (qs c x b s) (λu_ s=>k s))) λb s=>Xn.trans Up
 |Tuple y m p =>
  have h:=h1 (.Tuple y m p);show pP c.call n Q (match rH (.Tuple y m p) e with
  |some (xs,vs)=>yd (se xs vs) (IL c vs s (λbs s=>LT (pY c xs bs s) (λu_ s=>k s)))
  |none=>pw c e s (λv s=>sV c (.Tuple y m p) v s k)) N X=W (match rH (.Tuple y m p) e with
  |some (xs,vs)=>if se xs vs then(rB c vs s).bind λbs s=>(pY c xs bs s).bind λu_ s=>R.ok Fl.next s else R.stuck
  |none=>(oO c e s).bind λv s=>(o4 c (.Tuple y m p) v s).bind λu_ s=>R.ok Fl.next s) _ X
  cases rH (.Tuple y m p) e with
  |none=>exact h
  |some p=>exact xH (o3 (Fz z _ s _) λv s=>Xn.trans Up)
 |Subscript o i p=>exact h1 (.Subscript o i p)
 |_=>rfl
theorem Ky(o:c.g=oP)(t e:aI)(s:St)(k:af V->St->Tr):pP c.call n Q (HD c t e s k) N X=W (rG c t e s) (λa s=>pP c.call n Q (k a s) N X) X:=by
 unfold HD rG;cases xe c e with
 |some p =>
  refine xH (o3 (oX c o N X _ s _) λx s=>o3 (oX c o N X _ s _) λy s=>?_);cases x with
  |tup l=>cases y<;>rfl
  |_=>rfl
 |none =>
  dsimp only;cases xf c e with
  |some a =>
   refine o3 (oX c o N X a s _) λx s=>?_;cases x<;>rfl
  |none =>
   refine o3 (oX c o N X e s _) λv s=>?_;cases pR v<;>rfl
theorem Xs{st:V->St->R cV}{bd:St->R Fl}{B:V->af V->St->Tr}{k:St->Tr}(h:∀v acc s N',pP c.call n Q (B v acc s) N' X=W ((st v s).bind λu_ s=>bd s) (λf s=>match f with|.next=>N' true [] s|.ret v=>HB n Q v s.σ) X) :
  ∀(l:af V)(s:St),Qy (λv acc s N'=>pP c.call n Q (B v acc s) N' X) (λu_ s=>pP c.call n Q (k s) N X) l [] s=W (vh st bd l s) (FN c n Q N X k) X
 |[],_=>rfl
 |v::r,s=>by
  have ih:=Xs (k:=k) h r;show pP c.call n Q (B v [] s) (λu_ acc s=>Qy _ _ r acc s) X=W ((st v s).bind λu_ s=>(bd s).bind λf s=>(match f with|.next=>vh st bd r s|.ret v=>.ok (.ret v) s)) _ X
  rw[h,zu,zu];refine aD (λF=>W (st v s) F X) (funext λu_=>funext λs=>o3 rfl λf s=>?_);cases f with
  |next=>exact ih s
  |ret v=>rfl
theorem whE{rF:St->R aN}{bd:St->R Fl}{B:St->Tr}{k:St->Tr}(h:∀s N',pP c.call n Q (B s) N' X=W (rF s) (λb s=>match b with|true=>W (bd s) (λf s=>match f with|.next=>N' true [] s|.ret v=>HB n Q v s.σ) X|false=>N' false [] s) X) :
  ∀(m:Nat)(s:St),Ul (λs N'=>pP c.call n Q (B s) N' X) (λs=>pP c.call n Q (k s) N X) m s=W (t5 rF bd m s) (FN c n Q N X k) X
 |0,_=>rfl
 |m+1,s=>by
  have ih:=whE (k:=k) h m;refine(h s _).trans ((aD (λF=>W (rF s) F X) (funext λb=>funext λs=>?_)).trans zu.symm);cases b with
  |false=>rfl
  |true =>
   refine(?_:_=W ((bd s).bind λf s=>(match f with|.next=>t5 rF bd m s|.ret v=>.ok (.ret v) s)) _ X)
   refine o3 rfl λf s=>?_;cases f with
   |next=>exact ih s
   |ret v=>rfl
mutual
theorem Nu(c:MC)(y:c.g=oP)(N:NT)(X:XT)(st:cW)(s:St)(k:St->Tr):pP c.call n Q (SH c st s k) N X=W (vz c st s) (FN c n Q N X k) X:=match st with
 |.Return v _=>match v with
  |none=>rfl
  |some e=>o3 (oX c y N X e s _) λv s=>rfl
 |.Assign ts e _=>match ts with
  |[]=>rfl
  |[t]=>QC y t e s k
  |_::_::_=>rfl
 |.If t b o _=>o3 (tg c y N X t _ _ (λs k=>oX c y N X t s k) s _) λq s=>by
  have ha:=sJ c y N X b s k;have hb:=sJ c y N X o s k;cases q
  ·exact hb
  ·exact ha
 |.For t it b o _=>xH (o3 (Ky y t it s _) λitems s=>by
   have hb:=λN s=>sJ c y N X b s (λs=>.nx true [] s);exact Xs (λv acc s N'=>o3 (tR c y N' X t v s _) λu_ s=>hb N' s) items s)
 |.While t b o _=>xH (by
   have hb:=λN s=>sJ c y N X b s (λs=>.nx true [] s);refine whE (λs N'=>(tg c y N' X t _ _ (λs k=>oX c y N' X t s k) s _).trans (aD (λF=>W _ F X) (funext λq=>funext λs=>?_))) c.wf s;cases q
   ·rfl
   ·exact hb N' s)
 |.Expr e _=>xH (o3 (oX c y N X e s _) λv s=>rfl)
 |.Raise e f _=>match e,f with
  |none,_=>rfl
  |some e,none=>xH (o3 (oX c y N X e s _) λv s=>by cases v<;>rfl)
  |some e,some f=>rfl
 |.Try b hs o f _=>xH (by
   have hb:=λN X=>sJ c y N X b s (λs=>.nx true [] s);cases qP c hs with
   |none=>rfl
   |some z =>
    refine(hb _ _).trans ?_;show _=W (BY (o7 c b s) (some z)) _ X;cases o7 c b s with
    |ok f s=>cases f<;>rfl
    |_=>rfl)
 |.FunctionDef .. |.AsyncFunctionDef .. |.ClassDef .. |.Delete .. |.TypeAlias .. |.AugAssign .. |.AnnAssign .. |.AsyncFor .. |.With .. |.AsyncWith .. |.Match .. |.TryStar .. |.Assert .. |.Import .. |.ImportFrom .. |.Global .. |.Nonlocal .. |.Pass .. |.Break .. |.Continue ..=>rfl
termination_by structural st
theorem sJ(c:MC)(y:c.g=oP)(N:NT)(X:XT)(o:af cW)(s:St)(k:St->Tr):pP c.call n Q (uX c o s k) N X=W (o7 c o s) (FN c n Q N X k) X:=match o with
 |[]=>rfl
 |st::r=>by
  have h1:=λk=>Nu c y N X st s k;have h2:=λs=>sJ c y N X r s k;refine o3 (h1 _) λf s=>?_;cases f
  ·exact h2 s
  ·rfl
termination_by structural o
end
end
noncomputable def Du(t:Tr):(aN->af V->St->Tr)->Tr:=Tr.rec (motive:=λu_=>(aN->af V->St->Tr)->Tr)
 (λu_=>.no) (λv σ u_=>.ret v σ) (λb acc s f=>f b acc s) (λw p σ u_=>.rQ w p σ)
 (λf vs σ u_ ih g=>.call f vs σ λv σ=>ih v σ g) (λf s u_ ih g=>.lv f s λv s=>ih v s g) (λb u_ u_ A B g=>.rF b (A g) (B g))
 (λl acc s B u_ u_ k g=>.lp l acc s B λacc s=>k acc s g) (λn s B u_ u_ k g=>.wh n s B λs=>k s g)
 (λB u_ u_ u_ h k g=>.tr B (λw p σ=>h w p σ g) (λs=>k s g)) t
noncomputable def Xu(t:Tr):Tr:=match t with
 |.lv f s k=>LT (f s) k
 |.rF b A B=>YE b A B
 |.lp l acc s B k=>(match l with
  |[]=>k acc s
  |v::r=>Du (B v acc s) λu_ acc s=>.lp r acc s B k)
 |.wh n s B k=>(match n with
  |0=>.no
  |n+1=>Du (B s) λb u_ s=>YE b (.wh n s B k) (k s))
 |t=>t
noncomputable def HE(k:Nat)(t:Tr):aN:=match t with
 |.rF _ _ _=>bH k 0
 |.lv _ _ _=>bH k 1
 |.lp _ _ _ _ _=>bH k 2
 |.wh _ _ _ _=>bH k 3
 |_=>true
noncomputable def Uq(k:Nat):Nat->Nat->Tr->Tr
 |0,_,t=>t
 |n+1,i,t=>(match HE k t with
  |true=>(match i with
   |0=>t
   |i+1=>Uq k n i (Xu t))
  |false=>Uq k n i (Xu t))
theorem Nv{k n i:Nat}{t:Tr}:Uq k (n+1) i t=(match HE k t with
  |true=>(match i with
   |0=>t
   |i+1=>Uq k n i (Xu t))
  |false=>Uq k n i (Xu t)):=rfl
@[irreducible] noncomputable def to(k i:Nat)(t:Tr):Tr:=Uq k 200 i t
@[irreducible] noncomputable def kc(t:Tr):V->af Cell->Tr:=match to 4 0 t with
 |.call _ _ _ k=>k
 |_=>λu_ u_=>.no
@[irreducible] noncomputable def kt(i:Nat)(t:Tr)(b:aN):Tr:=match to 0 i t with
 |.rF _ A B=>YE b A B
 |_=>.no
@[irreducible] noncomputable def tb(i:Nat)(t:Tr):aN:=match to 0 i t with
 |.rF b _ _=>b
 |_=>true
@[irreducible] noncomputable def uA(i:Nat)(t:Tr):St:=match to 1 i t with
 |.lv _ s _=>s
 |_=>⟨[],[]⟩
@[irreducible] noncomputable def kv(i:Nat)(t:Tr):V->St->Tr:=match to 1 i t with
 |.lv _ _ k=>k
 |_=>λu_ u_=>.no
@[irreducible] noncomputable def HF(i:Nat)(t:Tr):V->af V->St->Tr:=match to 2 i t with
 |.lp _ _ _ B _=>B
 |_=>λu_ u_ u_=>.no
@[irreducible] noncomputable def Nw(i:Nat)(t:Tr):af V->St->Tr:=match to 2 i t with
 |.lp _ _ _ _ k=>k
 |_=>λu_ u_=>.no
@[irreducible] noncomputable def VT(t:Tr):St->Tr:=match to 3 0 t with
 |.wh _ _ B _=>B
 |_=>λu_=>.no
@[irreducible] noncomputable def YG(t:Tr):St->Tr:=match to 3 0 t with
 |.wh _ _ _ k=>k
 |_=>λu_=>.no
@[irreducible] noncomputable def trB(t:Tr):Tr:=match to 4 0 t with
 |.tr B _ _=>B
 |_=>.no
@[irreducible] noncomputable def trH(t:Tr):V->V->af Cell->Tr:=match to 4 0 t with
 |.tr _ h _=>h
 |_=>λu_ u_ u_=>.no
@[irreducible] noncomputable def trK(t:Tr):St->Tr:=match to 4 0 t with
 |.tr _ _ k=>k
 |_=>λu_=>.no
@[irreducible] noncomputable def HG(fn:Fn)(K:sY)(wf:Nat)(vs:af V)(σ:af Cell):Tr:=uX ⟨oP,K,wf,fn.names,[]⟩ fn.body ⟨qd fn.params vs++qF fn.params fn.names,σ⟩ (λs=>.ret .none s.σ)
structure FR where
 n:Nat
 Q:V->af Cell->Prop
 N:NT
 X:XT
@[irreducible] noncomputable def pL(K:sY)(φ:FR)(p:Tr):Prop:=pP K φ.n φ.Q p φ.N φ.X
section
variable{K:sY}{n:Nat}{Q:V->af Cell->Prop}{φ:FR}{p:Tr}
theorem IQ:∀(t:Tr)(f:aN->af V->St->Tr)(N:NT)(X:XT),pP K n Q (Du t f) N X=pP K n Q t (λb acc s=>pP K n Q (f b acc s) N X) X:=by
 intro t
 induction t using Tr.rec with
 |no|ret|nx|rQ=>intro f N X;rfl
 |call f vs σ k ih=>intro g N X;exact aD (λF=>CW (K f vs σ) F X) (funext λv=>funext λσ=>ih v σ g N X)
 |lv f s k ih=>intro g N X;exact aD (λF=>W (f s) F X) (funext λv=>funext λs=>ih v s g N X)
 |rF b A B ha hb =>
  intro g N X
  induction b using aJ
  ·exact hb g N X
  ·exact ha g N X
 |lp l acc s B k hb hk=>intro g N X;exact aD (λF=>Qy (λv acc s N'=>pP K n Q (B v acc s) N' X) F l acc s) (funext λacc=>funext λs=>hk acc s g N X)
 |wh m s B k hb hk=>intro g N X;exact aD (λF=>Ul (λs N'=>pP K n Q (B s) N' X) F m s) (funext λs=>hk s g N X)
 |tr B h k hb hh hk =>
  intro g N X;refine(?_:pP K n Q B (λu_ u_ s=>pP K n Q (Du (k s) g) N X) (λw p σ=>pP K n Q (Du (h w p σ) g) N X)=_)
  rw[show(λ(u_:aN) (_:af V) s=>pP K n Q (Du (k s) g) N X)=λu_ u_ s=>pP K n Q (k s) (λb acc s=>pP K n Q (g b acc s) N X) X from funext λu_=>funext λu_=>funext λs=>hk s g N X,
   show(λw p σ=>pP K n Q (Du (h w p σ) g) N X)=λw p σ=>pP K n Q (h w p σ) (λb acc s=>pP K n Q (g b acc s) N X) X from funext λw=>funext λp=>funext λσ=>hh w p σ g N X]
  rfl
theorem Nx{o:Type}{r:R o}{Q Q':o->St->Prop}{X y:XT}(h:W r Q X)(z:∀a s,Q a s->Q' a s)(hx:∀w p σ,X w p σ->y w p σ):W r Q' y:=by
 induction r using R.casesOn with
 |ok a s=>exact z a s h
 |rQ w p σ=>exact hx w p σ h
 |stuck=>exact h
theorem QD{r:R V}{Q Q':V->af Cell->Prop}{X o:XT}(h:CW r Q X)(y:∀v σ,Q v σ->Q' v σ)(hx:∀w p σ,X w p σ->o w p σ):CW r Q' o:=by
 rw[xF]at h ⊢;exact Nx h (λu_ u_=>y _ _) hx
theorem IS{P o:V->af V->St->NT->Prop}{Z y:af V->St->Prop}(hp:∀v acc s N N',(∀b acc s,N b acc s->N' b acc s)->P v acc s N->o v acc s N')(hz:∀acc s,Z acc s->y acc s):∀(l acc:af V)(s:St),Qy P Z l acc s->Qy o y l acc s
 |[],acc,s,h=>hz acc s h
 |v::r,acc,s,h=>hp v acc s _ _ (λu_ acc s h=>IS hp hz r acc s h) h
theorem IT{P o:St->NT->Prop}{Z y:St->Prop}(hp:∀s N N',(∀b acc s,N b acc s->N' b acc s)->P s N->o s N')(hz:∀s,Z s->y s):∀(n:Nat)(s:St),Ul P Z n s->Ul o y n s
 |0,s,h=>h
 |n+1,s,h=>hp s _ _ (λb u_ s h=>by cases b with|true=>exact IT hp hz n s h|false=>exact hz s h) h
theorem xJ(t:Tr):∀{N N':NT} {X o:XT},(∀b acc s,N b acc s->N' b acc s)->(∀w p σ,X w p σ->o w p σ)->pP K n Q t N X->pP K n Q t N' o:=by
 induction t using Tr.rec with
 |no|ret=>intro N N' X o h hx z;exact z
 |nx b acc s=>intro N N' X o h hx z;exact h b acc s z
 |rQ w p σ=>intro N N' X o h hx z;exact hx w p σ z
 |call f vs σ k ih=>intro N N' X o h hx z;exact QD z (λv σ=>ih v σ h hx) hx
 |lv f s k ih=>intro N N' X o h hx z;exact Nx z (λv s=>ih v s h hx) hx
 |rF b A B ha hb =>
  intro N N' X o h hx z
  induction b using aJ
  ·exact hb h hx z
  ·exact ha h hx z
 |lp l acc s B k hb hk=>intro N N' X o h hx z;exact IS (λv acc s N N' hN=>hb v acc s hN hx) (λacc s=>hk acc s h hx) l acc s z
 |wh m s B k hb hk=>intro N N' X o h hx z;exact IT (λs N N' hN=>hb s hN hx) (λs=>hk s h hx) m s z
 |tr B h k hb hh hk=>intro N N' X o h hx z;exact hb (λu_ u_ s=>hk s h hx) (λw p σ=>hh w p σ h hx) z
theorem IU{N:NT}{X:XT}(t:Tr):pP K n Q (Xu t) N X->pP K n Q t N X:=λh=>by
 cases t with
 |lv f s k =>
  have h:pP K n Q (LT (f s) k) N X:=h;refine(?_:W (f s) _ X);cases e:f s with
  |ok a s=>replace h:=(e)▸h;exact h
  |rQ w p σ=>replace h:=(e)▸h;exact h
  |stuck=>replace h:=(e)▸h;exact h
 |rF b A B=>induction b using aJ<;>exact h
 |lp l acc s B k =>
  induction l using bN with
  |nil=>exact h
  |cons v r =>
   have h:pP K n Q (Du (B v acc s) λu_ acc s=>.lp r acc s B k) N X:=h;simp only[IQ]at h;exact h
 |wh m s B k =>
  induction m using i0 with
  |zero=>exact h
  |succ m =>
   have h:pP K n Q (Du (B s) λb u_ s=>YE b (.wh m s B k) (k s)) N X:=h;simp only[IQ]at h;exact xJ (B s) (N':=λb u_ s=>match b with|true=>pP K n Q (.wh m s B k) N X|false=>pP K n Q (k s) N X) (λb u_ s h=>by induction b using aJ<;>exact h) (λu_ u_ u_ h=>h) h
 |_=>exact h
theorem Dv{N:NT}{X:XT}(k:Nat):∀(m i:Nat)(t:Tr),pP K n Q (Uq k m i t) N X->pP K n Q t N X
 |0,_,_,h=>h
 |m+1,i,t,h=>by
  rw[Nv]at h;cases e:HE k t with
  |true =>
   rw[e]at h;cases i with
   |zero=>exact h
   |succ i=>exact IU t (Dv k m i _ h)
  |false=>rw[e]at h;exact IU t (Dv k m i _ h)
theorem Ur{N:NT}{X:XT}{k i:Nat}{t q:Tr}(e:to k i t=q)(h:pP K n Q q N X):pP K n Q t N X:=by
 unfold to at e;subst e;exact Dv k 200 i t h
theorem tH{k i:Nat}{q:Tr}(e:to k i p=q)(h:pP K φ.n φ.Q q φ.N φ.X):pL K φ p:=by
 unfold pL;exact Ur e h
theorem oG{f:Str}{vs:af V}{σ:af Cell}(z:CW (K f vs σ) (λv σ=>let q:=kc p v σ;pL K φ q) φ.X)(e:to 4 0 p=.call f vs σ (kc p):=by kernel_rfl!):pL K φ p:=tH e (by dsimp only at z;unfold pL at z;exact z)
theorem oJ{v:V}{σ:af Cell}(z:HB φ.n φ.Q v σ)(e:to 4 0 p=.ret v σ:=by kernel_rfl!):pL K φ p:=tH e z
theorem p9{b:aN}{acc:af V}{s:St}(z:φ.N b acc s)(e:to 4 0 p=.nx b acc s:=by kernel_rfl!):pL K φ p:=tH e z
theorem uc{w v:V}{σ:af Cell}(z:φ.X w v σ)(e:to 4 0 p=.rQ w v σ:=by kernel_rfl!):pL K φ p:=tH e z
theorem qV{b:aN}(i:Nat)(z:b=true->let q:=kt i p true;pL K φ q)(o:b=false->let q:=kt i p false;pL K φ q)(e:to 0 i p=.rF b (kt i p true) (kt i p false):=by kernel_rfl!):pL K φ p:=tH e (by
 unfold pL at z o
 induction b using aJ
 ·exact o rfl
 ·exact z rfl)
theorem Dw(i:Nat)(z:∀b,let q:=kt i p b;pL K φ q)(e:to 0 i p=.rF (tb i p) (kt i p true) (kt i p false):=by kernel_rfl!):pL K φ p:=tH e (by
 dsimp only at z;have z1:=z true;have o:=z false;unfold pL at z1 o;cases tb i p
 ·exact o
 ·exact z1)
theorem Bi{b c:aN}(i:Nat)(h:b=c)(z:let q:=kt i p c;pL K φ q)(e:to 0 i p=.rF b (kt i p true) (kt i p false):=by kernel_rfl!):pL K φ p:=tH e (by
 subst h;dsimp only at z;unfold pL at z;induction b using aJ<;>exact z)
theorem oW{f:St->R V}(i:Nat){v:V}(h:∀s,f s=.ok v s)(z:let q:=kv i p v (uA i p);pL K φ q)(e:to 1 i p=.lv f (uA i p) (kv i p):=by kernel_rfl!):pL K φ p:=tH e (by
 refine(?_:W (f _) _ _);refine rg (h ..) ?_;dsimp only at z;unfold pL at z;exact z)
theorem yB{f:St->R V}(i:Nat){v:V}{σ:af Cell}(h:∀ρ,f ⟨ρ,σ⟩=.ok v ⟨ρ,σ⟩)(z:let q:=kv i p v ⟨(uA i p).ρ,σ⟩;pL K φ q)(e:to 1 i p=.lv f ⟨(uA i p).ρ,σ⟩ (kv i p):=by kernel_rfl!):pL K φ p:=tH e (by
 refine(?_:W (f _) _ _);refine rg (h ..) ?_;dsimp only at z;unfold pL at z;exact z)
theorem zk{f:St->R V}(i:Nat){v:V}(g:St->St)(h:∀s,f s=.ok v (g s))(z:let q:=kv i p v (g (uA i p));pL K φ q)(e:to 1 i p=.lv f (uA i p) (kv i p):=by kernel_rfl!):pL K φ p:=tH e (by
 refine(?_:W (f _) _ _);refine rg (h ..) ?_;dsimp only at z;unfold pL at z;exact z)
theorem Ny{f:St->R V}(i:Nat){v:V}{ρ:af (Str×pq)}{σ σ':af Cell}(h:f ⟨ρ,σ⟩=.ok v ⟨ρ,σ'⟩)(z:let q:=kv i p v ⟨ρ,σ'⟩;pL K φ q)(e:to 1 i p=.lv f ⟨ρ,σ⟩ (kv i p):=by kernel_rfl!):pL K φ p:=tH e (by
 refine(?_:W (f _) _ _);refine rg (h) ?_;dsimp only at z;unfold pL at z;exact z)
theorem HH {z y:Type} {P:V->af V->St->NT->Prop} {Z:af V->St->Prop} (f:z->V) (o:y->af V) (gS:y->St) (I:af z->y->Prop) (hb:∀v r b,I (v::r) b->P (f v) (o b) (gS b) λu_ acc s=>∃b,acc=o b/\s=gS b/\I r b)
  (hm:∀v acc s N N',(∀b acc s,N b acc s->N' b acc s)->P v acc s N->P v acc s N') (hk:∀b,I [] b->Z (o b) (gS b)) :
  ∀(l:af z)(b:y),I l b->Qy P Z (l.map f) (o b) (gS b)
 |[],b,h=>hk b h
 |v::r,b,h=>hm (f v) _ _ _ _ (λ_ acc s ⟨b,h1,h2,h⟩=>by subst h1;subst h2;exact HH f o gS I hb hm hk r b h) (hb v r b h)
theorem uY {z y:Type} (i:Nat) (f:z->V) (o:y->af V) (gS:y->St) (I:af z->y->Prop) (l:af z) (b:y) (h:I l b) (hb:∀v r b,I (v::r) b->let q:=HF i p (f v) (o b) (gS b);pL K {φ with N:=λu_ acc s=>∃b,acc=o b/\s=gS b/\I r b} q)
  (hk:∀b,I [] b->let q:=Nw i p (o b) (gS b);pL K φ q) (e:to 2 i p=.lp (l.map f) (o b) (gS b) (HF i p) (Nw i p):=by kernel_rfl!):pL K φ p:=tH e (by
 dsimp only at hb hk;unfold pL at hb hk;exact HH (P:=λv acc s N'=>pP K φ.n φ.Q (HF i p v acc s) N' φ.X) f o gS I hb (λv acc s N N' h=>xJ _ h λu_ u_ u_ h=>h) hk l b h)
theorem IV {y:Type} (i:Nat) (o:y->af V) (gS:y->St) (I:af V->y->Prop) (l:af V) (b:y) (h:I l b) (hb:∀v r b,I (v::r) b->let q:=HF i p v (o b) (gS b);pL K {φ with N:=λu_ acc s=>∃b,acc=o b/\s=gS b/\I r b} q)
  (hk:∀b,I [] b->let q:=Nw i p (o b) (gS b);pL K φ q) (e:to 2 i p=.lp l (o b) (gS b) (HF i p) (Nw i p):=by kernel_rfl!):pL K φ p:=uY i (λv=>v) o gS I l b h hb hk (rg (nA ..) e)
theorem Nz{o:Type}{F:o->af V}{x:o}{d r l:af o}(e:d++x::r=l):(d.flatMap F).length+(F x).length<=(l.flatMap F).length:=by
 subst e;simp only[hA,dP,av];exact R4  (.a .x .y) (.a .x (.a .y .z)) rfl
theorem um {o y:Type} (i:Nat) (f:o->V) (F:o->af V) (gS:y->St) (l:af o) (acc:af V) (b:y) (M:Nat) {R:af V} (hR:R=acc++l.flatMap F) (A:R.length<=M)
  (hb:∀x a b,a.length+(F x).length<=M->let q:=HF i p (f x) a (gS b);pL K {φ with N:=λu_ C s=>C=a++F x/\∃b,s=gS b} q)
  (hk:∀b,let q:=Nw i p R (gS b);pL K φ q) (e:to 2 i p=.lp (l.map f) acc (gS b) (HF i p) (Nw i p):=by kernel_rfl!):pL K φ p:=by
 refine uY i f (λz=>acc++z.1.flatMap F) (λz=>gS z.2) (λr (z:af o×y)=>z.1++r=l) l ([],b) rfl (λx r z h=>?_) (λz h=>?_) (e.trans (by exact rg (List.flatMap_nil ..) (rg (aY ..) rfl)))
 ·have hl:=Nz (F:=F) h;have:=hb x (acc++z.1.flatMap F) z.2 (by rw[hR,av]at A;rw[av];exact aB (ak (d6 ..)) (aB (dy hl _) A))
  unfold pL at this ⊢;refine xJ _ (λ_ a s ⟨h1,b,h2⟩=>?_) (λu_ u_ u_ h=>h) this;exact qZ ((z.1++[x],b)) (rg (h1 ..) (rg (hA ..) (rg (List.flatMap_singleton ..) (rg (a8 ..) rfl)))) h2 (rg (a8 ..) h)
 ·rw[aY]at h;refine(h).symm▸?_;refine(hR)▸?_;exact hk z.2
@[irreducible] noncomputable def FA(K:sY)(φ:FR)(p:Tr)(n:Nat)(s:St):Prop:=Ul (λs N'=>pP K φ.n φ.Q (VT p s) N' φ.X) (λs=>pP K φ.n φ.Q (YG p s) φ.N φ.X) n s
theorem aaF{m:Nat}{s:St}(z:FA K φ p m s)(e:to 3 0 p=.wh m s (VT p) (YG p):=by kernel_rfl!):pL K φ p:=tH e (by unfold FA at z;exact z)
theorem NB{m:Nat}{s:St}(z:let q:=VT p s;pL K {φ with N:=λb u_ s=>match b with|true=>FA K φ p m s|false=>pL K φ (YG p s)} q):FA K φ p (m+1) s:=by
 dsimp only at z;unfold pL FA at z;unfold FA;exact z
theorem Xv(z:pL K {φ with N:=λu_ u_ s=>pL K φ (trK p s),X:=λw q σ=>pL K φ (trH p w q σ)} (trB p))(e:to 4 0 p=.tr (trB p) (trH p) (trK p):=by kernel_rfl!):pL K φ p:=tH e (by unfold pL at z;exact z)
theorem IW{wf:Nat}{vs:af V}{fn:Fn}{σ:af Cell}{X:XT}(z:pL K ⟨σ.length,Q,λu_ u_ u_=>eu,HX σ.length X⟩ (HG fn K wf vs σ)) :
  CW (pS σ.length (o7 ⟨oP,K,wf,fn.names,[]⟩ fn.body ⟨qd fn.params vs++qF fn.params fn.names,σ⟩)) Q X:=by
 unfold pL HG at z;rw[sJ ⟨oP,K,wf,fn.names,[]⟩ rfl]at z;simp only[xF];generalize o7 ⟨oP,K,wf,fn.names,[]⟩ fn.body ⟨qd fn.params vs++qF fn.params fn.names,σ⟩=r at z;cases r with
 |stuck=>exact z
 |rQ w q σ'=>unfold pS;dsimp only;exact rg (aO z.1) z.2
 |ok f s =>
  have hb:∀v:V,HB σ.length Q v s.σ->W (if v.oQ=true then R.ok v ⟨[],s.σ.take σ.length⟩else .ok v ⟨[],s.σ⟩) (λv s=>Q v s.σ) X:=λv z=>by
   unfold HB at z;cases e:v.oQ with
   |true=>rw[e]at z;exact z
   |false=>rw[e]at z;exact z
  induction f using Fl.casesOn with
  |ret v=>exact hb v z
  |next=>exact hb .none z
theorem qk {wf m:Nat} {f:Str} {vs:af V} {fn:Fn} {σ:af Cell} {X:XT} (h1:oP.fns f=some fn) (h2:bH fn.params.length vs.length=true)
  (z:let φ:FR:=⟨σ.length,Q,λu_ u_ u_=>eu,HX σ.length X⟩;let p:=HG fn (o6 oP wf m) wf vs σ;pL (o6 oP wf m) φ p):CW (o6 oP wf (m+1) f vs σ) Q X:=by
 have e:o6 oP wf (m+1) f vs σ=pS σ.length (o7 ⟨oP,o6 oP wf m,wf,fn.names,[]⟩ fn.body ⟨qd fn.params vs++qF fn.params fn.names,σ⟩):=by
  refine(?_:(match oP.fns f with|none=>R.stuck|some fn=>_)=_)
  exact(h1)▸(aO (eA h2))
 exact(e)▸(IW z)
end
noncomputable def uZ:V->aN
 |.typ n=>!qM.contains n
 |_=>false
noncomputable def qK(f:Str)(vs:af V):aN:=match vs with
 |[v]=>uZ v&&f==S "is_array"
 |_=>false
noncomputable def oY(wf:Nat):Nat->sY
 |0=>λu_ u_ u_=>.stuck
 |n+1=>λf vs σ=>if qK f vs then .ok (.bool false) ⟨[],σ⟩else match oP.fns f with
  |none=>.stuck
  |some fn=>if fn.params.length=vs.length then pS σ.length (o7 ⟨oP,oY wf n,wf,fn.names,[]⟩ fn.body ⟨qd fn.params vs++qF fn.params fn.names,σ⟩)else .stuck
section
variable{Q:V->af Cell->Prop}{X:XT}
theorem oS {wf m:Nat} {f:Str} {vs:af V} {fn:Fn} {σ:af Cell} (h1:oP.fns f=some fn)
  (z:let φ:FR:=⟨σ.length,Q,λu_ u_ u_=>eu,HX σ.length X⟩;let p:=HG fn (oY wf m) wf vs σ;pL (oY wf m) φ p) (h2:bH fn.params.length vs.length=true:=by kernel_rfl!) (h0:qK f vs=false:=by kernel_rfl!):CW (oY wf (m+1) f vs σ) Q X:=by
 have e:oY wf (m+1) f vs σ=pS σ.length (o7 ⟨oP,oY wf m,wf,fn.names,[]⟩ fn.body ⟨qd fn.params vs++qF fn.params fn.names,σ⟩):=by
  show(if qK f vs=true then _ else match oP.fns f with|none=>R.stuck|some fn=>_)=_
  exact rg (h0 ..) (rg (aT (by decide)) (rg (h1 ..) (aO (eA h2))))
 exact rg (e ..) (IW z)
end
noncomputable def msg(x:cR):V:=.str (S x)
set_option genCtorIdx true in
inductive Nm where
 |n|x|k|b|r|v
noncomputable def Nm.s:Nm->Str
 |.n=>S "n" |.x=>S "x" |.k=>S "k" |.b=>S "b" |.r=>S "r" |.v=>S "v"
noncomputable def rD(i:Fin 4):Nm:=([.x,.n,.b,.k]:af Nm).getD i.val .x
theorem Xw{P:Fin 4->Prop}(h0:P 0)(h1:P 1)(h2:P 2)(o:P 3)(i:Fin 4):P i :=
 j8 (motive:=P) h0 (λi=>j8 (motive:=λi=>P i.succ) h1 (λi=>j8 (motive:=λi=>P i.succ.succ) h2 (λi=>j8 (motive:=λi=>P i.succ.succ.succ) o (λi=>i.elim0) i) i) i) i
inductive qe where
 |int(p:Int)(i:Fin 3)
 |name(p:Int)(x:Nm)
 |size(p:Int)(ix:aN)(q:Int)(x:Nm)
noncomputable def wu(p:Int)(x:Nm):V:=.tup [msg "name", .int p,.str x.s]
noncomputable def qe.toV:qe->V
 |.int p i=>.tup [msg "int", .int p,.int i.val]
 |.name p x=>wu p x
 |.size p ix q x=>.tup [msg "call", .int p,.str (match ix with|true=>S "index_set" |false=>S "length"),.tup [wu q x]]
structure Ec where
 p:Int
 eq:aN
 l:qe
 r:qe
noncomputable def Ec.toV(t:Ec):V:=.tup [msg "bin", .int t.p,.str (match t.eq with|true=>S "=" |false=>S "<"),t.l.toV,t.r.toV]
inductive Bj where
 |range(p q:Int)(l:qe)
 |pair(p:Int)(arr:aN)(a b:qe)
 |leaf(l:qe)
noncomputable def yC(p q:Int)(i:Fin 3)(l:qe):V:=.tup [msg "range", .int p,(qe.int q i).toV,l.toV]
noncomputable def Bj.toV:Bj->V
 |.range p q l=>yC p q 1 l
 |.pair p arr a b=>.tup [.str (match arr with|true=>S "array" |false=>S "set"),.int p,.tup [a.toV,b.toV]]
 |.leaf l=>l.toV
inductive HI where
 |none
 |xK(p q:Int)(l:qe)
noncomputable def HI.toV:HI->V
 |.none=>.none
 |.xK p q l=>yC p q 0 l
inductive Item where
 |con(p:Int)(t:Ec)
 |decl(p:Int)(var:aN)(bound:HI)(x:Nm)(l:qe)
noncomputable def Item.toV:Item->V
 |.con p t=>.tup [msg "constraint", .int p,t.toV]
 |.decl p var bound x l=>.tup [msg "decl", .int p,.tup [msg "int", .bool var,.tup [],bound.toV],.str x.s,l.toV]
structure Gen where
 names:af Nm
 src:Bj
noncomputable abbrev sv(l:af Str):af V:=l.map .str
noncomputable def vo(l:af Nm):af Str:=l.map Nm.s
noncomputable def rf(l:af Nm):V:=.tup (sv (vo l))
noncomputable def Gen.toV(g:Gen):V:=.tup [rf g.names,g.src.toV]
structure zl where
 l:af Gen
 h:(l.flatMap Gen.names).length<=2/\l.length<=2
noncomputable def zl.one(x:Nm)(s:Bj):zl:=⟨[⟨[x],s⟩],show 1<=2/\1<=2 by decide⟩
noncomputable def zl.two(x y:Nm)(s:Bj):zl:=⟨[⟨[x,y],s⟩],show 2<=2/\1<=2 by decide⟩
noncomputable def zl.both(x:Nm)(s:Bj)(y:Nm)(t:Bj):zl:=⟨[⟨[x],s⟩,⟨[y],t⟩],show 2<=2/\2<=2 by decide⟩
noncomputable def zl.toV(g:zl):V:=.tup (g.l.map Gen.toV)
inductive Kind where
 |comp(set:aN)
 |sum|forall|p
noncomputable def Kind.word:Kind->Str
 |.comp b=>(match b with|true=>S "set" |false=>S "array")
 |.sum=>S "sum" |.forall=>S "forall" |.p=>S "p"
noncomputable def Kind.op:Kind->Str
 |.comp _=>S "comp"
 |.sum|.forall|.p=>S "gen"
set_option genCtorIdx true in
inductive CF where
 |sum|length|p
noncomputable def CF.word:CF->Str
 |.sum=>S "sum" |.length=>S "length" |.p=>S "p"
inductive Wh where
 |none
 |rF(t:Ec)
noncomputable def Wh.toV:Wh->V
 |.none=>.none
 |.rF t=>t.toV
structure vM where
 l:af Item
 h:l.length<=2
noncomputable def vM.one(i:Item):vM:=⟨[i],show 1<=2 by decide⟩
noncomputable def vM.two(i j:Item):vM:=⟨[i,j],show 2<=2 by decide⟩
noncomputable def vM.toV(i:vM):V:=.tup (i.l.map Item.toV)
inductive sL where
 |leaf(l:qe)
 |bin(p:Int)(eq:aN)(a:sL)(l:qe)
 |index(p:Int)(base:qe)(i:sL)
 |cond(p:Int)(t:Ec)(a:sL)(l:qe)
 |call(p:Int)(f:CF)(q:Int)(a:sL)(l:qe)
 |BI(p:Int)(items:vM)(a:sL)
 |tX(p:Int)(k:Kind)(gens:zl)(wh:Wh)(a:sL)
noncomputable def sL.toV:sL->V
 |.leaf l=>l.toV
 |.bin p eq a l=>.tup [msg "bin", .int p,.str (match eq with|true=>S "=" |false=>S "+"),a.toV,l.toV]
 |.index p b i=>.tup [msg "index", .int p,b.toV,.tup [i.toV]]
 |.cond p t a l=>.tup [msg "if", .int p,.tup [.tup [t.toV,a.toV]],l.toV]
 |.call p f q a l=>.tup [msg "call", .int p,.str f.word,.tup [.tup [msg "array", .int q,.tup [a.toV,l.toV]]]]
 |.BI p items a=>.tup [msg "let", .int p,items.toV,a.toV]
 |.tX p k gens wh a=>.tup [.str k.op,.int p,.str k.word,gens.toV,wh.toV,a.toV]
noncomputable def sL.deep:sL->Nat
 |.leaf _=>0
 |.bin _ _ a _=>a.deep+1
 |.index _ _ a=>a.deep+1
 |.cond _ _ a _=>a.deep+1
 |.call _ _ _ a _=>a.deep+1
 |.BI _ _ a=>a.deep+1
 |.tX _ _ _ _ a=>a.deep+1
noncomputable def sr:Str:=S "!"
noncomputable def qe.asks:qe->af Str
 |.int _ _=>[]
 |.name _ x=>[x.s]
 |.size _ _ _ _=>[]
noncomputable def Ec.asks(t:Ec):af Str:=t.l.asks++t.r.asks
noncomputable def Bj.asks:Bj->af Str
 |.range _ _ l=>[]++l.asks
 |.pair _ _ a b=>a.asks++b.asks
 |.leaf l=>l.asks
noncomputable def pz(names:af Str)(x:Str):aN:=!(names.any λn=>a9 (.str n) (.str x))
noncomputable def less(l names:af Str):af Str:=l.filter (pz names)
noncomputable def HI.asks:HI->af Str
 |.none=>[]
 |.xK _ _ l=>[]++l.asks
noncomputable def rM(b:aN):af Str:=match b with
 |true=>[sr]
 |false=>[]
noncomputable def Item.asks(i:Item)(l:af Str):af Str:=match i with
 |.con _ t=>l++t.asks
 |.decl _ var bound x e=>less l [x.s]++bound.asks++e.asks++rM var
noncomputable def pF:af Item->af Str->af Str
 |[],l=>l
 |i::r,l=>i.asks (pF r l)
noncomputable def pe:af Gen->af Str->af Str
 |[],l=>l
 |g::r,l=>less (pe r l) (vo g.names)++g.src.asks
noncomputable def Wh.asks:Wh->af Str
 |.none=>[]
 |.rF t=>t.asks
noncomputable def Kind.Xx:Kind->aN
 |.p=>true
 |.comp _|.sum|.forall=>false
noncomputable def CF.Xx:CF->aN
 |.p=>true
 |.sum|.length=>false
noncomputable def sL.asks:sL->af Str
 |.leaf l=>l.asks
 |.bin _ _ a l=>a.asks++l.asks
 |.index _ b i=>b.asks++i.asks
 |.cond _ t a l=>t.asks++a.asks++l.asks
 |.call _ f _ a l=>a.asks++l.asks++rM f.Xx
 |.BI _ items a=>pF items.l a.asks
 |.tX _ k gens wh a=>pe gens.l (a.asks++wh.asks)++rM k.Xx
noncomputable def AL(k:Nat)(l:af Str):Prop:=l.length<=k
section
variable{wf m n k:Nat}{σ:af Cell}{Q:V->af Cell->Prop}{X:XT}{l l':af Str}
theorem yD{n:Nat}(h:n<=1000):n<qf:=cI h (by unfold qf;decide)
theorem AL.app(h:AL k l)(h':AL n l'):AL (k+n) (l++l'):=by unfold AL at *;exact rg (av ..) (cp h h')
theorem AL.less{x:af Str}(h:AL k l):AL k (less l x):=aB (kA ..) h
theorem pJ(h:AL k (l++l'))(hk:k<=1000)(s:St):sy .Add (.lst (sv l)) (.lst (sv l')) s=.ok (.lst (sv (l++l'))) s:=by
 refine(show sv (l++l')=sv l++sv l' from bw).symm▸?_;exact aO (by rw[<-bw,aK];exact gA (yD (aB h hk)))
noncomputable def qW(wf M:Nat)(v:V)(l:af Str):Prop:=∀(σ:af Cell){Q:V->af Cell->Prop} {X:XT},Q (.lst (sv l)) σ->CW (o6 oP wf M (S "_law_asks") [v] σ) Q X
theorem FC:∀l:af Str,V.qS (sv l)=true
 |[]=>rfl
 |_::r=>FC r
theorem rA(h:Q (.lst (sv l)) σ):HB σ.length Q (.lst (sv l)) σ:=by
 unfold HB;refine rg (show(V.lst (sv l)).oQ=true from FC l) ?_;dsimp only;exact rg (fX ..) h
theorem qb:∀l:qe,qW wf (m+1) l.toV l.asks:=λl σ Q X h=>by
 cases l with
 |int q i =>
  refine qk pU (by kernel_rfl!) ?_
  intro φ p;exact oJ (rA (l:=[]) h)
 |name q x =>
  refine qk pU (by kernel_rfl!) ?_
  intro φ p;exact oJ (rA (l:=[x.s]) h)
 |size q o q' x =>
  refine qk pU (by kernel_rfl!) ?_
  intro φ p
  induction o using aJ
  ·exact oJ (rA (l:=[]) h)
  ·exact oJ (rA (l:=[]) h)
theorem qc:∀l:qe,AL 1 l.asks
 |.int _ _=>bL _
 |.name _ _=>aL _
 |.size _ _ _ _=>bL _
theorem wV(t:Ec):AL 2 t.asks:=(qc t.l).app (qc t.r)
theorem FD{q:Int}{z:Str}{o y:V}{M:Nat}(ha:qW wf M o l)(hb:qW wf M y l')(hl:AL k (l++l'))(hk:k<=1000):qW wf (M+1) (.tup [msg "bin", .int q,.str z,o,y]) (l++l'):=λσ Q X h=>by
 refine qk pU (by kernel_rfl!) ?_
 intro φ p;refine oG (ha σ ?_)<;>intro p;refine oG (hb σ ?_)<;>intro p;refine oW 0 (pJ hl hk) ?_<;>intro p;exact oJ (rA h)
theorem xM(t:Ec):qW wf (m+2) t.toV t.asks:=FD (qb t.l) (qb t.r) (wV t) (by decide)
theorem v5:∀l:af Str,l.flatMap (λx=>[V.str x])=sv l
 |[]=>rfl
 |x::r=>aD (V.str x::·) (v5 r)
theorem qD{a:af V}{v:V}(h:a.length+1<=1000)(s:St):room a v s=.ok v s:=aO (yD (bD h))
theorem yE(h:AL k l)(hk:k<=1000):(sv l).length<=1000:=rg (aK ..) (aB h hk)
theorem Ck{op:aN}{q:Int}{o A:V}{M:Nat}(ha:qW wf M o l)(hb:qW wf M A l')(hl:AL k l)(C:AL n l')(hk:k+n<=1000):qW wf (M+1) (.tup [.str (match op with|true=>S "array" |false=>S "set"),.int q,.tup [o,A]]) (l++l'):=λσ Q X h=>by
 induction op using aJ
 all_goals
  refine qk pU (by kernel_rfl!) ?_
  intro φ p;refine(let D:FR:=_;(?_:pL _ D _))
  refine oG (ha σ ?_)<;>intro p
  let g1:pq->St:=λz=>⟨[(S ".0", .no),(S "part", .val o),(S "one", z)],σ⟩
  refine um 0 .str (λx=>[.str x]) g1 l [] .no 1000 (R:=sv l) (v5 _).symm (yE hl (by exact pZ (.a .x .y) (.n 1000) .x (.n 1000) rfl hk)) (λx d z hd=>?_) (λz=>?_)<;>intro p
  ·refine(let H:FR:=_;(?_:pL _ H _))
   refine oW 0 (v:=.str x) (qD hd) ?_<;>intro p;exact p9 (b:=true) ⟨rfl,.val (.str x),rfl⟩
  ·refine oG (hb σ ?_)<;>intro p
   let g2:pq->St:=λz=>⟨[(S ".0", .no),(S "part", .val A),(S "one", z)],σ⟩
   refine um 0 .str (λx=>[.str x]) g2 l' (sv l) z 1000 (R:=sv (l++l')) (rg (v5 ..) bw) (yE (hl.app C) hk) (λx d z hd=>?_) (λz=>?_)<;>intro p
   ·refine(let O:FR:=_;(?_:pL _ O _))
    refine oW 0 (v:=.str x) (qD hd) ?_<;>intro p;exact p9 (b:=true) ⟨rfl,.val (.str x),rfl⟩
   ·exact oJ (rA h)
theorem AG:∀s:Bj,AL 2 s.asks
 |.range _ _ l=>fP (qc l)
 |.pair _ _ a b=>(qc a).app (qc b)
 |.leaf l=>fP (qc l)
theorem AH{q q':Int}{i:Fin 3}{l:qe}:qW wf (m+2) (yC q q' i l) ([]++l.asks):=λσ Q X h=>by
 refine qk pU (by kernel_rfl!) ?_
 intro φ p;refine oG (qb (.int q' i) σ ?_)<;>intro p;refine oG (qb l σ ?_)<;>intro p;refine oW 0 (pJ (l:=[]) (k:=1) (qc l) (by decide)) ?_<;>intro p
 exact oJ (rA h)
theorem xN:∀s:Bj,qW wf (m+2) s.toV s.asks
 |.range _ _ _=>AH
 |.pair _ op a b=>Ck (op:=op) (qb a) (qb b) (qc a) (qc b) (by decide)
 |.leaf l=>qb (m:=m+1) l
theorem Cm(names:af Str):∀l:af Str,l.flatMap (λx=>match pz names x with|true=>[V.str x]|false=>[])=sv (less l names)
 |[]=>rfl
 |x::r=>by
  rw[dP,Cm names r];unfold less;rw[fY];cases pz names x<;>rfl
theorem AI:∀l:af Str,V.qv (sv l)=some (l.map .str)
 |[]=>rfl
 |x::r=>by
  show BN (V.toPy (.str x)) (V.qv (sv r))=_;rw[AI r];rfl
theorem uB{u:Str}{ns:af Str}(s:St):td .NotIn (.str u) (.tup (sv ns)) s=.ok (.bool (pz ns u)) s:=by
 refine(?_:R.opt (((match V.toPy (.str u),V.qv (sv ns)with|some d,some ds=>if d.depth<=500 then some (ds.any λy=>a9 y d)else none|_,_=>none).map (!·)).map V.bool) s=_)
 refine rg (AI ..) ?_;show R.ok (V.bool (!((ns.map PyData.str).any λy=>a9 y (.str u)))) s=_;exact rg (List.any_map ..) rfl
theorem v7{ns:af Str}(hl:AL k l)(hk:k<=1000)(h:Q (.lst (sv (less l ns))) σ):CW (o6 oP wf (m+1) (S "_law_less") [.lst (sv l),.tup (sv ns)] σ) Q X:=by
 refine qk Hw (by kernel_rfl!) ?_
 intro φ p
 let g1:pq->St:=λz=>⟨[(S ".0", .no),(S "one", z)],σ⟩
 refine um 0 .str (λy=>match pz ns y with|true=>[V.str y]|false=>[]) g1 l [] .no 1000 (R:=sv (less l ns)) (Cm _ _).symm (yE hl.less hk) (λy d z hd=>?_) (λz=>?_)<;>intro p
 ·refine oW 0 (uB (u:=y) (ns:=ns)) ?_<;>intro p;cases e:pz ns y
  ·refine Bi 0 (b:=pz ns y==true) (c:=false) (rg (e ..) rfl) ?_<;>intro p;refine Bi 0 e ?_<;>intro p;exact p9 (b:=true) (acc:=d) ⟨(aY d).symm,.val (.str y),rfl⟩
  ·refine Bi 0 (b:=pz ns y==true) (c:=true) (rg (e ..) rfl) ?_<;>intro p;simp only[e]at hd;refine oW 0 (v:=.str y) (qD hd) ?_<;>intro p;exact p9 (b:=true) ⟨rfl,.val (.str y),rfl⟩
 ·exact oJ (rA h)
noncomputable def NC(l:af Str)(r:af Item):af Str:=r.foldl (λl i=>i.asks l) l
theorem Cn:∀(r:af Item)(l:af Str),NC l r.reverse=pF r l
 |[],_=>rfl
 |i::r,l=>by
  unfold NC;rw[fL,iz];exact aD i.asks (Cn r l)
theorem rh:∀b,AL 1 (rM b)
 |true=>aL 1
 |false=>bL 1
theorem VU{k r n:Nat}{l l':af Str}(h:AL (k+3*(2-(r+1))) l)(h':AL n l')(hn:n<=3)(hr:r+1<=2):AL (k+3*(2-r)) (l++l'):=aB (h.app h') (by
 cases r with
 |zero=>exact pZ .y (.n 3) (.a (.a .x (.n 3)) .y) (.a .x (.n 6)) rfl hn
 |succ r=>cases r with
  |zero=>exact pZ .y (.n 3) (.a (.a .x (.n 0)) .y) (.a .x (.n 3)) rfl hn
  |succ r=>exact absurd hr (gh (cq 3 r)))
theorem NF{q:Int}{items:vM}{D:V}(ha:qW wf (m+2) D l)(hl:AL k l)(hk:k<=900):qW wf (m+3) (.tup [msg "let", .int q,items.toV,D]) (pF items.l l):=λσ Q X h=>by
 refine qk pU (by kernel_rfl!) ?_
 intro φ p;refine(let H:FR:=_;(?_:pL _ H _))
 refine oG (ha σ ?_)<;>intro p
 let g1:af Str×pq×pq->St:=λ(z:af Str×pq×pq)=>⟨[(S "node", .val (.tup [msg "let", .int q,items.toV,D])),(S "op", .val (msg "let")),(S "asked", .val (.lst (sv z.1))),(S "names", .no),(S "source", .no),(S "item", z.2.1),(S "bound", z.2.2)],σ⟩
 refine uY 0 Item.toV (λu_=>[]) g1
  (λr z=>NC z.1 r=pF items.l l/\AL (k+3*(2-r.length)) z.1/\r.length<=2) items.l.reverse (l,.no,.no) (qB (Cn _ _) (aB hl (bJ _ _)) ((dw).symm▸items.h)) (λi r z hI=>?_) (λz hI=>?_)
  (show to 2 0 p=.lp (items.l.reverse.map Item.toV) _ _ _ _ by rw[ct];kernel_rfl!)
 ·have h2:=hI.2.2;simp only[bc]at h2;cases i with
  |con q t =>
   intro p;refine(let M:FR:=_;(?_:pL _ M _))
   refine(let C:Prop:=_;(?_:C))
   refine oG (xM t σ ?_)<;>intro p;refine(let C:Prop:=_;(?_:C))
   have o:=VU hI.2.1 (wV t) (by decide) h2
   refine oW 0 (pJ o (by exact BM .x (.n 900) .y (.n 2) .y (.n 2) .y (.n 2) (w:=0) (z:=0) (.a .x (.m 3 .y)) (.n 1000) rfl hk (aP _ _) (aP _ _) (aP _ _))) ?_<;>intro p
   exact p9 (b:=true) (zC ((z.1++t.asks,.val (Item.con q t).toV,z.2.2)) rfl rfl hI.1 o (bD h2))
  |decl q var bd x e =>
   have h4:AL 3 (bd.asks++e.asks++rM var):=by
    refine AL.app (k:=2) (n:=1) (AL.app (k:=1) (n:=1) ?_ (qc e)) ?_
    ·refine(let C:Prop:=_;(?_:C))
     cases bd with
     |none=>exact bL _
     |xK _ _ l=>exact qc l
    ·exact rh var
   have o:=VU (l:=less z.1 [x.s]) hI.2.1.less h4 (aL _) h2;rw[<-a8,<-a8]at o;have A:∀{l l':af Str} {n:Nat},AL n (l++l')->AL n l:=λh=>aB (av▸bJ _ _) h;have hz:AL 1000 z.1:=aB hI.2.1 (BM .x (.n 900) .y (.n 2) .y (.n 2) .y (.n 2) (z:=0) (w:=0) (.a .x (.m 3 .y)) (.n 1000) rfl hk (aP _ _) (aP _ _) (aP _ _));cases bd with
   |none =>
    intro p;refine(let O:FR:=_;(?_:pL _ O _))
    refine(let C:Prop:=_;(?_:C))
    refine oG (v7 (σ:=σ) (ns:=[x.s]) hz (aL _) ?_)<;>intro p;refine oW 0 (pJ (l':=[]) (A (A o)) (by exact BM .x (.n 900) .y (.n 2) .y (.n 2) .y (.n 2) (w:=0) (z:=0) (.a .x (.m 3 .y)) (.n 1000) rfl hk (aP _ _) (aP _ _) (aP _ _))) ?_<;>intro p
    refine oG (qb e σ ?_)<;>intro p;refine oW 0 (pJ (A o) (by exact BM .x (.n 900) .y (.n 2) .y (.n 2) .y (.n 2) (w:=0) (z:=0) (.a .x (.m 3 .y)) (.n 1000) rfl hk (aP _ _) (aP _ _) (aP _ _))) ?_<;>intro p
    induction var using aJ
    ·refine oW 5 (pJ o (by exact BM .x (.n 900) .y (.n 2) .y (.n 2) .y (.n 2) (w:=0) (z:=0) (.a .x (.m 3 .y)) (.n 1000) rfl hk (aP _ _) (aP _ _) (aP _ _))) ?_<;>intro p
     exact p9 (b:=true) (zC ((_,.val (Item.decl q false .none x e).toV,.val (.lst []))) rfl rfl hI.1 o (bD h2))
    ·refine oW 5 (pJ o (by exact BM .x (.n 900) .y (.n 2) .y (.n 2) .y (.n 2) (w:=0) (z:=0) (.a .x (.m 3 .y)) (.n 1000) rfl hk (aP _ _) (aP _ _) (aP _ _))) ?_<;>intro p
     exact p9 (b:=true) (zC ((_,.val (Item.decl q true .none x e).toV,.val (.lst []))) rfl rfl hI.1 o (bD h2))
   |xK T U l =>
    intro p;refine(let Y:FR:=_;(?_:pL _ Y _))
    refine oG (AH (q:=T) (q':=U) (i:=0) (l:=l) σ ?_)<;>intro p;refine oG (v7 (σ:=σ) (ns:=[x.s]) hz (aL _) ?_)<;>intro p;refine oW 0 (pJ (A (A o)) (by exact BM .x (.n 900) .y (.n 2) .y (.n 2) .y (.n 2) (w:=0) (z:=0) (.a .x (.m 3 .y)) (.n 1000) rfl hk (aP _ _) (aP _ _) (aP _ _))) ?_<;>intro p
    refine oG (qb e σ ?_)<;>intro p;refine oW 0 (pJ (A o) (by exact BM .x (.n 900) .y (.n 2) .y (.n 2) .y (.n 2) (w:=0) (z:=0) (.a .x (.m 3 .y)) (.n 1000) rfl hk (aP _ _) (aP _ _) (aP _ _))) ?_<;>intro p
    induction var using aJ
    ·refine oW 5 (pJ o (by exact BM .x (.n 900) .y (.n 2) .y (.n 2) .y (.n 2) (w:=0) (z:=0) (.a .x (.m 3 .y)) (.n 1000) rfl hk (aP _ _) (aP _ _) (aP _ _))) ?_<;>intro p
     exact p9 (b:=true) (zC ((_,.val (Item.decl q false (.xK T U l) x e).toV,.val (.lst (sv ([]++l.asks))))) rfl rfl hI.1 o (bD h2))
    ·refine oW 5 (pJ o (by exact BM .x (.n 900) .y (.n 2) .y (.n 2) .y (.n 2) (w:=0) (z:=0) (.a .x (.m 3 .y)) (.n 1000) rfl hk (aP _ _) (aP _ _) (aP _ _))) ?_<;>intro p
     exact p9 (b:=true) (zC ((_,.val (Item.decl q true (.xK T U l) x e).toV,.val (.lst (sv ([]++l.asks))))) rfl rfl hI.1 o (bD h2))
 ·intro p;refine(let Wy:FR:=_;(?_:pL _ Wy _))
  have e:z.1=pF items.l l:=hI.1;exact oJ (rA (l:=z.1) (e▸h))
noncomputable def Cp(l:af Str)(r:af Gen):af Str:=r.foldl (λl g=>less l (vo g.names)++g.src.asks) l
theorem uC:∀(r:af Gen)(l:af Str),Cp l r.reverse=pe r l
 |[],_=>rfl
 |g::r,l=>by
  unfold Cp;rw[fL,iz];exact aD (λl=>less l (vo g.names)++g.src.asks) (uC r l)
theorem Dx{w x:Str}{b:aN}(h:(w==x)=b)(s:St):td .Eq (.str w) (.str x) s=.ok (.bool b) s:=by subst h;rfl
theorem xO{op:aN}{q:Int}{w:Str}{b:aN}{g:zl}{wh:Wh}{C:V}(hw:(w==S "p")=b)(ha:qW wf (m+2) C l)(hl:AL k l)(hk:k<=900):qW wf (m+3) (.tup [.str (match op with|true=>S "comp" |false=>S "gen"),.int q,.str w,g.toV,wh.toV,C]) (pe g.l (l++wh.asks)++rM b):=λσ Q X h=>by
 cases op
 ·refine qk pU (by kernel_rfl!) ?_
  intro φ p;refine oG (ha σ ?_)<;>intro p;cases wh with
  |none =>
   have o:AL (k+2) (l++Wh.none.asks):=AL.app hl (bL _);refine oW 3 (pJ (l':=Wh.none.asks) o (by exact qu .x (.n 900) (.a .x (.n 2)) (.n 1000) rfl hk)) ?_<;>intro p
   let g1:af Str×pq×pq->St:=λ(z:af Str×pq×pq)=>⟨[(S "node", .val (.tup [.str (S "gen"),.int q,.str w,g.toV,Wh.none.toV,C])),(S "op", .val (.str (S "gen"))),(S "asked", .val (.lst (sv z.1))),(S "names", z.2.1),(S "source", z.2.2),(S "item", .no),(S "bound", .no)],σ⟩
   refine uY 0 Gen.toV (λu_=>[]) g1
    (λr z=>Cp z.1 r=pe g.l (l++Wh.none.asks)/\AL (k+2+3*(2-r.length)) z.1/\r.length<=2) g.l.reverse (l++Wh.none.asks,.no,.no) ⟨uC _ _,aB o (bJ _ _),rg (dw ..) g.h.2⟩ (λi r z hI=>?_) (λz hI=>?_)
    (show to 2 0 p=.lp (g.l.reverse.map Gen.toV) _ _ _ _ by rw[ct];kernel_rfl!)<;>intro p
   ·have h2:=hI.2.2;rw[bc]at h2;have hz:AL 1000 z.1:=aB hI.2.1 (by exact BM .x (.n 900) .y (.n 2) .y (.n 2) .y (.n 2) (w:=0) (z:=0) (.a (.a .x (.n 2)) (.m 3 .y)) (.n 1000) rfl hk (aP _ _) (aP _ _) (aP _ _))
    have A:=VU (l:=less z.1 (vo i.names)) hI.2.1.less (AG i.src) (by decide) h2
    refine oG (v7 (σ:=σ) (ns:=vo i.names) hz (aL _) ?_)<;>intro p;refine oG (xN i.src σ ?_)<;>intro p;refine oW 0 (pJ A (by exact BM .x (.n 900) .y (.n 2) .y (.n 2) .y (.n 2) (w:=0) (z:=0) (.a (.a .x (.n 2)) (.m 3 .y)) (.n 1000) rfl hk (aP _ _) (aP _ _) (aP _ _))) ?_<;>intro p
    exact p9 (b:=true) ⟨(_,.val (rf i.names),.val i.src.toV),rfl,rfl,hI.1,A,bD h2⟩
   ·have e:z.1=pe g.l (l++Wh.none.asks):=hI.1;have A:AL (k+2+6+1) (z.1++rM b):=AL.app hI.2.1 (rh b);refine oW 2 (Dx hw) ?_<;>intro p;cases b
    ·refine oW 2 (pJ A (by exact qu .x (.n 900) (.a (.a (.a .x (.n 2)) (.n 6)) (.n 1)) (.n 1000) rfl hk)) ?_<;>intro p
     exact oJ (rA (e▸h))
    ·refine oW 2 (pJ A (by exact qu .x (.n 900) (.a (.a (.a .x (.n 2)) (.n 6)) (.n 1)) (.n 1000) rfl hk)) ?_<;>intro p
     exact oJ (rA (e▸h))
  |rF t =>
   have o:AL (k+2) (l++(Wh.rF t).asks):=AL.app hl (wV t);refine oG (xM t σ ?_)<;>intro p;refine oW 0 (pJ (l':=(Wh.rF t).asks) o (by exact qu .x (.n 900) (.a .x (.n 2)) (.n 1000) rfl hk)) ?_<;>intro p
   let g2:af Str×pq×pq->St:=λ(z:af Str×pq×pq)=>⟨[(S "node", .val (.tup [.str (S "gen"),.int q,.str w,g.toV,(Wh.rF t).toV,C])),(S "op", .val (.str (S "gen"))),(S "asked", .val (.lst (sv z.1))),(S "names", z.2.1),(S "source", z.2.2),(S "item", .no),(S "bound", .no)],σ⟩
   refine uY 0 Gen.toV (λu_=>[]) g2
    (λr z=>Cp z.1 r=pe g.l (l++(Wh.rF t).asks)/\AL (k+2+3*(2-r.length)) z.1/\r.length<=2) g.l.reverse (l++(Wh.rF t).asks,.no,.no) ⟨uC _ _,aB o (bJ _ _),rg (dw ..) g.h.2⟩ (λi r z hI=>?_) (λz hI=>?_)
    (show to 2 0 p=.lp (g.l.reverse.map Gen.toV) _ _ _ _ by rw[ct];kernel_rfl!)<;>intro p
   ·have h2:=hI.2.2;rw[bc]at h2;have hz:AL 1000 z.1:=aB hI.2.1 (by exact BM .x (.n 900) .y (.n 2) .y (.n 2) .y (.n 2) (w:=0) (z:=0) (.a (.a .x (.n 2)) (.m 3 .y)) (.n 1000) rfl hk (aP _ _) (aP _ _) (aP _ _))
    have A:=VU (l:=less z.1 (vo i.names)) hI.2.1.less (AG i.src) (by decide) h2
    refine oG (v7 (σ:=σ) (ns:=vo i.names) hz (aL _) ?_)<;>intro p;refine oG (xN i.src σ ?_)<;>intro p;refine oW 0 (pJ A (by exact BM .x (.n 900) .y (.n 2) .y (.n 2) .y (.n 2) (w:=0) (z:=0) (.a (.a .x (.n 2)) (.m 3 .y)) (.n 1000) rfl hk (aP _ _) (aP _ _) (aP _ _))) ?_<;>intro p
    exact p9 (b:=true) ⟨(_,.val (rf i.names),.val i.src.toV),rfl,rfl,hI.1,A,bD h2⟩
   ·have e:z.1=pe g.l (l++(Wh.rF t).asks):=hI.1;have A:AL (k+2+6+1) (z.1++rM b):=AL.app hI.2.1 (rh b);refine oW 2 (Dx hw) ?_<;>intro p;cases b
    ·refine oW 2 (pJ A (by exact qu .x (.n 900) (.a (.a (.a .x (.n 2)) (.n 6)) (.n 1)) (.n 1000) rfl hk)) ?_<;>intro p
     exact oJ (rA (e▸h))
    ·refine oW 2 (pJ A (by exact qu .x (.n 900) (.a (.a (.a .x (.n 2)) (.n 6)) (.n 1)) (.n 1000) rfl hk)) ?_<;>intro p
     exact oJ (rA (e▸h))
 ·refine qk pU (by kernel_rfl!) ?_
  intro φ p;refine oG (ha σ ?_)<;>intro p;cases wh with
  |none =>
   have o:AL (k+2) (l++Wh.none.asks):=AL.app hl (bL _);refine oW 3 (pJ (l':=Wh.none.asks) o (by exact qu .x (.n 900) (.a .x (.n 2)) (.n 1000) rfl hk)) ?_<;>intro p
   let g3:af Str×pq×pq->St:=λ(z:af Str×pq×pq)=>⟨[(S "node", .val (.tup [.str (S "comp"),.int q,.str w,g.toV,Wh.none.toV,C])),(S "op", .val (.str (S "comp"))),(S "asked", .val (.lst (sv z.1))),(S "names", z.2.1),(S "source", z.2.2),(S "item", .no),(S "bound", .no)],σ⟩
   refine uY 0 Gen.toV (λu_=>[]) g3
    (λr z=>Cp z.1 r=pe g.l (l++Wh.none.asks)/\AL (k+2+3*(2-r.length)) z.1/\r.length<=2) g.l.reverse (l++Wh.none.asks,.no,.no) ⟨uC _ _,aB o (bJ _ _),rg (dw ..) g.h.2⟩ (λi r z hI=>?_) (λz hI=>?_)
    (show to 2 0 p=.lp (g.l.reverse.map Gen.toV) _ _ _ _ by rw[ct];kernel_rfl!)<;>intro p
   ·have h2:=hI.2.2;rw[bc]at h2;have hz:AL 1000 z.1:=aB hI.2.1 (by exact BM .x (.n 900) .y (.n 2) .y (.n 2) .y (.n 2) (w:=0) (z:=0) (.a (.a .x (.n 2)) (.m 3 .y)) (.n 1000) rfl hk (aP _ _) (aP _ _) (aP _ _))
    have A:=VU (l:=less z.1 (vo i.names)) hI.2.1.less (AG i.src) (by decide) h2
    refine oG (v7 (σ:=σ) (ns:=vo i.names) hz (aL _) ?_)<;>intro p;refine oG (xN i.src σ ?_)<;>intro p;refine oW 0 (pJ A (by exact BM .x (.n 900) .y (.n 2) .y (.n 2) .y (.n 2) (w:=0) (z:=0) (.a (.a .x (.n 2)) (.m 3 .y)) (.n 1000) rfl hk (aP _ _) (aP _ _) (aP _ _))) ?_<;>intro p
    exact p9 (b:=true) ⟨(_,.val (rf i.names),.val i.src.toV),rfl,rfl,hI.1,A,bD h2⟩
   ·have e:z.1=pe g.l (l++Wh.none.asks):=hI.1;have A:AL (k+2+6+1) (z.1++rM b):=AL.app hI.2.1 (rh b);refine oW 2 (Dx hw) ?_<;>intro p;cases b
    ·refine oW 2 (pJ A (by exact qu .x (.n 900) (.a (.a (.a .x (.n 2)) (.n 6)) (.n 1)) (.n 1000) rfl hk)) ?_<;>intro p
     exact oJ (rA (e▸h))
    ·refine oW 2 (pJ A (by exact qu .x (.n 900) (.a (.a (.a .x (.n 2)) (.n 6)) (.n 1)) (.n 1000) rfl hk)) ?_<;>intro p
     exact oJ (rA (e▸h))
  |rF t =>
   have o:AL (k+2) (l++(Wh.rF t).asks):=AL.app hl (wV t);refine oG (xM t σ ?_)<;>intro p;refine oW 0 (pJ (l':=(Wh.rF t).asks) o (by exact qu .x (.n 900) (.a .x (.n 2)) (.n 1000) rfl hk)) ?_<;>intro p
   let g4:af Str×pq×pq->St:=λ(z:af Str×pq×pq)=>⟨[(S "node", .val (.tup [.str (S "comp"),.int q,.str w,g.toV,(Wh.rF t).toV,C])),(S "op", .val (.str (S "comp"))),(S "asked", .val (.lst (sv z.1))),(S "names", z.2.1),(S "source", z.2.2),(S "item", .no),(S "bound", .no)],σ⟩
   refine uY 0 Gen.toV (λu_=>[]) g4
    (λr z=>Cp z.1 r=pe g.l (l++(Wh.rF t).asks)/\AL (k+2+3*(2-r.length)) z.1/\r.length<=2) g.l.reverse (l++(Wh.rF t).asks,.no,.no) ⟨uC _ _,aB o (bJ _ _),rg (dw ..) g.h.2⟩ (λi r z hI=>?_) (λz hI=>?_)
    (show to 2 0 p=.lp (g.l.reverse.map Gen.toV) _ _ _ _ by rw[ct];kernel_rfl!)<;>intro p
   ·have h2:=hI.2.2;rw[bc]at h2;have hz:AL 1000 z.1:=aB hI.2.1 (by exact BM .x (.n 900) .y (.n 2) .y (.n 2) .y (.n 2) (w:=0) (z:=0) (.a (.a .x (.n 2)) (.m 3 .y)) (.n 1000) rfl hk (aP _ _) (aP _ _) (aP _ _))
    have A:=VU (l:=less z.1 (vo i.names)) hI.2.1.less (AG i.src) (by decide) h2
    refine oG (v7 (σ:=σ) (ns:=vo i.names) hz (aL _) ?_)<;>intro p;refine oG (xN i.src σ ?_)<;>intro p;refine oW 0 (pJ A (by exact BM .x (.n 900) .y (.n 2) .y (.n 2) .y (.n 2) (w:=0) (z:=0) (.a (.a .x (.n 2)) (.m 3 .y)) (.n 1000) rfl hk (aP _ _) (aP _ _) (aP _ _))) ?_<;>intro p
    exact p9 (b:=true) ⟨(_,.val (rf i.names),.val i.src.toV),rfl,rfl,hI.1,A,bD h2⟩
   ·have e:z.1=pe g.l (l++(Wh.rF t).asks):=hI.1;have A:AL (k+2+6+1) (z.1++rM b):=AL.app hI.2.1 (rh b);refine oW 2 (Dx hw) ?_<;>intro p;cases b
    ·refine oW 2 (pJ A (by exact qu .x (.n 900) (.a (.a (.a .x (.n 2)) (.n 6)) (.n 1)) (.n 1000) rfl hk)) ?_<;>intro p
     exact oJ (rA (e▸h))
    ·refine oW 2 (pJ A (by exact qu .x (.n 900) (.a (.a (.a .x (.n 2)) (.n 6)) (.n 1)) (.n 1000) rfl hk)) ?_<;>intro p
     exact oJ (rA (e▸h))
theorem AL.le(h:AL k l)(hk:k<=n):AL n l:=aB h hk
theorem AJ(h:AL k l):∀r:af Item,AL (k+3*r.length) (pF r l)
 |[]=>h
 |.con _ t::r=>((AJ h r).app (wV t)).le (by rw[bc];exact xb  (.a (.a .x (.m 3 .y)) (.n 2)) (.a .x (.m 3 (.a .y (.n 1)))) rfl )
 |.decl _ var bd x e::r=>by
  have hb:AL 1 bd.asks:=by
   cases bd with
   |none=>exact bL _
   |xK _ _ l=>exact qc l
  exact((((AJ h r).less.app hb).app (qc e)).app (rh var)).le (by rw[bc];exact xb  (.a (.a (.a (.a .x (.m 3 .y)) (.n 1)) (.n 1)) (.n 1)) (.a .x (.m 3 (.a .y (.n 1)))) rfl )
theorem IX(h:AL k l):∀r:af Gen,AL (k+2*r.length) (pe r l)
 |[]=>h
 |g::r=>((IX h r).less.app (AG g.src)).le (by rw[bc];exact xb  (.a (.a .x (.m 2 .y)) (.n 2)) (.a .x (.m 2 (.a .y (.n 1)))) rfl )
theorem Xy:∀w:Wh,AL 2 w.asks
 |.none=>bL _
 |.rF t=>wV t
theorem qX:∀T:sL,AL (1+9*T.deep) T.asks
 |.leaf l=>qc l
 |.bin _ _ a l=>((qX a).app (qc l)).le (by show _<=1+9*(a.deep+1);exact sO  (.a (.a (.n 1) (.m 9 .x)) (.n 1)) (.a (.n 1) (.m 9 (.a .x (.n 1)))) rfl )
 |.index _ b a=>((qc b).app (qX a)).le (by show _<=1+9*(a.deep+1);exact sO  (.a (.n 1) (.a (.n 1) (.m 9 .x))) (.a (.n 1) (.m 9 (.a .x (.n 1)))) rfl )
 |.cond _ t a l=>(((wV t).app (qX a)).app (qc l)).le (by show _<=1+9*(a.deep+1);exact sO  (.a (.a (.n 2) (.a (.n 1) (.m 9 .x))) (.n 1)) (.a (.n 1) (.m 9 (.a .x (.n 1)))) rfl )
 |.call _ f _ a l=>(((qX a).app (qc l)).app (rh _)).le (by show _<=1+9*(a.deep+1);exact sO  (.a (.a (.a (.n 1) (.m 9 .x)) (.n 1)) (.n 1)) (.a (.n 1) (.m 9 (.a .x (.n 1)))) rfl )
 |.BI _ i a=>(AJ (qX a) i.l).le (by have:=i.h;show _<=1+9*(a.deep+1);exact Pa .x (.n 2) .x (.n 2) .x (.n 2) (z:=0) (.a (.a (.n 1) (.m 9 .y)) (.m 3 .x)) (.a (.n 1) (.m 9 (.a .y (.n 1)))) rfl this this this)
 |.tX _ k g w a=>((IX ((qX a).app (Xy w)) g.l).app (rh _)).le (by have:=g.h.2;show _<=1+9*(a.deep+1);exact vS .x (.n 2) .x (.n 2) (.a (.a (.a (.a (.n 1) (.m 9 .y)) (.n 2)) (.m 2 .x)) (.n 1)) (.a (.n 1) (.m 9 (.a .y (.n 1)))) rfl this this)
theorem HJ{q:Int}{o y:V}{M:Nat}(ha:qW wf M o l)(hb:qW wf M y l')(hl:AL k (l++l'))(hk:k<=1000):qW wf (M+1) (.tup [msg "index", .int q,o,.tup [y]]) (l++l'):=λσ Q X h=>by
 refine qk pU (by kernel_rfl!) ?_
 intro φ p;refine oG (ha σ ?_)<;>intro p;refine oG (hb σ ?_)<;>intro p;refine oW 0 (pJ hl hk) ?_<;>intro p;exact oJ (rA h)
theorem QE{q:Int}{tv o y:V}{M:Nat}{lt:af Str}(ht:qW wf M tv lt)(ha:qW wf M o l)(hb:qW wf M y l')(hl:AL k (lt++l++l'))(hk:k<=1000):qW wf (M+1) (.tup [msg "if", .int q,.tup [.tup [tv,o]],y]) (lt++l++l'):=λσ Q X h=>by
 refine qk pU (by kernel_rfl!) ?_
 intro φ p;refine oG (ht σ ?_)<;>intro p;refine oG (ha σ ?_)<;>intro p;refine oW 0 (pJ (aB (av▸bJ _ _) hl) hk) ?_<;>intro p;refine oG (hb σ ?_)<;>intro p;refine oW 0 (pJ hl hk) ?_<;>intro p;exact oJ (rA h)
theorem Kz{q q':Int}{f:CF}{o y:V}{M:Nat}(ha:qW wf (M+1) (.tup [msg "array", .int q',.tup [o,y]]) l)(hl:AL k l)(hk:k<=900):qW wf (M+2) (.tup [msg "call", .int q,.str f.word,.tup [.tup [msg "array", .int q',.tup [o,y]]]]) (l++rM f.Xx):=λσ Q X h=>by
 cases f
 ·refine qk pU (by kernel_rfl!) ?_
  intro φ p;refine(let A:FR:=_;(?_:pL _ A _))
  refine oG (ha σ ?_)<;>intro p
  let g1:pq->St:=λz=>⟨[(S ".0", .no),(S "part", .val (.tup [msg "array", .int q',.tup [o,y]])),(S "one", z)],σ⟩
  refine um 0 .str (λx=>[.str x]) g1 l [] .no 1000 (R:=sv l) (v5 _).symm (yE hl (by exact qu .x (.n 900) .x (.n 1000) rfl hk)) (λx d z hd=>?_) (λz=>?_)<;>intro p
  ·refine(let C:FR:=_;(?_:pL _ C _))
   refine oW 0 (v:=.str x) (qD hd) ?_<;>intro p;exact p9 (b:=true) ⟨rfl,.val (.str x),rfl⟩
  ·refine oW 5 (pJ (AL.app hl (rh false)) (by exact qu .x (.n 900) (.a .x (.n 1)) (.n 1000) rfl hk)) ?_<;>intro p
   exact oJ (rA h)
 ·refine qk pU (by kernel_rfl!) ?_
  intro φ p;refine(let D:FR:=_;(?_:pL _ D _))
  refine oG (ha σ ?_)<;>intro p
  let g2:pq->St:=λz=>⟨[(S ".0", .no),(S "part", .val (.tup [msg "array", .int q',.tup [o,y]])),(S "one", z)],σ⟩
  refine um 0 .str (λx=>[.str x]) g2 l [] .no 1000 (R:=sv l) (v5 _).symm (yE hl (by exact qu .x (.n 900) .x (.n 1000) rfl hk)) (λx d z hd=>?_) (λz=>?_)<;>intro p
  ·refine(let H:FR:=_;(?_:pL _ H _))
   refine oW 0 (v:=.str x) (qD hd) ?_<;>intro p;exact p9 (b:=true) ⟨rfl,.val (.str x),rfl⟩
  ·refine oW 5 (pJ (AL.app hl (rh false)) (by exact qu .x (.n 900) (.a .x (.n 1)) (.n 1000) rfl hk)) ?_<;>intro p
   exact oJ (rA h)
 ·refine qk pU (by kernel_rfl!) ?_
  intro φ p;refine(let O:FR:=_;(?_:pL _ O _))
  refine oG (ha σ ?_)<;>intro p
  let g3:pq->St:=λz=>⟨[(S ".0", .no),(S "part", .val (.tup [msg "array", .int q',.tup [o,y]])),(S "one", z)],σ⟩
  refine um 0 .str (λx=>[.str x]) g3 l [] .no 1000 (R:=sv l) (v5 _).symm (yE hl (by exact qu .x (.n 900) .x (.n 1000) rfl hk)) (λx d z hd=>?_) (λz=>?_)<;>intro p
  ·refine(let T:FR:=_;(?_:pL _ T _))
   refine oW 0 (v:=.str x) (qD hd) ?_<;>intro p;exact p9 (b:=true) ⟨rfl,.val (.str x),rfl⟩
  ·refine oW 5 (pJ (AL.app hl (rh true)) (by exact qu .x (.n 900) (.a .x (.n 1)) (.n 1000) rfl hk)) ?_<;>intro p
   exact oJ (rA h)
theorem sM:∀(T:sL)(M:Nat),2*T.deep<=M->T.deep<=20->qW wf (M+3) T.toV T.asks
 |.leaf l,M,_,_=>qb (m:=M+2) l
 |.bin q e a l,M,h,h2=>by
  have h2:a.deep+1<=20:=h2;obtain⟨M,rfl⟩:∃k,M=k+2:=⟨M-2,by have h:2*(a.deep+1)<=M:=h;exact sb (pZ (.m 2 (.a .x (.n 1))) .y (.n 2) .y rfl h)⟩
  exact FD (sM a (M+1) (by have h:2*(a.deep+1)<=M+2:=h;exact pZ (.m 2 (.a .x (.n 1))) (.a .y (.n 2)) (.m 2 .x) (.a .y (.n 1)) rfl h) (bD h2)) (qb (m:=M+3) l) (qX (.bin q e a l)) (qu (.m 9 (.a .x (.n 1))) (.m 9 (.n 20)) (.a (.n 1) (.m 9 (.a .x (.n 1)))) (.n 1000) rfl (bt 9 h2))
 |.index q b a,M,h,h2=>by
  have h2:a.deep+1<=20:=h2;obtain⟨M,rfl⟩:∃k,M=k+2:=⟨M-2,by have h:2*(a.deep+1)<=M:=h;exact sb (pZ (.m 2 (.a .x (.n 1))) .y (.n 2) .y rfl h)⟩
  exact HJ (qb (m:=M+3) b) (sM a (M+1) (by have h:2*(a.deep+1)<=M+2:=h;exact pZ (.m 2 (.a .x (.n 1))) (.a .y (.n 2)) (.m 2 .x) (.a .y (.n 1)) rfl h) (bD h2)) (qX (.index q b a)) (qu (.m 9 (.a .x (.n 1))) (.m 9 (.n 20)) (.a (.n 1) (.m 9 (.a .x (.n 1)))) (.n 1000) rfl (bt 9 h2))
 |.cond q t a l,M,h,h2=>by
  have h2:a.deep+1<=20:=h2;obtain⟨M,rfl⟩:∃k,M=k+2:=⟨M-2,by have h:2*(a.deep+1)<=M:=h;exact sb (pZ (.m 2 (.a .x (.n 1))) .y (.n 2) .y rfl h)⟩
  exact QE (xM (m:=M+2) t) (sM a (M+1) (by have h:2*(a.deep+1)<=M+2:=h;exact pZ (.m 2 (.a .x (.n 1))) (.a .y (.n 2)) (.m 2 .x) (.a .y (.n 1)) rfl h) (bD h2)) (qb (m:=M+3) l) (qX (.cond q t a l)) (qu (.m 9 (.a .x (.n 1))) (.m 9 (.n 20)) (.a (.n 1) (.m 9 (.a .x (.n 1)))) (.n 1000) rfl (bt 9 h2))
 |.call q f q' a l,M,h,h2=>by
  have h:2*(a.deep+1)<=M:=h;have h2:a.deep+1<=20:=h2;obtain⟨M,rfl⟩:∃k,M=k+2:=⟨M-2,by exact sb (pZ (.m 2 (.a .x (.n 1))) .y (.n 2) .y rfl h)⟩
  have hl:=(qX a).app (qc l);exact Kz (M:=M+3) (Ck (op:=true) (sM a M (by exact pZ (.m 2 (.a .x (.n 1))) (.a .y (.n 2)) (.m 2 .x) .y rfl h) (by exact qu (.a .x (.n 1)) (.n 20) .x (.n 20) rfl h2)) (qb (m:=M+2) l) (qX a) (qc l) (qu (.m 9 (.a .x (.n 1))) (.m 9 (.n 20)) (.a (.a (.n 1) (.m 9 .x)) (.n 1)) (.n 1000) rfl (bt 9 h2))) hl (qu (.m 9 (.a .x (.n 1))) (.m 9 (.n 20)) (.a (.a (.n 1) (.m 9 .x)) (.n 1)) (.n 900) rfl (bt 9 h2))
 |.BI q i a,M,h,h2=>by
  have h:2*(a.deep+1)<=M:=h;have h2:a.deep+1<=20:=h2;obtain⟨M,rfl⟩:∃k,M=k+2:=⟨M-2,by exact sb (pZ (.m 2 (.a .x (.n 1))) .y (.n 2) .y rfl h)⟩
  exact NF (m:=M+2) (sM a (M+1) (by exact pZ (.m 2 (.a .x (.n 1))) (.a .y (.n 2)) (.m 2 .x) (.a .y (.n 1)) rfl h) (by exact qu (.a .x (.n 1)) (.n 20) .x (.n 20) rfl h2)) (qX a) (qu (.m 9 (.a .x (.n 1))) (.m 9 (.n 20)) (.a (.n 1) (.m 9 .x)) (.n 900) rfl (bt 9 h2))
 |.tX q k g w a,M,h,h2=>by
  have h:2*(a.deep+1)<=M:=h;have h2:a.deep+1<=20:=h2;obtain⟨M,rfl⟩:∃k,M=k+2:=⟨M-2,by exact sb (pZ (.m 2 (.a .x (.n 1))) .y (.n 2) .y rfl h)⟩
  have ih:=sM a (M+1) (by exact pZ (.m 2 (.a .x (.n 1))) (.a .y (.n 2)) (.m 2 .x) (.a .y (.n 1)) rfl h) (by exact qu (.a .x (.n 1)) (.n 20) .x (.n 20) rfl h2)
  have hl:=qX a;cases k with
  |comp b=>exact xO (op:=true) (b:=false) (by cases b<;>rfl) ih hl (qu (.m 9 (.a .x (.n 1))) (.m 9 (.n 20)) (.a (.n 1) (.m 9 .x)) (.n 900) rfl (bt 9 h2))
  |sum=>exact xO (op:=false) (b:=false) rfl ih hl (qu (.m 9 (.a .x (.n 1))) (.m 9 (.n 20)) (.a (.n 1) (.m 9 .x)) (.n 900) rfl (bt 9 h2))
  | «forall»=>exact xO (op:=false) (b:=false) rfl ih hl (qu (.m 9 (.a .x (.n 1))) (.m 9 (.n 20)) (.a (.n 1) (.m 9 .x)) (.n 900) rfl (bt 9 h2))
  |p=>exact xO (op:=false) (b:=true) rfl ih hl (qu (.m 9 (.a .x (.n 1))) (.m 9 (.n 20)) (.a (.n 1) (.m 9 .x)) (.n 900) rfl (bt 9 h2))
end
noncomputable def nb:Nat->Int
 |0=>2
 |n+1=>4*nb n+2
theorem Dy(n:Nat):2<=nb n:=by induction n with
 |zero=>exact i7 _
 |succ n ih=>simp only[nb];lia
set_option tactic.hygienic true in
theorem xP{n m:Nat}(h:n<=m):nb n<=nb m:=by
 induction h with
 |refl=>exact i7 _
 |step _ ih=>rename_i k _;have:=Dy k;simp only[nb];lia
noncomputable abbrev tY(l:af Int):V:=.tup (l.map .int)
noncomputable abbrev rC(lo hi:Int)(l:af V):V:=.tup [.tup [.tup [.int lo,.int hi]],.lst l]
inductive GN:Nat->V->Prop where
 |int {d:Nat} {i:Int} (h0:0<=i) (h1:i<=nb d):GN d (.int i)
 |bool {d:Nat} {b:aN}:GN d (.bool b)
 |set {d:Nat} {l:af Int} (hl:l.length<=4) (h:∀i∈l,0<=i/\i<=nb d):GN d (tY l)
 |arr {d:Nat} {lo hi:Int} {l:af V} (hl:l.length<=4) (h:∀v∈l,GN d v):GN (d+1) (rC lo hi l)
noncomputable def XO(X:XT)(σ:af Cell):Prop:=∀(x:Str)(q:Int),X (.str x) (.int q) σ
section
variable{wf m n k d:Nat}{σ:af Cell}{Q:V->af Cell->Prop}{X:XT}{v:V}{q:Int}
theorem XO.hx(x:XO X σ):XO (HX σ.length X) σ:=λs q=>⟨rfl,by rw[fX];exact x s q⟩
theorem oT(hv:v.oQ=true)(h:Q v σ):HB σ.length Q v σ:=by unfold HB;rw[hv];dsimp only;rw[fX];exact h
theorem uD(h:GN d v)(x:XO X σ)(z:∀i:Int,0<=i->i<=nb d->Q (.int i) σ):CW (oY wf (m+1) (S "number_of") [v,.int q] σ) Q X:=by
 have hn:=Dy d;cases h with
 |@int _ i h0 h1 =>
  refine oS r5 ?_;intro φ p;exact oJ (oT rfl (z i h0 h1))
 |@bool _ b =>
  refine oS r5 ?_;intro φ p
  induction b using aJ
  ·exact oJ (oT rfl (z 0 (by decide) (by exact vf (.n 2) .x (.n 0) .x rfl hn)))
  ·exact oJ (oT rfl (z 1 (by decide) (by exact vf (.n 2) .x (.n 1) .x rfl hn)))
 |set|arr =>
  refine oS r5 ?_;intro φ p;exact uc (x.hx (S "a number is wanted") q)
theorem FE(h:GN d v)(x:XO X σ)(z:∀b:aN,Q (.bool b) σ):CW (oY wf (m+1) (S "truth_of") [v,.int q] σ) Q X:=by
 cases h with
 |@bool _ b =>
  refine oS wO ?_;intro φ p;exact oJ (oT rfl (z b))
 |int|set|arr =>
  refine oS wO ?_;intro φ p;exact uc (x.hx (S "true or false is wanted") q)
inductive NA:V->Prop where
 |int {i:Int}:NA (.int i)
 |bool {b:aN}:NA (.bool b)
 |set {l:af Int}:NA (tY l)
 |hole {n:cR} (h:uZ (.typ n)=true):NA (.typ n)
theorem r6(h:NA v)(z:Q (.bool false) σ):CW (oY wf (m+1) (S "is_array") [v] σ) Q X:=by
 cases h with
 |hole h =>
  simp only[xF];show W (if qK (S "is_array") _=true then _ else _) _ X
  rw[aO (by show(uZ _&&_)=true;rw[h];rfl)];exact z
 |int|bool =>
  refine(let C:Prop:=_;(?_:C))
  refine oS qr ?_;intro φ p;exact oJ (oT rfl z)
 |@set l =>
  match l with
  |[] =>
   refine oS qr ?_;intro φ p;exact oJ (oT rfl z)
  |[_] =>
   refine oS qr ?_;intro φ p;exact oJ (oT rfl z)
  |[_,_] =>
   refine oS qr ?_;intro φ p;exact oJ (oT rfl z)
  |a::b::c::r =>
   refine oS qr ?_;intro φ p;refine oW 2 (v:=.bool false) (f:=td .Eq (.int ((r.map V.int).length+1+1+1:Nat)) (.int 2)) (λs=>?_) ?_
   ·refine(?_:R.ok (V.bool (a9 (.int ((r.map V.int).length+1+1+1:Nat)) (.int 2))) s=_);rw[show a9 (.int ((r.map V.int).length+1+1+1:Nat)) (.int 2)=false by simp[a9];exact gE (vf (.n 0) .x (.a (.n 2) (.n 1)) (.a (.a (.a .x (.n 1)) (.n 1)) (.n 1)) rfl (bq _))]
   intro p;exact oJ (oT rfl z)
theorem qm(lo hi:Int)(l:af V)(z:Q (.bool true) σ):CW (oY wf (m+1) (S "is_array") [rC lo hi l] σ) Q X:=by
 refine oS qr ?_;intro φ p;exact oJ (oT rfl z)
theorem xQ{lo hi:Int}{l:af V}(z:HB σ.length Q (.lst l) σ):CW (oY wf (m+2) (S "list_of") [rC lo hi l,.int q] σ) Q X:=by
 refine oS Cf ?_;intro φ p;refine oG (qm (σ:=σ) lo hi l ?_)<;>intro p;exact oJ z
theorem v8(h:NA v)(x:XO X σ):CW (oY wf (m+2) (S "list_of") [v,.int q] σ) Q X:=by
 have h0:qK (S "list_of") [v,.int q]=false:=by unfold qK;rfl
 refine oS Cf ?_ (by kernel_rfl!) h0
 intro φ p;refine oG (r6 (σ:=σ) h ?_)<;>intro p;exact uc (x.hx (S "an array is wanted") q)
theorem AK(l:af Int)(z:Q (.bool true) σ):CW (oY wf (m+2) (S "is_set") [tY l] σ) Q X:=by
 refine oS xy ?_;intro φ p;refine oG (r6 (σ:=σ) (NA.set (l:=l)) ?_)<;>intro p;exact oJ (oT rfl z)
theorem yF(h:GN d v)(hn:∀l,v≠tY l)(z:Q (.bool false) σ):CW (oY wf (m+2) (S "is_set") [v] σ) Q X:=by
 cases h with
 |int|bool =>
  refine oS xy ?_;intro φ p;exact oJ (oT rfl z)
 |@arr _ lo hi l =>
  refine oS xy ?_;intro φ p;refine oG (qm (σ:=σ) lo hi l ?_)<;>intro p;exact oJ (oT rfl z)
 |set=>exact(hn _ rfl).elim
theorem qn:∀l:af Int,V.qS (l.map .int)=true
 |[]=>rfl
 |_::r=>qn r
theorem set_set{l:af Int}(z:Q (tY l) σ):CW (oY wf (m+3) (S "set_of") [tY l,.int q] σ) Q X:=by
 refine oS Fh ?_;intro φ p;refine oG (AK (σ:=σ) l ?_)<;>intro p;exact oJ (oT (v:=tY l) (qn l) z)
theorem zv(h:GN d v)(hn:∀l,v≠tY l)(x:XO X σ):CW (oY wf (m+3) (S "set_of") [v,.int q] σ) Q X:=by
 refine oS Fh ?_ (by kernel_rfl!) (by unfold qK;rfl)
 intro φ p;refine oG (yF (σ:=σ) h hn ?_)<;>intro p;exact uc (x.hx (S "a set is wanted") q)
theorem NG{lo hi:Int}{l:af V}(k:af Int):rC lo hi l≠tY k:=λe=>by
 have h:=aD ow (ai (aD pR e));cases k with
 |nil=>exact(nN h).elim
 |cons i k=>exact nomatch (ai h)
end
inductive G0:V->Prop where
 |int {i:Int} (h:i=0\/i=1\/i=2):G0 (.int i)
 |bool {b:aN}:G0 (.bool b)
 |set {lo:Int} (h:lo=0\/lo=1):G0 (tY [lo,lo+1])
 |arr {lo i j:Int} (h:lo=0\/lo=1) (hi:i=0\/i=1\/i=2) (hj:j=0\/j=1\/j=2):G0 (rC lo (lo+1) [.int i,.int j])
theorem G0.gn{v:V}(h:G0 v):GN 1 v:=by
 cases h with
 |int h=>exact .int (by exact S6 h) (by show _<=(10:Int);exact vf .x (.n 2) .x (.n 10) rfl (VD h))
 |bool=>exact .bool
 |@set lo h=>exact GN.set (l:=[lo,lo+1]) (by show 2<=4;decide) (by intro i hi;simp only[bk,bf,dn]at hi;exact hi.elim (λe=>e▸⟨S7 h,bO (VX h) (by decide)⟩) (λe=>e▸⟨vf (.n 0) .x (.n 0) (.a .x (.n 1)) rfl (S7 h),vf .x (.n 1) (.a .x (.n 1)) (.n 10) rfl (VX h)⟩))
 |@arr lo i j h hi hj=>exact .arr (by show 2<=4;decide) (by
   intro v hv;simp only[bk,bf,dn]at hv;rcases hv with rfl|rfl
   ·exact .int (by exact S6 hi) (by show _<=(2:Int);exact VD hi)
   ·refine(let C:Prop:=_;(?_:C))
    exact .int (by exact S6 hj) (by show _<=(2:Int);exact VD hj))
theorem ri:∀l:af V,(∀v∈l,v.oQ=true)->V.qS l=true
 |[],_=>rfl
 |v::r,h=>by rw[V.qS,h v az,ri r λv hv=>h v (aA _ hv)];rfl
theorem GN.np{d:Nat}{v:V}(h:GN d v):v.oQ=true:=by
 induction h with
 |int|bool=>rfl
 |set hl h=>exact qn _
 |arr hl h ih=>show(V.qS _&&true)=true;refine rg (ri _ ih) ?_;rfl
inductive SZ:V->Prop where
 |no {v:V} (h:NA v):SZ v
 |arr {lo:Int} {a b:V} (h:lo=0\/lo=1) (ha:(a.oQ&&b.oQ)=true):SZ (rC lo (lo+1) [a,b])
noncomputable abbrev VO:Str:=oU (S "value_of")
noncomputable abbrev VS:Str:=oU (S "values_of")
section
variable{wf m n k d:Nat}{σ:af Cell}{Q:V->af Cell->Prop}{X:XT}{v:V}{q:Int}{l:af V}
theorem NA.np(h:NA v):v.oQ=true:=by
 cases h with
 |set=>exact qn _
 |_=>rfl
theorem G0.sz(h:G0 v):SZ v:=by
 cases h with
 |int=>exact .no .int
 |bool=>exact .no .bool
 |@set lo h=>exact .no (.set (l:=[lo,lo+1]))
 |arr h hi hj=>exact .arr h rfl
theorem xR{q:Int}{n:Str}(hv:v.oQ=true)(z:Q v σ):CW (oY wf (m+1) (S "alone") [.str n,.lst [v],.int q] σ) Q X:=by
 refine oS Qv ?_;intro φ p;exact oJ (oT hv z)
theorem Dz(hl:∀v∈l,v.oQ=true)(z:Q (rC 1 l.length l) σ):CW (oY wf (m+1) (S "row_of") [.lst l] σ) Q X:=by
 refine oS Nd ?_;intro φ p;exact oJ (oT (by show(V.qS l&&true)=true;rw[ri _ hl];rfl) z)
theorem HK{lo:Int}{a b:V}(ha:(a.oQ&&b.oQ)=true)(h:Q (.lst [a,b]) σ):HB σ.length Q (.lst [a,b]) σ:=oT (by show(a.oQ&&(b.oQ&&true))=true;rw[eU];exact ha) h
theorem KA(h:SZ v)(x:XO X σ)(z:Q (.int 2) σ):CW (oY wf (m+3) (S "of_value") [.str (S "length"),v,.int q] σ) Q X:=by
 cases h with
 |no h =>
  refine oS Ay ?_ (by kernel_rfl!) (by unfold qK;rfl)
  intro φ p;exact oG (v8 (σ:=σ) (q:=q) h x.hx)
 |@arr lo a b h ha =>
  refine oS Ay ?_;intro φ p;refine oG (xQ (σ:=σ) (q:=q) (lo:=lo) (hi:=lo+1) (l:=[a,b]) (HK (lo:=lo) ha ?_))<;>intro p;exact oJ (oT rfl z)
theorem xS:∀a∈[(0:Int),1],∀b∈[(0:Int),1,2],Q (.tup (qG a (b+1))) σ->CW (oY wf (m+1) (S "span") [.int a,.int b] σ) Q X:=by
 intro a ha b hb z;simp only[bk,bf,dn]at ha hb;rcases ha with rfl|rfl<;>rcases hb with rfl|rfl|rfl
 all_goals
  refine oS Ui ?_;intro φ p;exact oJ (oT rfl z)
theorem Us(h:SZ v)(x:XO X σ)(z:∀lo:Int,lo=0\/lo=1->Q (tY [lo,lo+1]) σ):CW (oY wf (m+3) (S "indexes_of") [.str (S "index_set"),v,.int q] σ) Q X:=by
 cases h with
 |no h =>
  refine oS xC ?_ (by kernel_rfl!) (by unfold qK;rfl)
  intro φ p;exact oG (v8 (σ:=σ) (q:=q) h x.hx)
 |@arr lo a b h ha =>
  refine oS xC ?_;intro φ p;refine oG (xQ (σ:=σ) (q:=q) (lo:=lo) (hi:=lo+1) (l:=[a,b]) (HK (lo:=lo) ha ?_))<;>intro p;rcases h with rfl|rfl
  ·refine oG (xS (σ:=σ) 0 (by decide) 1 (by decide) ?_)<;>intro p
   exact oJ (oT rfl (z 0 (.inl rfl)))
  ·refine oG (xS (σ:=σ) 1 (by decide) 2 (by decide) ?_)<;>intro p
   exact oJ (oT rfl (z 1 (.inr rfl)))
theorem AM(h:SZ v)(hv:v.oQ=true)(x:XO X σ)(z:Q (.int 2) σ):CW (oY wf (m+4) (S "called") [.str (S "length"),.lst [v],.int q] σ) Q X:=by
 refine oS xB ?_;intro φ p;refine oG (xR (σ:=σ) (q:=q) (n:=S "length") hv ?_)<;>intro p;refine oG (KA (σ:=σ) (q:=q) h x.hx ?_)<;>intro p;exact oJ (oT rfl z)
theorem HL(h:SZ v)(hv:v.oQ=true)(x:XO X σ)(z:∀lo:Int,lo=0\/lo=1->Q (tY [lo,lo+1]) σ):CW (oY wf (m+4) (S "called") [.str (S "index_set"),.lst [v],.int q] σ) Q X:=by
 refine oS xB ?_;intro φ p;refine oG (xR (σ:=σ) (q:=q) (n:=S "index_set") hv ?_)<;>intro p;refine oG (Us (σ:=σ) (q:=q) h x.hx λlo o=>?_)<;>intro p;exact oJ (oT rfl (z lo o))
structure ScOk(c:Cell)(l:af Str):Prop where
 sz:∀x v,c.lookup x=some v->SZ v/\v.oQ=true
 g0:∀x∈l,∀v,c.lookup x=some v->G0 v
theorem IY{σ:af Cell}{c:Cell}{i:Nat}{x:Str}{b:aN}(h:σ[i]?=some c)(hb:(!(c.lookup x).isSome)=b)(ρ:af (Str×pq)):td .NotIn (.str x) (.ptr i) ⟨ρ,σ⟩=.ok (.bool b) ⟨ρ,σ⟩:=by
 subst hb;have e:td .NotIn (.str x) (.ptr i) ⟨ρ,σ⟩=R.opt (((match σ[i]? with|some c=>some (c.lookup x).isSome|_=>none).map (!·)).map V.bool) ⟨ρ,σ⟩:=by kernel_rfl!
 refine rg (e ..) ?_;refine rg (h ..) ?_;rfl
theorem QF{σ:af Cell}{c:Cell}{i:Nat}{x:Str}{v:V}(h:σ[i]?=some c)(hb:c.lookup x=some v)(ρ:af (Str×pq)):pW (.ptr i) (.str x) ⟨ρ,σ⟩=.ok v ⟨ρ,σ⟩:=by
 have e:pW (.ptr i) (.str x) ⟨ρ,σ⟩=(match σ[i]? with|some c=>R.opt (c.lookup x) ⟨ρ,σ⟩|none=>.stuck):=by kernel_rfl!
 refine rg (e ..) ?_;refine rg (h ..) ?_;dsimp only;refine rg (hb) ?_;rfl
variable{p:Nat}{c:Cell}
theorem IZ{x:Nm}(hp:σ[p]?=some c)(hs:∀v,c.lookup x.s=some v->v.oQ=true)(o:XO X σ)(z:∀v,c.lookup x.s=some v->Q v σ):CW (oY wf (m+1) VO [.ev (.ptr p),wu q x] σ) Q X:=by
 refine oS pn ?_;intro φ y;cases e:c.lookup x.s with
 |some v =>
  refine yB 7 (IY (b:=false) hp (rg (e ..) rfl)) ?_<;>intro y;refine yB 2 (QF hp e) ?_<;>intro y;exact oJ (oT (hs v e) (z v e))
 |none =>
  refine(let C:Prop:=_;(?_:C))
  refine yB 7 (IY (b:=true) hp (rg (e ..) rfl)) ?_<;>intro y;cases x
  ·exact uc (o.hx (cM++S "n"++S " has no value") q)
  ·exact uc (o.hx (cM++S "x"++S " has no value") q)
  ·exact uc (o.hx (cM++S "k"++S " has no value") q)
  ·exact uc (o.hx (cM++S "b"++S " has no value") q)
  ·exact uc (o.hx (cM++S "r"++S " has no value") q)
  ·exact uc (o.hx (cM++S "v"++S " has no value") q)
noncomputable def VC(wf M:Nat)(c:Cell)(o:V)(P:V->Prop):Prop:=∀(σ:af Cell)(p:Nat){Q:V->af Cell->Prop} {X:XT},σ[p]?=some c->XO X σ->(∀v,P v->Q v σ)->CW (oY wf M VO [.ev (.ptr p),o] σ) Q X
theorem su{l:qe}(hs:ScOk c l.asks):VC wf (m+5) c l.toV G0:=λσ p Q X hp y z=>by
 cases l with
 |int q i =>
  refine oS pn ?_;intro φ o;exact oJ (oT rfl (z (.int i.val) (.int (by have:=i.isLt;lia))))
 |name q x=>exact IZ hp (λv e=>(hs.sz _ v e).2) y λv e=>z v (hs.g0 x.s (List.mem_singleton.mpr rfl) v e)
 |size q C q' x =>
  have one:∀{Q:V->af Cell->Prop} {X:XT},XO X σ->(∀v,SZ v->v.oQ=true->Q (.lst [v]) σ)->CW (oY wf (m+4) VS [.ev (.ptr p),.tup [wu q' x]] σ) Q X:=λ{Q X} y z=>by
   refine oS vL ?_;intro φ o;refine oG (IZ (σ:=σ) (q:=q') (x:=x) hp (λv e=>(hs.sz _ v e).2) y.hx λv e=>?_)<;>intro o;have:=hs.sz _ v e;exact oJ (oT (by show(v.oQ&&true)=true;rw[this.2];rfl) (z v this.1 this.2))
  induction C using aJ
  ·refine oS pn ?_;intro φ o;refine oG (one y.hx λv h1 h2=>?_)<;>intro o;refine oG (AM (σ:=σ) (q:=q) h1 h2 y.hx ?_)<;>intro o;exact oJ (oT rfl (z _ (.int (.inr (.inr rfl)))))
  ·refine oS pn ?_;intro φ o;refine oG (one y.hx λv h1 h2=>?_)<;>intro o;refine oG (HL (σ:=σ) (q:=q) h1 h2 y.hx λlo A=>?_)<;>intro o;exact oJ (oT rfl (z _ (.set A)))
end
section
variable{wf m n k d:Nat}{σ:af Cell}{Q:V->af Cell->Prop}{X:XT}{v:V}{q:Int}{l:af V}
theorem QG:(100000:Int)<=10^1000:=by decide +kernel
theorem AN{i:Int}(h:i.natAbs<100000)(z:Q (.int i) σ):CW (oY wf (m+1) (S "within_figures") [.int i] σ) Q X:=by
 refine oS yz ?_;intro φ p;refine Bi 0 (b:=decide ((10:Int)^1000<=(i.natAbs:Int))) (c:=false) (eh (by have:=QG;exact Int.not_le.2 (vf (.a .x (.n 1)) (.n 100000) (.a .x (.n 1)) (.n 10000000000000000000000000000000000000000000000000000000000000000000000000000000000000000000000000000000000000000000000000000000000000000000000000000000000000000000000000000000000000000000000000000000000000000000000000000000000000000000000000000000000000000000000000000000000000000000000000000000000000000000000000000000000000000000000000000000000000000000000000000000000000000000000000000000000000000000000000000000000000000000000000000000000000000000000000000000000000000000000000000000000000000000000000000000000000000000000000000000000000000000000000000000000000000000000000000000000000000000000000000000000000000000000000000000000000000000000000000000000000000000000000000000000000000000000000000000000000000000000000000000000000000000000000000000000000000000000000000000000000000000000000000000000000000000000000000000000000000000000000000000000000000000000000000000000000000000000000000000000000000000000000000000000000000000000000000000000000000000000000000000000000000000000000000000000000000) rfl (eo.2 h)))) ?_<;>intro p
 exact oJ (oT rfl z)
noncomputable def KC(l:af V)(d:Nat)(r:af V)(z:af Int×pq):Prop:=z.1.length+r.length<=4/\(∀i∈z.1,0<=i/\i<=nb d)/\∀v∈r,GN d v
theorem KC.next{l r:af V}{z:af Int×pq}{i:Int}{b:pq}(h:KC l d (v::r) z)(h0:0<=i)(h1:i<=nb d):KC l d r (z.1++[i],b):=(qB (by have:=h.1;rw[bc]at this;show(z.1++[i]).length+_<=_;rw[av,bA];exact pZ (.a .x (.a .y (.n 1))) (.n 4) (.a (.a .x (.n 1)) .y) (.n 4) rfl this) (λj hj=>(List.mem_append.mp hj).elim (h.2.1 j) (λe=>(List.mem_singleton.mp e)▸⟨h0,h1⟩)) (λv hv=>h.2.2 v (aA _ hv)))
theorem FF{r:af V}{l:af V}{z:af Int×pq}{w:V}(h:KC l d (v::r) z)(s:St):room (z.1.map .int) w s=.ok w s:=qD (by have:=h.1;rw[bc]at this;rw[aK];exact pZ (.a .x (.a .y (.n 1))) (.n 4) (.a .x (.n 1)) (.n 1000) rfl this) s
theorem ints_map:∀ns:af Int,q7 (ns.map .int)=some ns
 |[]=>rfl
 |n::r=>by show(q7 (r.map .int)).map (n::·)=_;rw[ints_map r];rfl
theorem NH{b:Int}:∀ns:af Int,(∀n∈ns,0<=n/\n<=b)->0<=ns.sum/\ns.sum<=ns.length*b
 |[],_=>⟨i7 _,by show(0:Int)<=(0:Nat)*b;rw[Int.natCast_zero,bI];exact i7 0⟩
 |n::r,h=>by
  have h1:=h n az;have h2:=NH r λn hn=>h n (aA _ hn);rw[List.sum_cons,bc,Int.natCast_succ,oy,gV];exact⟨(R5 (.n 0) .x (.n 0) .y (.n 0) (.a .x .y) rfl h1.1 h2.1),(Ym .x .y .z .w (.a .x .z) (.a .w .y) rfl h1.2 h2.2)⟩
theorem AO{d:Nat}(h:d<=6):nb d<=10922:=bO (xP h) (by decide)
theorem Ut{ns:af Int}(s:St):zG [.lst (ns.map .int)] s=.ok (.int ns.sum) s:=by
 refine(?_:vv (q7 (ns.map .int)) (λns=>R.ok (V.int ns.sum) s)=_);exact rg (ints_map ..) rfl
theorem Uu{l:af Int}{i:Int}:l.map V.int++[.int i]=(l++[i]).map V.int:=rg (bw ..) rfl
theorem NI(hd:d<=6)(hl:l.length<=4)(hv:∀v∈l,GN d v)(x:XO X σ)(C:∀i:Int,0<=i->i<=4*nb d->Q (.int i) σ):CW (oY wf (m+2) (S "folded") [.str (S "sum"),.lst l,.int q] σ) Q X:=by
 refine oS Fj ?_;intro φ p;refine(let o:FR:=_;(?_:pL _ o _))
 let g1:af Int×pq->St:=λ(z:af Int×pq)=>⟨[(S ".0", .no),(S "one", z.2)],σ⟩
 refine IV 0 (λz=>z.1.map .int) g1 (KC l d) l ([],.no) ⟨by show 0+_<=_;exact qu .x (.n 4) (.a (.n 0) .x) (.n 4) rfl hl,(λu_ h=>nomatch h),hv⟩ (λv r z hI=>?_) (λz hI=>?_)<;>intro p
 ·refine(let y:FR:=_;(?_:pL _ y _))
  refine oG (uD (σ:=σ) (q:=q) (hI.2.2 v az) x.hx λi h0 h1=>?_)<;>intro p;refine oW 0 (FF (w:=.int i) hI) ?_<;>intro p;exact p9 (b:=true) (acc:=z.1.map .int++[.int i]) (qZ ((z.1++[i],.val v)) Uu rfl (hI.next h0 h1))
 ·have hs:=NH z.1 hI.2.1;have h4:=hI.1;have hb:=AO hd;have hp:=Dy d;have A:z.1.sum<=4*nb d:=bO hs.2 (Int.mul_le_mul_of_nonneg_right (by have:z.1.length+0<=4:=h4;lia) (by exact vf (.n 2) .x (.n 0) .x rfl hp))
  refine oW 1 (Ut (ns:=z.1)) ?_<;>intro p;refine oG (AN (σ:=σ) (i:=z.1.sum) (na hs.1 (lS (bO A (eX hb (by decide))) (by decide))) ?_)<;>intro p
  exact oJ (oT rfl (C _ hs.1 A))
theorem DA{l:af Int}(z:Q (.lst (l.map .int)) σ):CW (oY wf (m+3) (S "elements_of") [tY l,.int q] σ) Q X:=by
 refine oS uk ?_;intro φ p;refine oG (AK (σ:=σ) l ?_)<;>intro p;exact oJ (oT (v:=.lst (l.map .int)) (qn l) z)
theorem NJ(hl:∀v∈l,GN d v)(z:Q (.lst l) σ):HB σ.length Q (.lst l) σ:=oT (v:=.lst l) (ri l λv hv=>(hl v hv).np) z
theorem HM(lo hi:Int)(l:af V)(z:Q (.bool false) σ):CW (oY wf (m+2) (S "is_set") [rC lo hi l] σ) Q X:=by
 refine oS xy ?_;intro φ p;refine oG (qm (σ:=σ) lo hi l ?_)<;>intro p;exact oJ (oT rfl z)
theorem u7{lo hi:Int}(hl:∀v∈l,GN d v)(z:Q (.lst l) σ):CW (oY wf (m+3) (S "elements_of") [rC lo hi l,.int q] σ) Q X:=by
 refine oS uk ?_;intro φ p;refine oG (HM (σ:=σ) lo hi l ?_)<;>intro p;refine oG (xQ (σ:=σ) (q:=q) (lo:=lo) (hi:=hi) (l:=l) (NJ hl ?_))<;>intro p;exact oJ (NJ hl z)
theorem AP{lo hi:Int}(hl:∀v∈l,GN d v):(rC lo hi l).oQ=true:=by
 refine(?_:(true&&(V.qS l&&true))=true);refine(ri l λv hv=>(hl v hv).np).symm▸?_;rfl
theorem AQ{h':Int}(hd:d<=6)(hl:l.length<=4)(hv:∀v∈l,GN d v)(x:XO X σ)(z:∀i:Int,0<=i->i<=4*nb d->Q (.int i) σ):CW (oY wf (m+4) (S "called") [.str (S "sum"),.lst [rC 1 h' l],.int q] σ) Q X:=by
 refine oS xB ?_;intro φ p;refine oG (xR (σ:=σ) (q:=q) (n:=S "sum") (AP (lo:=1) (hi:=h') hv) ?_)<;>intro p;refine oG (u7 (σ:=σ) (q:=q) (lo:=1) (hi:=h') hv ?_)<;>intro p;refine oG (NI (σ:=σ) (q:=q) hd hl hv x.hx λi h0 h1=>?_)<;>intro p;exact oJ (oT rfl (z i h0 h1))
end
section
variable{wf m n k d d':Nat}{σ:af Cell}{Q:V->af Cell->Prop}{X:XT}{v w:V}{q:Int}{l:af V}
theorem wW:∀l:af Int,V.qv (l.map .int)=some (l.map .int)
 |[]=>rfl
 |x::r=>by
  show BN (V.toPy (.int x)) (V.qv (r.map .int))=_;rw[wW r];rfl
inductive FL:V->Prop where
 |int {i:Int}:FL (.int i)
 |bool {b:aN}:FL (.bool b)
 |set {l:af Int}:FL (tY l)
theorem AU:∀l:af Int,d3 (l.map ny)=0
 |[]=>rfl
 |_::r=>by show max _ (d3 (r.map .int))=0;rw[AU r];rfl
theorem FL.py(h:FL v):∃y,v.toPy=some y/\y.depth<=1:=by
 cases h with
 |int=>exact o5 _ rfl (bL _)
 |bool=>exact o5 _ rfl (bL _)
 |@set l=>exact o5 (.tuple (l.map .int)) (by show(V.qv (l.map .int)).map jO=_;rw[wW];rfl) (by show d3 (l.map ny)+1<=1;rw[AU];decide)
theorem FL.eq(h:FL v)(h':FL w):∃b,vt v w=some b:=by
 refine(let C:Prop:=_;(?_:C))
 refine o8 (h.py) λy h1 h2=>?_;refine o8 (h'.py) λo z u_=>?_;exact⟨a9 y o,by unfold vt;rw[h1,z];exact aO (aB (ji _ _) (aB h2 (by decide)))⟩
theorem SI{b:aN}(h:vt v w=some b)(s:St):td .Eq v w s=.ok (.bool b) s:=by
 refine(?_:R.opt ((vt v w).map V.bool) s=_);refine(h).symm▸?_;rfl
theorem FL.na(h:FL v):NA v:=by
 cases h with
 |int=>exact .int
 |bool=>exact .bool
 |set=>exact .set
theorem FG{l:af V}{k:Nat}(h:k<l.length):itemAt l (0+(k:Int))=some l[k]:=by
 unfold itemAt;rw[aO (by exact bq _),b8,en,aW h]
theorem NK{l:af V}{i:Int}{v:V}(h:itemAt l i=some v)(s:St):pW (.lst l) (.int i) s=.ok v s:=by
 refine(?_:R.opt (itemAt l i) s=_);refine(h).symm▸?_;rfl
theorem Uv{i:Int}(h:small i=true)(s:St):uM [.int i] s=.ok (.we 0 i) s:=aO h
theorem Uw{ns:af Int}:∃b,∀s,td .Eq (.lst (ns.map .int)) (.lst []) s=.ok (.bool b) s:=by
 refine⟨a9 (.list (ns.map .int)) (.list []),λs=>SI ?_ s⟩;refine(?_:(match(V.qv (ns.map .int)).map d5,some (d5 [])with|some x,some y=>if min x.depth y.depth<=500 then some (a9 x y)else none|_,_=>none)=_)
 rw[wW];exact aO (aB (dC _ _) (by decide))
theorem GN.two(h:GN d v):FL v\/∃lo hi l,v=rC lo hi l:=by
 cases h with
 |int=>exact .inl .int
 |bool=>exact .inl .bool
 |set=>exact .inl .set
 |arr=>exact .inr (V7 _ _ _ rfl)
theorem FH{i:Int}(h:-(2^29)<=i)(h':i<=2^29):small i=true:=by unfold small;refine(b5 h).symm▸?_;refine(b5 h').symm▸?_;rfl
theorem zw(h:FL v)(h':FL w\/∃lo hi l,w=rC lo hi l)(z:∀b,Q (.bool b) σ):CW (oY wf (m+2) (S "are_same") [v,w] σ) Q X:=by
 refine oS wQ ?_;intro φ p;refine oG (r6 (σ:=σ) h.na ?_)<;>intro p;refine oG (r6 (σ:=σ) h.na ?_)<;>intro p;rcases h' with h'|⟨lo,hi,l,rfl⟩
 ·refine oG (r6 (σ:=σ) h'.na ?_)<;>intro p;refine p8 (h.eq h') λb hb=>?_;refine oW 1 (SI hb) ?_<;>intro p;exact oJ (oT rfl (z b))
 ·refine oG (qm (σ:=σ) lo hi l ?_)<;>intro p;exact oJ (oT rfl (z false))
theorem NM{lo hi o A:Int}{l l':af V}(hl:l.length<=4)(hs:∀v∈l,∀w∈l',∀(σ:af Cell){Q:V->af Cell->Prop} {X:XT},(∀b,Q (.bool b) σ)->CW (oY wf (m+1) (S "are_same") [v,w] σ) Q X)(D:∀b,Q (.bool b) σ):CW (oY wf (m+2) (S "are_same") [rC lo hi l,rC o A l'] σ) Q X:=by
 refine oS wQ ?_;intro φ p;refine(let H:FR:=_;(?_:pL _ H _))
 refine oG (qm (σ:=σ) lo hi l ?_)<;>intro p;refine oG (qm (σ:=σ) o A l' ?_)<;>intro p;have hx:∀{b:aN},(b==false)=false->b=true:=λ{b} h=>by induction b using aJ<;>first|rfl|cases h
 refine qV 2 (b:=(!(a9 (.tuple [.tuple [.int lo,.int hi]]) (.tuple [.tuple [.int o,.int A]])))==false) (λe=>?_) (λe=>?_)<;>intro p
 ·refine qV 0 (b:=(!(a9 (.int l.length) (.int l'.length)))==false) (λe=>?_) (λe=>?_)<;>intro p
  ·have M:l.length=l'.length:=by
    have:a9 (.int l.length) (.int l'.length)=true:=by
     cases h:a9 (.int l.length) (.int l'.length)with
     |true=>rfl
     |false=>rw[h]at e;exact(nF e).elim
    simp[a9]at this;lia
   refine oW 2 (Uv (i:=l.length) (FH (by exact vf (.n 0) .x (.g 536870911) .x rfl (bq _)) (by exact vf .x (.n 4) .x (.n 536870912) rfl (b9.2 hl)))) ?_<;>intro p
   let g1:af Int×pq->St:=λ(z:af Int×pq)=>⟨[(S ".0", .no),(S "k", z.2)],σ⟩
   refine uY 0 (λk:Nat=>V.int (0+k)) (λz=>z.1.map .int) g1 (λr z=>z.1.length+r.length<=4/\∀k∈r,k<l.length) (jt l.length) ([],.no) ⟨by rw[List.length_range];show 0+_<=_;exact qu .x (.n 4) (.a (.n 0) .x) (.n 4) rfl hl,λk hk=>List.mem_range.mp hk⟩ (λk r z hI=>?_) (λz hI=>?_)<;>intro p
   ·refine(let O:FR:=_;(?_:pL _ O _))
    have hk:=hI.2 k az;have h4:z.1.length+(r.length+1)<=4:=hI.1;have hr:∀j∈r,j<l.length:=λj hj=>hI.2 j (aA _ hj);refine oW 1 (λs=>NK (l:=l) (FG hk) s) ?_<;>intro p;refine oW 1 (λs=>NK (l:=l') (FG (k:=k) (M▸hk)) s) ?_<;>intro p;refine oG (hs l[k] (iI hk) (l'[k]'(M▸hk)) (iI (M▸hk)) σ λb=>?_)<;>intro p
    induction b using aJ
    ·refine oW 0 (qD (a:=z.1.map .int) (v:=.int (0+k)) (by rw[aK];exact pZ (.a .x (.a .y (.n 1))) (.n 4) (.a .x (.n 1)) (.n 1000) rfl h4)) ?_<;>intro p
     exact p9 (b:=true) (acc:=z.1.map .int++[.int (0+k)]) (Lr ((z.1++[0+(k:Int)],.val (.int (0+k)))) Uu rfl (by rw[av,bA];exact pZ (.a .x (.a .y (.n 1))) (.n 4) (.a (.a .x (.n 1)) .y) (.n 4) rfl h4) hr)
    ·exact p9 (b:=true) (acc:=z.1.map .int) (Lr ((z.1,.val (.int (0+k)))) rfl rfl (by show z.1.length+_<=_;exact pZ (.a .x (.a .y (.n 1))) (.n 4) (.a .x .y) (.n 4) rfl h4) hr)
   ·refine(let C:Prop:=_;(?_:C))
    refine p8 (Uw (ns:=z.1)) λb hb=>?_;refine oW 1 hb ?_<;>intro p;exact oJ (oT rfl (D b))
  ·refine Bi 0 (b:=!(a9 (.int l.length) (.int l'.length))) (c:=true) (hx e) ?_<;>intro p;exact oJ (oT rfl (D false))
 ·refine Bi 0 (b:=!(a9 (.tuple [.tuple [.int lo,.int hi]]) (.tuple [.tuple [.int o,.int A]]))) (c:=true) (hx e) ?_<;>intro p;exact oJ (oT rfl (D false))
theorem DB{lo hi:Int}(h:FL w)(z:∀b,Q (.bool b) σ):CW (oY wf (m+2) (S "are_same") [rC lo hi l,w] σ) Q X:=by
 refine oS wQ ?_;intro φ p;refine oG (qm (σ:=σ) lo hi l ?_)<;>intro p;refine oG (r6 (σ:=σ) h.na ?_)<;>intro p;refine oG (qm (σ:=σ) lo hi l ?_)<;>intro p;exact oJ (oT rfl (z false))
theorem QH:∀{d d':Nat} {v w:V},GN d v->GN d' w->∀(m:Nat)(σ:af Cell){Q:V->af Cell->Prop} {X:XT},(∀b,Q (.bool b) σ)->CW (oY wf (m+d+2) (S "are_same") [v,w] σ) Q X:=by
 intro d
 induction d with
 |zero =>
  intro d' v w h h' m σ Q X z
  have:FL v:=by cases h with
   |int=>exact .int
   |bool=>exact .bool
   |set=>exact .set
  exact zw this h'.two z
 |succ d ih =>
  intro d' v w h h' m σ Q X z;cases h with
  |int=>exact zw .int h'.two z
  |bool=>exact zw .bool h'.two z
  |set=>exact zw .set h'.two z
  |arr hl hv =>
   cases h' with
   |int=>exact DB .int z
   |bool=>exact DB .bool z
   |set=>exact DB .set z
   |arr A hw=>exact NM (m:=m+(d+1)) hl (λv o w y σ {Q X} z=>ih (hv v o) (hw w y) m σ z) z
end
noncomputable abbrev OTW:Str:=oU (S "of_two")
section
variable{wf m n k d d' M:Nat}{σ:af Cell}{Q:V->af Cell->Prop}{X:XT}{v w:V}{q:Int}{l:af V}{c:Cell}{a b:V}{P P':V->Prop}
theorem Xz(h:GN d v)(h':GN d' w)(z:∀b,Q (.bool b) σ):CW (oY wf (m+d+3) (S "are_compared") [.str (S "="),v,w,.int q] σ) Q X:=by
 refine oS pK ?_;intro φ p;refine oG (QH h h' m σ λb=>?_)<;>intro p;exact oJ (oT rfl (z b))
theorem DC{x y:Int}(hv:v=.int x\/∃b:aN,v=.bool b)(hw:w=.int y\/∃b:aN,w=.bool b)(z:∀b,Q (.bool b) σ):CW (oY wf (m+1) (S "are_compared") [.str (S "<"),v,w,.int q] σ) Q X:=by
 rcases hv with rfl|⟨b,rfl⟩<;>rcases hw with rfl|⟨o,rfl⟩
 ·refine oS pK ?_;intro φ p;exact oJ (oT rfl (z (decide (x<y))))
 ·refine oS pK ?_;intro φ p;exact oJ (oT rfl (z (decide (x<if o then 1 else 0))))
 ·refine oS pK ?_;intro φ p;exact oJ (oT rfl (z (decide ((if b then 1 else 0)<y))))
 ·refine oS pK ?_;intro φ p;exact oJ (oT rfl (z (decide ((if b then(1:Int)else 0)<if o then 1 else 0))))
theorem XA(h:G0 v)(h':G0 w)(x:XO X σ)(z:∀b,Q (.bool b) σ):CW (oY wf (m+4) (S "are_compared") [.str (S "<"),v,w,.int q] σ) Q X:=by
 cases h with
 |@int i hi =>
  cases h' with
  |@int j=>exact DC (x:=i) (y:=j) (.inl rfl) (.inl rfl) z
  |bool=>exact DC (x:=i) (y:=0) (.inl rfl) (.inr ⟨_,rfl⟩) z
  |set|arr =>
   refine oS pK ?_;intro φ p;exact oG (zv (σ:=σ) (q:=q) (v:=.int i) (d:=1) (G0.int hi).gn (λu_ e=>nomatch e) x.hx)
 |@bool b =>
  cases h' with
  |@int j=>exact DC (x:=0) (y:=j) (.inr ⟨_,rfl⟩) (.inl rfl) z
  |bool=>exact DC (x:=0) (y:=0) (.inr ⟨_,rfl⟩) (.inr ⟨_,rfl⟩) z
  |set|arr =>
   refine(let C:Prop:=_;(?_:C))
   refine oS pK ?_;intro φ p;exact oG (zv (σ:=σ) (q:=q) (v:=.bool b) (d:=1) .bool (λu_ e=>nomatch e) x.hx)
 |@arr lo i j o hi hj =>
  refine oS pK ?_;intro φ p;exact oG (zv (σ:=σ) (q:=q) (G0.arr o hi hj).gn NG x.hx)
 |@set lo o =>
  have hw:∀{w:V},GN 1 w->(∀l,w≠tY l)->CW (oY wf (m+4) (S "are_compared") [.str (S "<"),tY [lo,lo+1],w,.int q] σ) Q X:=λ{w} h hn=>by
   refine(let C:Prop:=_;(?_:C))
   refine oS pK ?_;intro φ p;refine oG (set_set (σ:=σ) (q:=q) (l:=[lo,lo+1]) ?_)<;>intro p;exact oG (zv (σ:=σ) (q:=q) h hn x.hx)
  cases h' with
  |int hj=>exact hw (G0.int hj).gn (λu_ e=>nomatch e)
  |bool=>exact hw .bool (λu_ e=>nomatch e)
  |arr o hi hj=>exact hw (G0.arr o hi hj).gn NG
  |@set A D =>
   refine oS pK ?_;intro φ p;refine oG (set_set (σ:=σ) (q:=q) (l:=[lo,lo+1]) ?_)<;>intro p;refine oG (set_set (σ:=σ) (q:=q) (l:=[A,A+1]) ?_)<;>intro p;rcases o with rfl|rfl<;>rcases D with rfl|rfl
   ·exact oJ (oT rfl (z false))
   ·exact oJ (oT rfl (z true))
   ·exact oJ (oT rfl (z false))
   ·exact oJ (oT rfl (z false))
end
section
variable{wf m n k d d' M:Nat}{σ:af Cell}{Q:V->af Cell->Prop}{X:XT}{v w:V}{q:Int}{l:af V}{c:Cell}{a b:V}{P P':V->Prop}{p:Nat}
theorem Ux(ha:VC wf (m+d+3) c a (GN d))(hb:VC wf (m+d+3) c b (GN d'))(hp:σ[p]?=some c)(x:XO X σ)(z:∀b,Q (.bool b) σ):CW (oY wf (m+d+4) OTW [.ev (.ptr p),.str (S "="),a,b,.int q] σ) Q X:=by
 refine oS AB ?_;intro φ o;refine oG (ha σ p hp x.hx λv hv=>?_)<;>intro o;refine oG (hb σ p hp x.hx λw hw=>?_)<;>intro o;refine oG (Xz (σ:=σ) (q:=q) hv hw λb=>?_)<;>intro o;exact oJ (oT rfl (z b))
theorem Uy(ha:VC wf (m+4) c a G0)(hb:VC wf (m+4) c b G0)(hp:σ[p]?=some c)(x:XO X σ)(z:∀b,Q (.bool b) σ):CW (oY wf (m+5) OTW [.ev (.ptr p),.str (S "<"),a,b,.int q] σ) Q X:=by
 refine oS AB ?_;intro φ o;refine oG (ha σ p hp x.hx λv hv=>?_)<;>intro o;refine oG (hb σ p hp x.hx λw hw=>?_)<;>intro o;refine oG (XA (σ:=σ) (q:=q) hv hw x.hx λb=>?_)<;>intro o;exact oJ (oT rfl (z b))
theorem QI{i j:Int}(h:(i+j).natAbs<100000)(z:Q (.int (i+j)) σ):CW (oY wf (m+2) (S "reckoned") [.str (S "+"),.int i,.int j,.int q] σ) Q X:=by
 refine oS Hr ?_;intro φ p;refine oG (AN (σ:=σ) (i:=i+j) h ?_)<;>intro p;exact oJ (oT rfl z)
theorem QJ(hd:d<=6)(A:d'<=6)(ha:VC wf (m+2) c a (GN d))(hb:VC wf (m+2) c b (GN d'))(hp:σ[p]?=some c)(x:XO X σ)(z:∀i,0<=i->i<=nb d+nb d'->Q (.int i) σ):CW (oY wf (m+3) OTW [.ev (.ptr p),.str (S "+"),a,b,.int q] σ) Q X:=by
 refine oS AB ?_;intro φ o;refine oG (ha σ p hp x.hx λv hv=>?_)<;>intro o;refine oG (hb σ p hp x.hx λw hw=>?_)<;>intro o;refine oG (uD (σ:=σ) (q:=q) hv x.hx λi h0 h1=>?_)<;>intro o;refine oG (uD (σ:=σ) (q:=q) hw x.hx λj h2 C=>?_)<;>intro o;have b1:=bO h1 (AO hd);have D:=bO C (AO A);refine oG (QI (σ:=σ) (q:=q) (i:=i) (j:=j) (na (R5 (.n 0) .x (.n 0) .y (.n 0) (.a .x .y) rfl h0 h2) (R5 .x (.n 10922) .y (.n 10922) (.a (.a .x .y) (.n 1)) (.n 100000) rfl b1 D)) ?_)<;>intro o;exact oJ (oT rfl (z (i+j) (by exact R5 (.n 0) .x (.n 0) .y (.n 0) (.a .x .y) rfl h0 h2) (by exact Ym .x .y .z .w (.a .x .z) (.a .y .w) rfl h1 C)))
theorem u9(ha:VC wf M c a P)(hb:VC wf M c b P')(na:∀v,P v->v.oQ=true)(nb:∀v,P' v->v.oQ=true)(hp:σ[p]?=some c)(x:XO X σ)(z:∀v w,P v->P' w->Q (.lst [v,w]) σ):CW (oY wf (M+1) VS [.ev (.ptr p),.tup [a,b]] σ) Q X:=by
 refine oS vL ?_;intro φ o;refine oG (ha σ p hp x.hx λv hv=>?_)<;>intro o;refine oG (hb σ p hp x.hx λw hw=>?_)<;>intro o;exact oJ (HK (lo:=0) (by rw[na v hv,nb w hw];rfl) (z v w hv hw))
theorem wX(ha:VC wf M c a P)(na:∀v,P v->v.oQ=true)(hp:σ[p]?=some c)(x:XO X σ)(z:∀v,P v->Q (.lst [v]) σ):CW (oY wf (M+1) VS [.ev (.ptr p),.tup [a]] σ) Q X:=by
 refine oS vL ?_;intro φ o;refine oG (ha σ p hp x.hx λv hv=>?_)<;>intro o;exact oJ (oT (by show(v.oQ&&true)=true;rw[na v hv];rfl) (z v hv))
noncomputable abbrev BU:Str:=oU (S "built")
theorem KD(ha:VC wf (M+1) c a P)(hb:VC wf (M+1) c b P')(na:∀v,P v->v.oQ=true)(nb:∀v,P' v->v.oQ=true)(hp:σ[p]?=some c)(x:XO X σ)(z:∀v w,P v->P' w->Q (rC 1 2 [v,w]) σ):CW (oY wf (M+3) BU [.ev (.ptr p),msg "array", .tup [msg "array", .int q,.tup [a,b]],.int q] σ) Q X:=by
 refine oS zt ?_;intro φ o;refine oG (u9 ha hb na nb hp x.hx λv w hv hw=>?_)<;>intro o
 have hn:∀u∈[v,w],u.oQ=true:=λu hu=>by
  rcases List.mem_cons.mp hu with rfl|hu
  ·exact na _ hv
  ·rw[List.mem_singleton.mp hu];exact nb _ hw
 refine oG (Dz (σ:=σ) (l:=[v,w]) hn ?_)<;>intro o;exact oJ (oT (by show(V.qS [v,w]&&true)=true;rw[ri _ hn];rfl) (z v w hv hw))
theorem NN{P:Int->Prop}{i:Int}(h:P i):∀l:af Int,(∀j∈l,P j)->(qN i l).length<=l.length+1/\∀j∈qN i l,P j
 |[],_=>⟨aL 1,λj hj=>by rw[List.mem_singleton.mp hj];exact h⟩
 |k::r,hr=>by
  have hk:=hr k az;have ih:=NN h r λj hj=>hr j (aA _ hj);show(if i<k then i::k::r else if i=k then k::r else k::qN i r).length<=_/\∀j∈if i<k then i::k::r else if i=k then k::r else k::qN i r,P j
  by_cases h1:i<k
  ·rw[aO h1];exact⟨aL _,λj hj=>(List.mem_cons.mp hj).elim (λe=>e▸h) (hr j)⟩
  ·rw[aT h1];by_cases h2:i=k
   ·rw[aO h2];exact⟨dT _,hr⟩
   ·rw[aT h2];exact⟨ax ih.1,λj hj=>(List.mem_cons.mp hj).elim (λe=>e▸hk) (ih.2 j)⟩
theorem DD{P:Int->Prop}:∀l:af Int,(∀j∈l,P j)->(qj l).length<=l.length/\∀j∈qj l,P j
 |[],h=>⟨aL _,h⟩
 |k::r,h=>by
  have ih:=DD r λj hj=>h j (aA _ hj);have:=NN (h k az) (qj r) ih.2;exact⟨aB this.1 (ax ih.1),this.2⟩
theorem Uz{ns:af Int}(h:ns.length<=4)(s:St):zH [.lst (ns.map .int)] s=.ok (V.rO (qj ns)) s:=by
 refine(?_:vv (q7 (ns.map .int)) (λo=>if(ns.map V.int).length<=4 then R.ok (V.rO (qj o)) s else .stuck)=_)
 rw[ints_map];exact aO (by rw[aK];exact h)
theorem NO{ns:af Int}(h:ns.length<=4)(s:St):tL [V.rO ns] s=.ok (V.lst (ns.map V.int)) s:=aO (cI h (by decide))
theorem wY{i:Int}(z:Q (.int i) σ):CW (oY wf (m+1) (S "number_of") [.int i,.int q] σ) Q X:=by
 refine oS r5 ?_;intro φ p;exact oJ (oT rfl z)
noncomputable abbrev I3(i:Int):Prop:=i=0\/i=1\/i=2
theorem tK(h:G0 v)(x:XO X σ)(z:∀i,I3 i->Q (.int i) σ):CW (oY wf (m+1) (S "number_of") [v,.int q] σ) Q X:=by
 cases h with
 |@int i hi=>exact wY (z i hi)
 |@bool b =>
  refine oS r5 ?_;intro φ p
  induction b using aJ
  ·exact oJ (oT rfl (z 0 (.inl rfl)))
  ·exact oJ (oT rfl (z 1 (.inr (.inl rfl))))
 |set|arr =>
  refine oS r5 ?_;intro φ p;exact uc (x.hx (S "a number is wanted") q)
inductive SV:V->Prop where
 |int {i:Int} (h:I3 i):SV (.int i)
 |bool {b:aN}:SV (.bool b)
 |set {l:af Int} (hl:l.length<=2) (h:∀i∈l,I3 i):SV (tY l)
 |arr {lo hi:Int} {l:af V} (hl:l.length<=2) (h:∀v∈l,G0 v):SV (rC lo hi l)
theorem FJ{o:Type}{P:o->Prop}{a b:o}(ha:P a)(hb:P b):∀i∈[a,b],P i:=λk hk=>(List.mem_cons.mp hk).elim (λe=>e▸ha) λhk=>List.mem_singleton.mp hk▸hb
theorem KG(ha:VC wf (M+1) c a G0)(hb:VC wf (M+1) c b G0)(hp:σ[p]?=some c)(x:XO X σ)(z:∀v,SV v->Q v σ):CW (oY wf (M+3) BU [.ev (.ptr p),msg "set", .tup [msg "set", .int q,.tup [a,b]],.int q] σ) Q X:=by
 refine oS zt ?_;intro φ o;refine oG (u9 ha hb (λv h=>h.gn.np) (λv h=>h.gn.np) hp x.hx λv w hv hw=>?_)<;>intro o;refine oG (tK (σ:=σ) (q:=q) hv x.hx λi hi=>?_)<;>intro o;refine oG (tK (σ:=σ) (q:=q) hw x.hx λj hj=>?_)<;>intro o;have hs:=DD (P:=I3) [i,j] (FJ hi hj);refine oW 2 (NO (ns:=qj [i,j]) (aB hs.1 (by show 2<=4;decide))) ?_<;>intro o
 exact oJ (oT (v:=tY (qj [i,j])) (qn _) (z _ (.set hs.1 hs.2)))
theorem QK{j:Int}(hj:I3 j)(z:∀v,v.oQ=true->SV v->Q v σ):CW (oY wf (m+1) (S "span") [.int 1,.int j] σ) Q X:=by
 rcases hj with rfl|rfl|rfl
 ·exact xS 1 (by decide) 0 (by decide) (z (tY []) rfl (.set (by decide) (by decide)))
 ·exact xS 1 (by decide) 1 (by decide) (z (tY [1]) rfl (.set (by decide) (by decide)))
 ·exact xS 1 (by decide) 2 (by decide) (z (tY [1,2]) rfl (.set (by decide) (by decide)))
theorem KH(ha:VC wf (M+1) c a (λv=>v=.int 1))(hb:VC wf (M+1) c b G0)(hp:σ[p]?=some c)(x:XO X σ)(z:∀v,SV v->Q v σ):CW (oY wf (M+3) BU [.ev (.ptr p),msg "range", .tup [msg "range", .int q,a,b],.int q] σ) Q X:=by
 refine oS zt ?_;intro φ o;refine oG (u9 ha hb (λv h=>aD _ (h)) (λv h=>h.gn.np) hp x.hx λv w hv hw=>?_)<;>intro o;subst hv;refine oG (wY (σ:=σ) (q:=q) (i:=1) ?_)<;>intro o;refine oG (tK (σ:=σ) (q:=q) hw x.hx λj hj=>?_)<;>intro o;refine oG (QK (σ:=σ) hj λv hn hv=>?_)<;>intro o;exact oJ (oT hn (z v hv))
end
noncomputable def QL(v:V):Prop:=∃b:aN,v=.bool b
section
variable{wf m n k d d' M:Nat}{σ:af Cell}{Q:V->af Cell->Prop}{X:XT}{v w:V}{q:Int}{l:af V}{c:Cell}{a b:V}{P P':V->Prop}{p:Nat}
theorem VC.imp(h:VC wf M c a P)(hi:∀v,P v->P' v):VC wf M c a P':=λσ p {Q X} hp x z=>h σ p hp x λv hv=>z v (hi v hv)
theorem NP(ha:VC wf (m+d+3) c a (GN d))(hb:VC wf (m+d+3) c b (GN d')):VC wf (m+d+5) c (.tup [msg "bin", .int q,msg "=", a,b]) QL:=λσ p {Q X} hp x z=>by
 refine oS pn ?_;intro φ o;refine oG (Ux (q:=q) ha hb hp x.hx λb=>?_)<;>intro o;exact oJ (oT rfl (z _ ⟨b,rfl⟩))
theorem UA(ha:VC wf (m+4) c a G0)(hb:VC wf (m+4) c b G0):VC wf (m+6) c (.tup [msg "bin", .int q,msg "<", a,b]) QL:=λσ p {Q X} hp x z=>by
 refine oS pn ?_;intro φ o;refine oG (Uy (q:=q) ha hb hp x.hx λb=>?_)<;>intro o;exact oJ (oT rfl (z _ ⟨b,rfl⟩))
theorem QM(hd:d<=6)(o:d'<=6)(ha:VC wf (m+2) c a (GN d))(hb:VC wf (m+2) c b (GN d')):VC wf (m+4) c (.tup [msg "bin", .int q,msg "+", a,b]) (λv=>∃i:Int,v=.int i/\0<=i/\i<=nb d+nb d'):=λσ p {Q X} hp x z=>by
 refine oS pn ?_;intro φ y;refine oG (QJ (q:=q) hd o ha hb hp x.hx λi h0 h1=>?_)<;>intro y;exact oJ (oT rfl (z _ (qZ i rfl h0 h1)))
theorem ScOk.app{l l':af Str}(h:ScOk c (l++l')):ScOk c l/\ScOk c l':=⟨⟨h.sz,λx hx=>h.g0 x (List.mem_append.mpr (.inl hx))⟩,⟨h.sz,λx hx=>h.g0 x (List.mem_append.mpr (.inr hx))⟩⟩
theorem HN{t:Ec}(hs:ScOk c t.asks):VC wf (m+7) c t.toV QL:=by
 obtain⟨q,e,l,r⟩:=t
 induction e using aJ
 ·exact UA (m:=m+1) (su hs.app.1) (su hs.app.2)
 ·exact NP (m:=m+1) (d:=1) (d':=1) ((su hs.app.1).imp λv h=>h.gn) ((su hs.app.2).imp λv h=>h.gn)
theorem GN.up(h:GN d v):GN (d+1) v:=by
 induction h with
 |int h0 h1=>exact .int h0 (bO h1 (xP (dT _)))
 |bool=>exact .bool
 |set hl h=>exact .set hl λi hi=>⟨(h i hi).1,bO (h i hi).2 (xP (dT _))⟩
 |arr hl h ih=>exact .arr hl ih
theorem HO(ha:VC wf (M+1) c a P)(hb:VC wf (M+1) c b P')(na:∀v,P v->v.oQ=true)(nb:∀v,P' v->v.oQ=true):VC wf (M+4) c (.tup [msg "array", .int q,.tup [a,b]]) (λu=>∃v w,P v/\P' w/\u=rC 1 2 [v,w]):=λσ p {Q X} hp x z=>by
 refine oS pn ?_;intro φ o;refine oG (KD (q:=q) ha hb na nb hp x.hx λv w hv hw=>?_)<;>intro o;exact oJ (oT (by show(V.qS [v,w]&&true)=true;rw[ri _ (FJ (P:=λv:V=>v.oQ=true) (na v hv) (nb w hw))];rfl) (z _ (tD v w hv hw rfl)))
theorem SV.np(h:SV v):v.oQ=true:=by
 cases h with
 |int|bool=>rfl
 |set=>exact qn _
 |@arr lo hi l hl h=>exact AP (d:=1) λv hv=>(h v hv).gn
theorem UB{s:Bj}(hs:ScOk c s.asks):VC wf (m+8) c s.toV SV:=by
 cases s with
 |leaf l =>
  refine(su (m:=m+3) hs).imp λv h=>?_;cases h with
  |int h=>exact .int h
  |bool=>exact .bool
  |@set lo h=>exact .set (l:=[lo,lo+1]) (aL 2) (FJ (by rcases h with rfl|rfl<;>decide) (by rcases h with rfl|rfl<;>decide))
  |@arr lo i j h hi hj=>exact .arr (l:=[.int i,.int j]) (aL 2) (FJ (.int hi) (.int hj))
 |pair q arr a b =>
  have ha:VC wf (m+5) c a.toV G0:=su hs.app.1;have hb:VC wf (m+5) c b.toV G0:=su hs.app.2
  induction arr using aJ with
  |true=>exact(HO (M:=m+4) ha hb (λv h=>h.gn.np) (λv h=>h.gn.np)).imp λv ⟨_,_,h1,h2,e⟩=>e▸.arr (l:=[_,_]) (aL 2) (FJ h1 h2)
  |false =>
   intro σ p Q X hp x z;refine oS pn ?_;intro φ o;refine oG (KG (M:=m+4) (q:=q) ha hb hp x.hx λv hv=>?_)<;>intro o;exact oJ (oT hv.np (z v hv))
 |range q q' l =>
  have ha:VC wf (m+5) c (qe.int q' 1).toV (λv=>v=.int 1):=λσ p {Q X} hp x z=>by
   refine oS pn ?_;intro φ o;exact oJ (oT rfl (z _ rfl))
  have hb:VC wf (m+5) c l.toV G0:=su hs.app.2;intro σ p Q X hp x z;refine oS pn ?_;intro φ o;refine oG (KH (M:=m+4) (q:=q) ha hb hp x.hx λv hv=>?_)<;>intro o;exact oJ (oT hv.np (z v hv))
theorem DE(h:QL v)(z:∀b:aN,v=.bool b->Q (.bool b) σ):CW (oY wf (m+1) (S "truth_of") [v,.int q] σ) Q X:=by
 obtain⟨b,rfl⟩:=h;refine oS wO ?_;intro φ p;exact oJ (oT rfl (z b rfl))
theorem KI{t:Ec}(ht:VC wf (M+1) c t.toV QL)(ha:VC wf (M+1) c a P)(hb:VC wf (M+1) c b P)(na:∀v,P v->v.oQ=true)(hn:∀s,td .Is b .none s=.ok (.bool false) s)(hp:σ[p]?=some c)(x:XO X σ)(z:∀v,P v->Q v σ):CW (oY wf (M+2) (oU (S "chosen")) [.ev (.ptr p),.tup [msg "if", .int q,.tup [.tup [t.toV,a]],b]] σ) Q X:=by
 refine oS Nh ?_;intro φ p1;refine oG (ht σ p hp x.hx λv hv=>?_)<;>intro p1;refine oG (DE (σ:=σ) (q:=t.p) hv λb o=>?_)<;>intro p1
 induction b using aJ
 ·refine oW 1 hn ?_<;>intro p1;refine oG (hb σ p hp x.hx λv hv=>?_)<;>intro p1;exact oJ (oT (na v hv) (z v hv))
 ·refine(let C:Prop:=_;(?_:C))
  refine oG (ha σ p hp x.hx λv hv=>?_)<;>intro p1;exact oJ (oT (na v hv) (z v hv))
theorem XB{t:Ec}(ht:VC wf (M+1) c t.toV QL)(ha:VC wf (M+1) c a P)(hb:VC wf (M+1) c b P)(na:∀v,P v->v.oQ=true)(hn:∀s,td .Is b .none s=.ok (.bool false) s):VC wf (M+3) c (.tup [msg "if", .int q,.tup [.tup [t.toV,a]],b]) P:=λσ p {Q X} hp x z=>by
 refine oS pn ?_;intro φ o;refine oG (KI (q:=q) ht ha hb na hn hp x.hx λv hv=>?_)<;>intro p1;exact oJ (oT (na v hv) (z v hv))
noncomputable def GL(a:Str)(n:Nat):Prop:=a.length<=n
theorem GL.glue{a t:Str}{n k:Nat}(h:GL a n)(h':GL t k)(hk:n+k<=1000)(s:St):glue a (.str t) s=.ok (.str (a++t)) s:=aO (by unfold GL at *;unfold qf;exact CJ (.a .x .y) (.n 1000) .z .x .w .y (.a .z .w) (.n 1000000) rfl hk h h')
theorem GL.app{a t:Str}{n k:Nat}(h:GL a n)(h':GL t k):GL (a++t) (n+k):=by unfold GL at *;exact rg (Str.length_append ..) (cp h h')
noncomputable abbrev fi(i:Int):Str:=aa (toString i)
theorem AV{i:Int}(h0:0<=i)(h:i<=700):GL (fi i) 10:=by
 have key:∀k:Fin 701,(aa (toString (k.val:Int))).length<=10:=by decide +kernel
 refine p8 (gk h0) λk o=>?_;subst o;exact key ⟨k,Nat.lt_succ_of_le (b9.1 h)⟩
theorem DF{i:Int}(h0:0<=i)(h:i<=700)(s:St):R.opt (cO V.str (vu (.int i))) s=.ok (.str (fi i)) s:=by
 unfold vu;dsimp only;exact rg (aO (FH (by exact vf (.n 0) .x (.g 536870911) .x rfl h0) (by exact vf .x (.n 700) .x (.n 536870912) rfl h))) rfl
theorem QN(hd:d<=4)(ha:VC wf (M+2) c a G0)(hb:VC wf (M+1) c b (GN d))(hp:σ[p]?=some c)(x:XO X σ)(z:∀v,SV v->Q v σ):CW (oY wf (M+3) (oU (S "element")) [.ev (.ptr p),.tup [msg "index", .int q,a,.tup [b]]] σ) Q X:=by
 refine oS Kv ?_;intro φ y;refine oG (ha σ p hp x.hx λv hv=>?_)<;>intro y;cases hv with
 |@int i=>exact oG (v8 (σ:=σ) (q:=q) (.int (i:=i)) x.hx)
 |@bool b=>exact oG (v8 (σ:=σ) (q:=q) (.bool (b:=b)) x.hx)
 |@set lo=>exact oG (v8 (σ:=σ) (q:=q) (.set (l:=[lo,lo+1])) x.hx)
 |@arr lo i j o hi hj =>
  refine oG (xQ (σ:=σ) (q:=q) (lo:=lo) (hi:=lo+1) (l:=[.int i,.int j]) (oT rfl ?_))<;>intro y;refine oG (wX hb (λv h=>h.np) hp x.hx λv hv=>?_)<;>intro y;refine oG (uD (σ:=σ) (q:=q) hv x.hx λk h0 h1=>?_)<;>intro y;have A:k<=700:=bO h1 (bO (xP hd) (by decide))
  have C:0<=lo/\lo+1<=700:=by exact⟨(S7 o),(vf .x (.n 1) (.a .x (.n 1)) (.n 700) rfl (VX o))⟩
  have g1:GL (cM++S "the index ") 20:=by unfold GL;decide +kernel
  have g2:=g1.app (AV h0 A);have g3:GL (S " is not within ") 20:=by unfold GL;decide +kernel
  have g4:=g2.app g3;have D:=AV (i:=lo) (by exact S7 o) (by exact vf .x (.n 1) .x (.n 700) rfl (VX o))
  have n2:=AV (i:=lo+1) (by exact vf (.n 0) .x (.n 0) (.a .x (.n 1)) rfl (S7 o)) (by exact C.2)
  have g5:=g4.app D;have H:GL (S "..") 20:=by unfold GL;decide +kernel
  have O:=g5.app H;refine qV 0 (b:=decide (lo<=k)) (λe=>?_) (λe=>?_)<;>intro y;refine qV 0 (b:=!decide (k<=lo+1)) (λe'=>?_) (λe'=>?_);intro y
  rotate_left
  intro y
  have hk:k=lo\/k=lo+1:=by
   have h1:=bR e;have h2:k<=lo+1:=Decidable.not_not.1 λh=>by rw[eh h]at e';exact(nT e').elim
   exact(Int.lt_or_eq_of_le h2).imp_left λq=>mL (Int.lt_add_one_iff.1 q) h1
  rcases o with rfl|rfl<;>rcases hk with rfl|rfl
  ·exact oJ (oT rfl (z _ (.int hi)))
  ·exact oJ (oT rfl (z _ (.int hj)))
  ·exact oJ (oT rfl (z _ (.int hi)))
  ·exact oJ (oT rfl (z _ (.int hj)))
  all_goals
   refine oW 1 (DF h0 A) ?_<;>intro y;refine oW 0 (g1.glue (AV h0 A) (by decide)) ?_<;>intro y
   refine oW 0 (g2.glue g3 (by decide)) ?_<;>intro y
   refine oW 0 (DF (i:=lo) (by exact S7 o) (by exact vf .x (.n 1) .x (.n 700) rfl (VX o))) ?_<;>intro y
   refine oW 0 (g4.glue D (by decide)) ?_<;>intro y
   refine oW 0 (g5.glue H (by decide)) ?_<;>intro y
   refine oW 0 (DF (i:=lo+1) (by exact vf (.n 0) .x (.n 0) (.a .x (.n 1)) rfl (S7 o)) (by exact C.2)) ?_<;>intro y
   refine oW 0 (O.glue n2 (by decide)) ?_<;>intro y
   exact uc (x.hx (cM++S "the index "++fi k++S " is not within "++fi lo++S ".."++fi (lo+1)) q)
theorem NQ(hd:d<=4)(ha:VC wf (M+2) c a G0)(hb:VC wf (M+1) c b (GN d)):VC wf (M+4) c (.tup [msg "index", .int q,a,.tup [b]]) SV:=λσ p {Q X} hp x z=>by
 refine oS pn ?_;intro φ o;refine oG (QN (q:=q) hd ha hb hp x.hx λv hv=>?_)<;>intro p1;exact oJ (oT hv.np (z v hv))
theorem NR{q':Int}(hd:d<=6)(ha:VC wf (M+1) c a (GN d))(hb:VC wf (M+1) c b (GN d)):VC wf (M+6) c (.tup [msg "call", .int q,msg "sum", .tup [.tup [msg "array", .int q',.tup [a,b]]]]) (λv=>∃i:Int,v=.int i/\0<=i/\i<=4*nb d):=λσ p {Q X} hp x z=>by
 refine oS pn ?_;intro φ y;have na:∀v,GN d v->v.oQ=true:=λv h=>h.np;have h2:∀u,(∃v w,GN d v/\GN d w/\u=rC 1 2 [v,w])->u.oQ=true:=λu ⟨v,w,h1,h2,e⟩=>e▸AP (FJ h1 h2);refine oG (wX (HO (q:=q') ha hb na na) h2 hp x.hx λu hu=>?_)<;>intro p1;refine(let C:Prop:=_;(?_:C))
 refine sF (hu) λv w h1 h2 o=>?_;subst o;refine oG (AQ (σ:=σ) (q:=q) (h':=2) (l:=[v,w]) hd (by show 2<=4;decide) (FJ h1 h2) x.hx λi h0 h1=>?_)<;>intro p1
 exact oJ (oT rfl (z _ (qZ i rfl h0 h1)))
theorem NS{q':Int}(ha:VC wf (M+1) c a (GN d))(hb:VC wf (M+1) c b (GN d')):VC wf (M+6) c (.tup [msg "call", .int q,msg "length", .tup [.tup [msg "array", .int q',.tup [a,b]]]]) (λv=>v=.int 2):=λσ p {Q X} hp x z=>by
 refine oS pn ?_;intro φ y
 have h2:∀u,(∃v w,GN d v/\GN d' w/\u=rC 1 2 [v,w])->u.oQ=true:=λu ⟨v,w,h1,h2,e⟩=>e▸by
  show(V.qS [v,w]&&true)=true;refine rg (ri _ (FJ (P:=λv:V=>v.oQ=true) h1.np h2.np)) ?_;rfl
 refine oG (wX (HO (q:=q') ha hb (λv h=>h.np) (λv h=>h.np)) h2 hp x.hx λu hu=>?_)<;>intro p1;have hn:=h2 u hu;refine sF (hu) λv w h1 h2 o=>?_;subst o;refine oG (AM (σ:=σ) (q:=q) (SZ.arr (lo:=1) (a:=v) (b:=w) (.inr rfl) (rg (h1.np ..) (rg (h2.np ..) rfl))) hn x.hx ?_)<;>intro p1;exact oJ (oT rfl (z _ rfl))
theorem FK{j:Int}(hj:I3 j)(z:Q (.tup [.tup [.int 0,.int j]]) σ):CW (oY wf (m+1) (S "range_of") [.int 0,.int j] σ) Q X:=by
 refine oS Hq ?_;intro φ p;refine Bi 0 (b:=decide (0<=j)) (c:=true) (b5 (by exact S6 hj)) ?_<;>intro p
 exact oJ (oT rfl z)
theorem QO{i j:Int}(z:∀k,Q (.int k) σ)(o:Q .none σ):CW (oY wf (m+1) (S "next_from") [.tup [.tup [.int 0,.int j]],.int i] σ) Q X:=by
 refine oS Fg ?_;intro φ p;refine qV 0 (b:=decide (i<=j)) (λe=>?_) (λe=>?_)<;>intro p
 ·exact oJ (oT rfl (z (if 0<i then i else 0)))
 ·exact oJ (oT rfl o)
theorem UC{i j:Int}(z:∀b,Q (.bool b) σ):CW (oY wf (m+2) (S "has") [.tup [.tup [.int 0,.int j]],.int i] σ) Q X:=by
 refine oS Xh ?_;intro φ p;refine oG (QO (σ:=σ) (i:=i) (j:=j) (λk=>?_) ?_)<;>intro p
 ·exact oJ (oT rfl (z (a9 (.int k) (.int i))))
 ·exact oJ (oT rfl (z false))
theorem QP{i:Int}(hi:I3 i)(z:∀x,GL x 10->Q (.str x) σ):CW (oY wf (m+1) (S "show_text") [.int i] σ) Q X:=by
 refine oS Fi ?_;intro φ p;refine oW 2 (DF (i:=i) (by exact S6 hi) (by exact vf .x (.n 2) .x (.n 700) rfl (VD hi))) ?_<;>intro p
 exact oJ (oT rfl (z (fi i) (AV (by exact S6 hi) (by exact vf .x (.n 2) .x (.n 700) rfl (VD hi)))))
theorem QQ{t:Str}{n:Nat}(h:GL t n)(hn:n<=1000)(s:St):R.opt (cO V.str (vu (.str t))) s=.ok (.str t) s:=by
 unfold vu GL at *;dsimp only;refine rg (aO (aB (aB h hn) (by unfold qf;decide))) ?_;rfl
inductive Dm:V->Prop where
 |none:Dm .none
 |xK {j:Int}:Dm (.tup [.tup [.int 0,.int j]])
theorem I0(hv:G0 v)(hw:Dm w)(x:XO X σ)(z:∀i,I3 i->Q (.int i) σ):CW (oY wf (m+3) (S "fitted_one") [msg "int", w,v,.int q] σ) Q X:=by
 cases hw with
 |none =>
  refine oS xA ?_;intro φ p;refine oG (tK (σ:=σ) (q:=q) hv x.hx λi hi=>?_)<;>intro p;exact oJ (oT rfl (z i hi))
 |@xK j =>
  refine oS xA ?_;intro φ p;refine oG (tK (σ:=σ) (q:=q) hv x.hx λi hi=>?_)<;>intro p;refine oG (UC (σ:=σ) (i:=i) (j:=j) λb=>?_)<;>intro p;cases b
  ·refine oG (QP (σ:=σ) (i:=i) hi λt ht=>?_)<;>intro p;refine oW 0 (QQ ht (by decide)) ?_<;>intro p
   have g0:GL cM 0:=by unfold GL;decide
   have g1:GL (S " is not within its bounds") 100:=by unfold GL;decide +kernel
   refine oW 0 (g0.glue ht (by decide)) ?_<;>intro p
   refine oW 0 ((g0.app ht).glue g1 (by decide)) ?_<;>intro p
   exact uc (x.hx (cM++t++S " is not within its bounds") q)
  ·exact oJ (oT rfl (z i hi))
theorem KJ{q':Int}{l:qe}(hs:ScOk c l.asks)(hp:σ[p]?=some c)(x:XO X σ)(z:∀v,Dm v->Q v σ):CW (oY wf (m+7) (oU (S "domain_of")) [.ev (.ptr p),yC q q' 0 l] σ) Q X:=by
 have ha:VC wf (m+5) c (qe.int q' 0).toV (λv=>v=.int 0):=λσ p {Q X} hp x z=>by
  refine oS pn ?_;intro φ o;exact oJ (oT rfl (z _ rfl))
 refine oS Fq ?_;intro φ o;refine oG (u9 (M:=m+5) ha (su hs) (λv h=>rg (h ..) rfl) (λv h=>h.gn.np) hp x.hx λv w hv hw=>?_)<;>intro o;subst hv;refine oG (wY (σ:=σ) (q:=q) (i:=0) ?_)<;>intro o;refine oG (tK (σ:=σ) (q:=q) hw x.hx λj hj=>?_)<;>intro o;refine oG (FK (σ:=σ) hj ?_)<;>intro o;exact oJ (oT rfl (z _ (.xK (j:=j))))
theorem KN{q:Int}{var:aN}{bd:HI}(hs:ScOk c bd.asks)(hv:G0 v)(hp:σ[p]?=some c)(x:XO X σ)(z:∀i,I3 i->Q (.int i) σ):CW (oY wf (m+8) (oU (S "fitted")) [.ev (.ptr p),.tup [msg "int", .bool var,.tup [],bd.toV],v,.int q] σ) Q X:=by
 cases bd with
 |none =>
  refine oS Fs ?_;intro φ o;refine oG (I0 (σ:=σ) (q:=q) hv .none x.hx λi hi=>?_)<;>intro o;exact oJ (oT rfl (z i hi))
 |xK y A l =>
  refine oS Fs ?_;intro φ o;refine oG (KJ (q:=y) (q':=A) (l:=l) hs.app.2 hp x.hx λw hw=>?_)<;>intro o;refine oG (I0 (σ:=σ) (q:=q) hv hw x.hx λi hi=>?_)<;>intro o;exact oJ (oT rfl (z i hi))
end
structure Sc(c:Cell)(n:Nat)(l:af Str):Prop extends ScOk c l where
 np:c.all (λp=>p.2.oQ)=true
 ln:c.length<=n
section
variable{wf m n k d d' M:Nat}{σ:af Cell}{Q:V->af Cell->Prop}{X:XT}{v w:V}{q:Int}{l:af V}{c:Cell}{a b:V}{P P':V->Prop}{p:Nat}{L:af Str}
theorem AW{x y:Str}:∀c:Cell,(pv c x v).lookup y=match y==x with|true=>some v|false=>c.lookup y
 |[]=>by
  show(match y==x with|true=>some v|false=>none)=_
  cases y==x<;>rfl
 |(k,u)::r=>by
  rw[tE];cases e:k==x with
  |true =>
   rw[aO rfl];have:=eq_of_beq e;subst this;show(match y==k with|true=>some v|false=>r.lookup y)=match y==k with|true=>some v|false=>(match y==k with|true=>some u|false=>r.lookup y)
   cases y==k<;>rfl
  |false =>
   rw[aT (by decide)]
   show(match y==k with|true=>some u|false=>(pv r x v).lookup y)=match y==x with|true=>some v|false=>(match y==k with|true=>some u|false=>r.lookup y)
   rw[AW r];cases e1:y==k with
   |false=>rfl
   |true=>rw[eq_of_beq e1,e]
theorem HP{x:Str}(hv:v.oQ=true):∀c:Cell,c.all (λp=>p.2.oQ)=true->(pv c x v).all (λp=>p.2.oQ)=true/\(pv c x v).length<=c.length+1
 |[],_=>⟨by show(v.oQ&&true)=true;rw[hv];rfl,aL _⟩
 |(k,u)::r,h=>by
  have h:(u.oQ&&r.all λp=>p.2.oQ)=true:=h;rw[aw]at h;rw[tE];cases k==x with
  |true=>exact⟨by show(v.oQ&&r.all λp=>p.2.oQ)=true;rw[hv,h.2];rfl,dT _⟩
  |false =>
   have ih:=HP (x:=x) hv r h.2;exact⟨by show(u.oQ&&(pv r x v).all λp=>p.2.oQ)=true;rw[h.1,ih.1];rfl,ax ih.2⟩
theorem QR{x y:Str}(h:a9 (.str x) (.str y)=true):y=x:=by simp[a9]at h;exact h.symm
theorem Sc.put{x:Str}{r:af Str}(h:Sc c n (less L (x::r)))(hv:G0 v):Sc (pv c x v) (n+1) (less L r) where
 sz:=λy w hw=>by
  rw[AW]at hw;refine(let C:Prop:=_;(?_:C))
  cases e:y==x with
  |true=>rw[e]at hw;obtain rfl:=ai hw;exact⟨hv.sz,hv.gn.np⟩
  |false=>rw[e]at hw;exact h.sz y w hw
 g0:=λy hy w hw=>by
  rw[AW]at hw;cases e:y==x with
  |true=>rw[e]at hw;obtain rfl:=ai hw;exact hv
  |false =>
   rw[e]at hw;refine h.g0 y ?_ w hw;refine qA (List.mem_filter.mp hy) λh1 h2=>?_;refine List.mem_filter.mpr ⟨h1,?_⟩;have:a9 (.str x) (.str y)=false:=Bool.eq_false_iff.mpr λh=>by rw[QR h,cC]at e;exact(nT e).elim
   refine(?_:(!(a9 (.str x) (.str y)||r.any _))=true)
   exact(this)▸(h2)
 np:=(HP hv.gn.np c h.np).1
 ln:=aB (HP hv.gn.np c h.np).2 (ax h.ln)
theorem AX:∀L:af Str,less L []=L
 |[]=>rfl
 |x::r=>aD (x::·) (AX r)
theorem Sc.sub{o:af Str}(h:Sc c n L)(hs:∀x∈o,x∈L)(hn:n<=k):Sc c k o:=⟨⟨h.sz,λx hx=>h.g0 x (hs x hx)⟩,h.np,aB h.ln hn⟩
theorem wZ{t:af Cell}(hv:v.oQ=true)(h:Q v σ):HB σ.length Q v (σ++t):=by unfold HB;rw[hv];dsimp only;rw[mG];exact h
theorem XO.ha(x:XO X σ)(t:af Cell):XO (HX σ.length X) (σ++t):=λs q=>⟨rfl,by rw[mG];exact x s q⟩
theorem I1{ρ:af (Str×pq)}(hp:σ[p]?=some c)(h:Sc c n L)(hn:n<=900):vw [.ptr p] ⟨ρ,σ⟩=.ok (.ptr σ.length) ⟨ρ,σ++[c]⟩:=by
 refine(?_:vv σ[p]? (λc=>rk c ⟨ρ,σ⟩)=_);refine(hp).symm▸?_;exact aO (by rw[h.np,hO];exact b5 (aB h.ln (aB hn (by unfold qf;decide))))
theorem NU{x:Str}{ρ:af (Str×pq)}(hv:v.oQ=true)(h:Sc c n L)(hn:n<=900):AD (putAt (.ptr σ.length) (.str x) v ⟨ρ,σ++[c]⟩)=.ok .none ⟨ρ,σ++[pv c x v]⟩:=by
 refine(?_:AD (match(σ++[c])[σ.length]? with|some cell=>if v.oQ&&decide (cell.length<qf)then .ok () ⟨ρ,(σ++[c]).set σ.length (pv cell x v)⟩else .stuck|none=>.stuck)=_)
 rw[dO];dsimp only;rw[aO (show(v.oQ&&decide (c.length<qf))=true by rw[hv];exact b5 (yD (aB h.ln (aB hn (by decide))))),kz _ _ (aL _),gz];rfl
theorem I8(l:qe)(s:St):td .Is l.toV .none s=.ok (.bool false) s:=by cases l<;>rfl
noncomputable abbrev WI:Str:=oU (S "within")
theorem j1{n r:Nat}:n+(2-(r+1))<=n+(2-r):=dy (Nat.sub_le_sub_left (dT r) 2) n
theorem j2{n r:Nat}(h:r+1<=2):n+(2-(r+1))+1<=n+(2-r):=by
 cases r with
 |zero=>exact aL _
 |succ r=>cases r with
  |zero=>exact aL _
  |succ r=>exact absurd h (gh (cq 3 r))
theorem KO{items:vM}(hs:Sc c n (pF items.l L))(hn:n<=800)(ha:∀A,Sc A (n+2) L->VC wf (m+8) A a P)(na:∀v,P v->v.oQ=true)(hp:σ[p]?=some c)(x:XO X σ)(U:∀v,P v->Q v σ):CW (oY wf (m+9) WI [.ev (.ptr p),.tup [msg "let", .int q,items.toV,a]] σ) Q X:=by
 refine oS Nj ?_;intro φ o;refine(let D:FR:=_;(?_:pL _ D _))
 refine Ny 1 (ρ:=(uA 1 o).ρ) (I1 hp hs (by exact qu .x (.n 800) .x (.n 900) rfl hn)) ?_<;>intro o
 have hz:∀A:Cell,(σ++[A])[σ.length]?=some A:=λA=>dO;have hx:∀t,XO (HX σ.length X) (σ++t):=x.ha
 let g1:Cell×pq->St:=λ(z:Cell×pq)=>⟨[(S "self", .val (.ev (.ptr p))),(S "node", .val (.tup [msg "let", .int q,items.toV,a])),(S "inner", .val (.ev (.ptr σ.length))),(S "item", z.2)],σ++[z.1]⟩
 refine uY 0 Item.toV (λu_=>[]) g1
  (λr z=>Sc z.1 (n+(2-r.length)) (pF r L)/\r.length<=2) items.l (c,.no) ⟨hs.sub (λu_ h=>h) (by exact xb  .x (.a .x .y) rfl ),items.h⟩ (λi r z hI=>?_) (λz hI=>?_)
 ·cases i with
  |con q' t =>
   intro o;refine(let H:FR:=_;(?_:pL _ H _))
   have h1:Sc z.1 (n+(2-(r.length+1))) (pF r L++t.asks):=hI.1;refine oG (HN (m:=m+1) (t:=t) (c:=z.1) h1.app.2 (σ++[z.1]) σ.length (hz z.1) (hx _) λv hv=>?_)<;>intro o;refine oG (DE (σ:=σ++[z.1]) (q:=q') hv λb hb=>?_)<;>intro o;refine(let C:Prop:=_;(?_:C))
   induction b using aJ
   ·exact uc (hx [z.1] (S "a constraint within let does not hold") q')
   ·exact p9 (b:=true) (acc:=[]) (Lr ((z.1,.val (Item.con q' t).toV)) rfl rfl (h1.sub (λu_ h=>List.mem_append.mpr (.inl h)) j1) (bD hI.2))
  |decl q' var bd y e =>
   intro o;refine(let O:FR:=_;(?_:pL _ O _))
   have h1:Sc z.1 (n+(2-(r.length+1))) (less (pF r L) [y.s]++bd.asks++e.asks++rM var):=hI.1;refine(let C:Prop:=_;(?_:C))
   have h2:r.length+1<=2:=hI.2;refine oW 3 (I8 e) ?_<;>intro o;refine oG (su (m:=m+3) (l:=e) (c:=z.1) h1.app.1.app.2 (σ++[z.1]) σ.length (hz z.1) (hx _) λv hv=>?_)<;>intro o;refine oG (KN (m:=m) (q:=q') (var:=var) (bd:=bd) (c:=z.1) h1.app.1.app.1.app.2 hv (hz z.1) (hx _) λi hi=>?_)<;>intro o;refine Ny 2 (f:=λs=>AD (putAt (.ptr σ.length) (.str y.s) (.int i) s)) (σ:=σ++[z.1]) (ρ:=(uA 2 o).ρ) (v:=.none) (σ':=σ++[pv z.1 y.s (.int i)]) (NU (σ:=σ) (x:=y.s) (v:=.int i) rfl h1 (aB (cp hn (aP 2 _)) (by decide))) ?_<;>intro o
   have Y:Sc z.1 (n+(2-(r.length+1))) (less (pF r L) [y.s]):=h1.sub (λu_ h=>List.mem_append.mpr (.inl (List.mem_append.mpr (.inl (List.mem_append.mpr (.inl h)))))) (aL _);have h4:=Y.put (.int hi);simp only[AX]at h4;exact p9 (b:=true) (acc:=[]) (Lr ((pv z.1 y.s (.int i),.val (Item.decl q' var bd y e).toV)) rfl rfl (h4.sub (λu_ h=>h) (j2 h2)) (bD h2))
 ·intro o;refine(let T:FR:=_;(?_:pL _ T _))
  refine oG (ha z.1 (hI.1.sub (λu_ h=>h) (aL _)) (σ++[z.1]) σ.length (hz z.1) (hx _) λv hv=>?_)<;>intro o;exact oJ (wZ (t:=[z.1]) (na v hv) (U v hv))
theorem UD{items:vM}(hs:Sc c n (pF items.l L))(hn:n<=800)(ha:∀o,Sc o (n+2) L->VC wf (m+8) o a P)(na:∀v,P v->v.oQ=true):VC wf (m+10) c (.tup [msg "let", .int q,items.toV,a]) P:=λσ p {Q X} hp x z=>by
 refine oS pn ?_;intro φ y;refine oG (KO (q:=q) hs hn ha na hp x.hx λv hv=>?_)<;>intro p1;exact oJ (oT (na v hv) (z v hv))
end
structure CX where
 wf:Nat
 m:Nat
 nd:V
 a:Nat
 b:Nat
 σ:af Cell
 Q:V->af Cell->Prop
 X:XT
 sc:Cell
 kn:Str->aN
structure J where
 here:pq
 own:pq
 op:pq
 names:pq
 source:pq
 item:pq
noncomputable def CX.p(C:CX):Tr:=HG (defAt 48) (o6 oP C.wf C.m) C.wf [C.nd,.ptr C.a,.ptr C.b] C.σ
noncomputable def CX.φ(C:CX):FR:=⟨C.σ.length,C.Q,λu_ u_ u_=>eu,HX C.σ.length C.X⟩
noncomputable def CX.st(C:CX)(L:af V)(j:J):St:=⟨[(S "node", .val C.nd),(S "scope", .val (.ptr C.a)),(S "barred", .val (.ptr C.b)),(S "stack", .own L),(S "here", j.here),(S "own", j.own),(S "op", j.op),(S "names", j.names),(S "source", j.source),(S "item", j.item)],C.σ⟩
noncomputable def CX.LP(C:CX)(n:Nat)(L:af V)(j:J):Prop:=FA (o6 oP C.wf C.m) C.φ C.p n (C.st L j)
noncomputable def wv(v:V)(own:af Nm):V:=.tup [v,rf own]
theorem UE{x:Str}(L:af V)(v:V)(s:St):sA x (L++[v]) (S "pop") [] s=.ok v ⟨oZ s.ρ x (.own L),s.σ⟩:=by
 have e:∀M:af V,sA x M (S "pop") [] s=vv M.getLast? λv=>R.ok v ⟨oZ s.ρ x (.own M.dropLast),s.σ⟩:=λM=>by kernel_rfl!
 refine rg (e ..) ?_;refine rg (List.getLast?_concat) ?_;refine rg (List.dropLast_concat ..) ?_;rfl
theorem HQ{x:Str}{L k:af V}(h:L.length+k.length<=1000)(s:St):sA x L (S "extend") [.lst k] s=.ok .none ⟨oZ s.ρ x (.own (L++k)),s.σ⟩:=aO (gA (yD h))
theorem ud{x:Str}{L:af V}{v:V}(h:L.length<=1000)(s:St):sA x L (S "append") [v] s=.ok .none ⟨oZ s.ρ x (.own (L++[v])),s.σ⟩:=aO (yD h)
section
variable{C:CX}{n:Nat}{L:af V}{j:J}{own:af Nm}
noncomputable def CX.pp(C:CX)(L:af V)(v:V)(j:J):Tr:=kv 0 (kt 0 (VT C.p (C.st (L++[v]) j)) true) v ⟨oZ (uA 0 (kt 0 (VT C.p (C.st (L++[v]) j)) true)).ρ (S "stack") (.own L),(uA 0 (kt 0 (VT C.p (C.st (L++[v]) j)) true)).σ⟩
noncomputable def CX.φn(C:CX)(n:Nat):FR:={C.φ with N:=λb u_ s=>match b with|true=>FA (o6 oP C.wf C.m) C.φ C.p n s|false=>pL (o6 oP C.wf C.m) C.φ (YG C.p s)}
theorem uE{v:V}(z:pL (o6 oP C.wf C.m) (C.φn n) (C.pp L v j)):C.LP (n+1) (L++[v]) j:=by
 refine NB ?_;intro p;refine(let o:FR:=_;(?_:pL _ o _))
 refine Bi 0 (b:=decide ((0:Int)<((L++[v]).length:Int))) (b5 (by rw[av,bA];lia)) ?_
 intro q;refine zk 0 (λs=>⟨oZ s.ρ (S "stack") (.own L),s.σ⟩) (UE L v) ?_;exact z
structure It where
 v:V
 own:af Nm
 ok:aN
 c:Nat
noncomputable def It.wv(e:It):V:=Internal.wv e.v e.own
noncomputable def sD:af It->aN
 |[]=>true
 |e::r=>e.ok&&sD r
noncomputable def uo:af It->Nat
 |[]=>0
 |e::r=>e.c+uo r
noncomputable def WK(C:CX)(e:It):Prop:=∀n L j,L.length+e.c<=900->(e.ok=true->∀j,C.LP n L j)->(e.ok=false->C.Q (.bool false) C.σ)->C.LP (n+e.c) (L++[e.wv]) j
noncomputable def Lo(C:CX):af It->Prop
 |[]=>fh
 |e::r=>WK C e/\1<=e.c/\Lo C r
theorem Lo.run:∀{cs:af It},Lo C cs->∀n L j,L.length+uo cs<=900->(sD cs=true->∀j,C.LP n L j)->(sD cs=false->C.Q (.bool false) C.σ)->C.LP (n+uo cs) (L++cs.map It.wv) j
 |[],_,n,L,j,_,h,_=>by rw[List.map_nil,aY];exact h rfl j
 |e::r,w,n,L,j,hL,h,h'=>by
  unfold uo at hL ⊢;rw[a6,fZ,<-d6];refine Lo.run w.2.2 (n+e.c) (L++[e.wv]) j (by rw[av,bA];have:=w.2.1;exact uJ (.a .x (.a .y .z)) (.n 900) (.n 1) .y (.a (.a .x (.n 1)) .z) (.n 900) rfl hL this) (λhr j=>w.1 n L j (by exact ye (.a .x (.a .y .z)) (.n 900) (.a .x .y) (.n 900) rfl hL) (λo=>h (by unfold sD;rw[o,hr];rfl)) λo=>h' (by unfold sD;rw[o];rfl)) λhr=>h' (by unfold sD;rw[hr,fB])
theorem Lo.len:∀{cs:af It},Lo C cs->cs.length<=uo cs
 |[],_=>aL 0
 |e::r,w=>by have:=Lo.len w.2.2;have:=w.2.1;rw[bc];unfold uo;lia
noncomputable def UG(kn:Str->aN)(own:af Nm)(x:Str):aN:=!pz (vo own) x||kn x
noncomputable def uF(kn:Str->aN)(own:af Nm)(l:af Str):aN:=l.all (UG kn own)
theorem v9{kn:Str->aN}{l l':af Str}:uF kn own (l++l')=(uF kn own l&&uF kn own l'):=mn
noncomputable def WB(C:CX)(v:V)(own:af Nm)(l:af Str)(b:Nat):Prop:=∃c,1<=c/\c<=b/\WK C ⟨v,own,uF C.kn own l,c⟩
theorem WB.le{v:V}{l:af Str}{b o:Nat}(h:WB C v own l b)(hb:b<=o):WB C v own l o:=h.elim λc h=>(qZ c h.1 (aB h.2.1 hb) h.2.2)
structure Ch where
 v:V
 l:af Str
 b:Nat
noncomputable def FO:af Ch->af Str
 |[]=>[]
 |e::r=>(match r with
  |[]=>e.l
  |_::_=>e.l++FO r)
noncomputable def QS:af Ch->Nat
 |[]=>0
 |e::r=>e.b+QS r
noncomputable def XC(C:CX)(own:af Nm):af Ch->Prop
 |[]=>fh
 |e::r=>WB C e.v own e.l e.b/\XC C own r
theorem QT{kn:Str->aN}(e:Ch)(r:af Ch):uF kn own (FO (e::r))=(uF kn own e.l&&uF kn own (FO r)):=by
 induction r using bN with
 |nil=>exact(eU _).symm
 |cons _ _=>exact v9
theorem XC.VV:∀{cs:af Ch},XC C own cs->∃is:af It,Lo C is/\is.map It.wv=cs.map (λe=>wv e.v own)/\sD is=uF C.kn own (FO cs)/\uo is<=QS cs
 |[],_=>⟨[],trivial,rfl,rfl,aL 0⟩
 |e::r,w=>by
  obtain⟨c,h1,h2,h3⟩:=w.1;obtain⟨is,i1,i2,i3,i4⟩:=XC.VV w.2;refine⟨⟨e.v,own,_,c⟩::is,⟨h3,h1,i1⟩,?_,?_,?_⟩
  ·rw[a6,a6,i2];rfl
  ·rw[QT,<-i3];rfl
  ·unfold uo QS;exact cp h2 i4
theorem yG {p:Tr} (is:af It) (i:Nat) (j:J) (w:Lo C is) (hL:L.length+(uo is+1)<=900) (h:sD is=true->∀j,C.LP n L j) (h':sD is=false->C.Q (.bool false) C.σ)
  (e1:to 1 i p=.lv (sA (S "stack") L (S "extend") [.lst (is.map It.wv)]) (uA i p) (kv i p):=by kernel_rfl!) (e2:to 4 0 (kv i p .none ⟨oZ (uA i p).ρ (S "stack") (.own (L++is.map It.wv)),(uA i p).σ⟩)=.nx true [] (C.st (L++is.map It.wv) j):=by kernel_rfl!):pL (o6 oP C.wf C.m) (C.φn (n+uo is)) p:=by
 refine zk i (λs=>⟨oZ s.ρ (S "stack") (.own (L++is.map It.wv)),s.σ⟩) (HQ (by have:=w.len;rw[aK];exact uJ .x .y (.a .z (.a .y (.n 1))) (.n 900) (.a .z .x) (.n 1000) rfl this hL)) ?_ e1
 exact p9 (b:=true) (w.run n L j (by exact pZ (.a .x (.a .y (.n 1))) (.n 900) (.a .x .y) (.n 900) rfl hL) h h') e2
theorem rr {v:V} (cs:af Ch) (i:Nat) (g:J->J) (w:XC C own cs)
  (e1:∀L j,to 1 i (C.pp L (wv v own) j)=.lv (sA (S "stack") L (S "extend") [.lst (cs.map λe=>wv e.v own)]) (uA i (C.pp L (wv v own) j)) (kv i (C.pp L (wv v own) j)))
  (e2:∀L j,to 4 0 (kv i (C.pp L (wv v own) j) .none ⟨oZ (uA i (C.pp L (wv v own) j)).ρ (S "stack") (.own (L++cs.map λe=>wv e.v own)),(uA i (C.pp L (wv v own) j)).σ⟩)=.nx true [] (C.st (L++cs.map λe=>wv e.v own) (g j))):WB C v own (FO cs) (QS cs+1):=by
 refine JB (w.VV) λis i1 i2 o y=>?_;refine qZ (uo is+1) (cq 1 _) (ax y) (λn L j hL h h'=>?_);have e1:=e1 L j;have e2:=e2 L j;rw[<-i2]at e1 e2;exact uE (yG is i (g j) i1 hL (λhk=>h (o.symm.trans hk)) (λhk=>h' (o.symm.trans hk)) e1 e2)
theorem zx{v:V}(g:J->J)(e:∀L j,to 4 0 (C.pp L (wv v own) j)=.nx true [] (C.st L (g j))):WK C ⟨v,own,true,1⟩:=λn L j hL h h'=>uE (p9 (b:=true) (h rfl (g j)) (e L j))
theorem AY{x:Str}:WK C ⟨.str x,own,true,1⟩:=zx (λj=>{j with here:=.val (.str x),own:=.val (rf own)}) λL j=>by kernel_rfl!
theorem HR{x:Int}:WK C ⟨.int x,own,true,1⟩:=zx (λj=>{j with here:=.val (.int x),own:=.val (rf own)}) λL j=>by kernel_rfl!
theorem QU{x:aN}:WK C ⟨.bool x,own,true,1⟩:=zx (λj=>{j with here:=.val (.bool x),own:=.val (rf own)}) λL j=>by kernel_rfl!
theorem QV:WK C ⟨.none,own,true,1⟩:=zx (λj=>{j with here:=.val .none,own:=.val (rf own)}) λL j=>by kernel_rfl!
theorem WK.b{v:V}(h:WK C ⟨v,own,true,1⟩):WB C v own [] 1:=(qZ 1 (aL 1) (aL 1) h)
theorem tB{x:Str}:WB C (.str x) own [] 1:=AY.b
theorem uq{x:Int}:WB C (.int x) own [] 1:=HR.b
theorem QW{x:aN}:WB C (.bool x) own [] 1:=QU.b
theorem Ja:WB C .none own [] 1:=QV.b
noncomputable def gO(v:V)(own:af Nm)(op:Str)(j:J):J:={j with here:=.val v,own:=.val (rf own),op:=.val (.str op)}
variable{q:Int}{a b:V}{la lb:af Str}{ba bb:Nat}
theorem zy(ha:WB C a own la ba)(hb:WB C b own lb bb):WB C (.tup [a,b]) own (la++lb) ((ba+(bb+0))+1) :=
 rr [⟨a,la,ba⟩,⟨b,lb,bb⟩] 15 (gO (.tup [a,b]) own (S "")) (qB ha hb trivial) (λL j=>by kernel_rfl!) (λL j=>by kernel_rfl!)
theorem HS(ha:WB C a own la ba):WB C (.tup [a]) own la ((ba+0)+1) :=
 rr [⟨a,la,ba⟩] 13 (gO (.tup [a]) own (S "")) ⟨ha,trivial⟩ (λL j=>by kernel_rfl!) (λL j=>by kernel_rfl!)
theorem UH  : WB C (.tup []) own [] (0+1) :=
 rr [] 11 (gO (.tup []) own (S "")) trivial (λL j=>by kernel_rfl!) (λL j=>by kernel_rfl!)
theorem NV{o:Str}(ha:WB C a own la ba)(hb:WB C b own lb bb):WB C (.tup [msg "bin", .int q,.str o,a,b]) own (la++lb) ((1+(1+(1+(ba+(bb+0)))))+1) :=
 rr [⟨msg "bin", [],1⟩,⟨.int q,[],1⟩,⟨.str o,[],1⟩,⟨a,la,ba⟩,⟨b,lb,bb⟩] 24 (gO (.tup [msg "bin", .int q,.str o,a,b]) own (S "bin")) (V5 tB uq tB ha hb trivial) (λL j=>by kernel_rfl!) (λL j=>by kernel_rfl!)
theorem DG{i:Int}:WB C (.tup [msg "int", .int q,.int i]) own [] ((1+(1+(1+0)))+1) :=
 rr [⟨msg "int", [],1⟩,⟨.int q,[],1⟩,⟨.int i,[],1⟩] 20 (gO (.tup [msg "int", .int q,.int i]) own (S "int")) (JC tB uq uq trivial) (λL j=>by kernel_rfl!) (λL j=>by kernel_rfl!)
theorem FP(ha:WB C a own la ba)(hb:WB C b own lb bb):WB C (.tup [msg "range", .int q,a,b]) own (la++lb) ((1+(1+(ba+(bb+0))))+1) :=
 rr [⟨msg "range", [],1⟩,⟨.int q,[],1⟩,⟨a,la,ba⟩,⟨b,lb,bb⟩] 22 (gO (.tup [msg "range", .int q,a,b]) own (S "range")) (Pk tB uq ha hb trivial) (λL j=>by kernel_rfl!) (λL j=>by kernel_rfl!)
theorem UI(ha:WB C a own la ba):WB C (.tup [msg "set", .int q,a]) own la ((1+(1+(ba+0)))+1) :=
 rr [⟨msg "set", [],1⟩,⟨.int q,[],1⟩,⟨a,la,ba⟩] 20 (gO (.tup [msg "set", .int q,a]) own (S "set")) (JC tB uq ha trivial) (λL j=>by kernel_rfl!) (λL j=>by kernel_rfl!)
theorem FQ(ha:WB C a own la ba):WB C (.tup [msg "array", .int q,a]) own la ((1+(1+(ba+0)))+1) :=
 rr [⟨msg "array", [],1⟩,⟨.int q,[],1⟩,⟨a,la,ba⟩] 20 (gO (.tup [msg "array", .int q,a]) own (S "array")) (JC tB uq ha trivial) (λL j=>by kernel_rfl!) (λL j=>by kernel_rfl!)
theorem NW(ha:WB C a own la ba)(hb:WB C b own lb bb):WB C (.tup [msg "index", .int q,a,b]) own (la++lb) ((1+(1+(ba+(bb+0))))+1) :=
 rr [⟨msg "index", [],1⟩,⟨.int q,[],1⟩,⟨a,la,ba⟩,⟨b,lb,bb⟩] 22 (gO (.tup [msg "index", .int q,a,b]) own (S "index")) (Pk tB uq ha hb trivial) (λL j=>by kernel_rfl!) (λL j=>by kernel_rfl!)
theorem XD(ha:WB C a own la ba)(hb:WB C b own lb bb):WB C (.tup [msg "if", .int q,a,b]) own (la++lb) ((1+(1+(ba+(bb+0))))+1) :=
 rr [⟨msg "if", [],1⟩,⟨.int q,[],1⟩,⟨a,la,ba⟩,⟨b,lb,bb⟩] 22 (gO (.tup [msg "if", .int q,a,b]) own (S "if")) (Pk tB uq ha hb trivial) (λL j=>by kernel_rfl!) (λL j=>by kernel_rfl!)
theorem UJ(ha:WB C a own la ba):WB C (.tup [msg "constraint", .int q,a]) own la ((1+(1+(ba+0)))+1) :=
 rr [⟨msg "constraint", [],1⟩,⟨.int q,[],1⟩,⟨a,la,ba⟩] 20 (gO (.tup [msg "constraint", .int q,a]) own (S "constraint")) (JC tB uq ha trivial) (λL j=>by kernel_rfl!) (λL j=>by kernel_rfl!)
theorem XE{var:aN}(ha:WB C a own la ba):WB C (.tup [msg "int", .bool var,.tup [],a]) own la ((1+(1+(0+1+(ba+0))))+1) :=
 rr [⟨msg "int", [],1⟩,⟨.bool var,[],1⟩,⟨.tup [],[],0+1⟩,⟨a,la,ba⟩] 22 (gO (.tup [msg "int", .bool var,.tup [],a]) own (S "int")) (Pk tB QW UH ha trivial) (λL j=>by kernel_rfl!) (λL j=>by kernel_rfl!)
theorem QX{x:Str}(ha:WB C a own la ba)(hb:WB C b own lb bb):WB C (.tup [msg "decl", .int q,.tup [msg "int", .bool false,.tup [],a],.str x,b]) own (la++lb) ((1+(1+((1+(1+(0+1+(ba+0))))+1+(1+(bb+0)))))+1) :=
 rr [⟨msg "decl", [],1⟩,⟨.int q,[],1⟩,⟨.tup [msg "int", .bool false,.tup [],a],la,(1+(1+(0+1+(ba+0))))+1⟩,⟨.str x,[],1⟩,⟨b,lb,bb⟩] 26 (gO (.tup [msg "decl", .int q,.tup [msg "int", .bool false,.tup [],a],.str x,b]) own (S "decl")) (V5 tB uq (XE ha) tB hb trivial) (λL j=>by kernel_rfl!) (λL j=>by kernel_rfl!)
noncomputable def NX:Cell:=[(S "p", .none),(S "table", .none)]
noncomputable def tS(wf M:Nat)(v:V)(b:aN):Prop:=∀(σ:af Cell){Q:V->af Cell->Prop} {X:XT},Q (.bool b) σ->CW (o6 oP wf M (S "is_known") [v] σ) Q X
structure w0(C:CX):Prop where
 hs:C.σ[C.a]?=some C.sc
 hb:C.σ[C.b]?=some NX
 hk:∀x:Nm,(C.sc.lookup x.s=none/\C.kn x.s=true)\/∃v,C.sc.lookup x.s=some v/\tS C.wf C.m v (C.kn x.s)
 kb:C.kn sr=false
theorem va{σ:af Cell}{c:Cell}{i:Nat}{x:Str}{b:aN}(h:σ[i]?=some c)(hb:(c.lookup x).isSome=b)(ρ:af (Str×pq)):td .In (.str x) (.ptr i) ⟨ρ,σ⟩=.ok (.bool b) ⟨ρ,σ⟩:=by
 subst hb;have e:td .In (.str x) (.ptr i) ⟨ρ,σ⟩=R.opt ((match σ[i]? with|some c=>some (c.lookup x).isSome|_=>none).map V.bool) ⟨ρ,σ⟩:=by kernel_rfl!
 refine rg (e ..) ?_;refine rg (h ..) ?_;rfl
theorem QY{σ:af Cell}{c:Cell}{i:Nat}{x:Str}{v:V}(h:σ[i]?=some c)(hb:c.lookup x=some v)(ρ:af (Str×pq)):pW (.ptr i) (.str x) ⟨ρ,σ⟩=.ok v ⟨ρ,σ⟩:=by
 have e:pW (.ptr i) (.str x) ⟨ρ,σ⟩=(match σ[i]? with|some c=>R.opt (c.lookup x) ⟨ρ,σ⟩|none=>.stuck):=by kernel_rfl!
 refine rg (e ..) ?_;refine rg (h ..) ?_;dsimp only;refine rg (hb) ?_;rfl
theorem tI{σ:af Cell}{Q:V->af Cell->Prop}{b:aN}(h:Q (.bool b) σ):HB σ.length Q (.bool b) σ:=by
 show Q _ (σ.take σ.length);simp only[fX];exact h
theorem WB.cast{v:V}{l l':af Str}{b:Nat}(h:WB C v own l b)(e:uF C.kn own l=uF C.kn own l'):WB C v own l' b:=by unfold WB at *;exact(e)▸(h)
theorem WB.wk{v:V}{l:af Str}{b:aN}{c:Nat}(h:WK C ⟨v,own,b,c+1⟩)(e:uF C.kn own l=b):WB C v own l (c+1):=(qZ (c+1) (cq 1 c) (aL _) ((e)▸h))
theorem DH{kn:Str->aN}{x:Str}{b:aN}(h:UG kn own x=b):uF kn own [x]=b:=by subst h;exact eU _
theorem QZ(H:w0 C){x:Nm}:WB C (wu q x) own [x.s] 4:=by
 have w:Lo C [⟨msg "name", own,true,1⟩,⟨.int q,own,true,1⟩,⟨.str x.s,own,true,1⟩]:=⟨AY,aL 1,HR,aL 1,AY,aL 1,trivial⟩;cases e:pz (vo own) x.s with
 |false =>
  refine(let C:Prop:=_;(?_:C))
  refine(let C:Prop:=_;(?_:C))
  refine WB.wk (c:=3) (b:=true) (λn L j hL h h'=>uE (oW 11 (uB (u:=x.s) (ns:=vo own)) ?_)) (DH (by unfold UG;rw[e];rfl))
  intro p;refine Bi 0 (b:=pz (vo own) x.s==true) (c:=false) (rg (e ..) rfl) ?_<;>intro p;refine Bi 0 e ?_<;>intro p;exact yG _ 10 (gO (wu q x) own (S "name") j) w hL h h'
 |true =>
  have hx:∀{b:aN},C.kn x.s=b->uF C.kn own [x.s]=b:=λhb=>DH (by unfold UG;rw[e,hb];rfl)
  refine(H.hk x).elim (λhk=>?_) (λ⟨v,hv,hk⟩=>?_)
  ·refine WB.wk (c:=3) (b:=true) (λn L j hL h h'=>uE (oW 11 (uB (u:=x.s) (ns:=vo own)) ?_)) (hx hk.2);intro p;refine Bi 0 (b:=pz (vo own) x.s==true) (c:=true) (rg (e ..) rfl) ?_<;>intro p;refine yB 1 (va (b:=false) H.hs (aD _ (hk.1))) ?_<;>intro p;exact yG _ 10 (gO (wu q x) own (S "name") j) w hL h h'
  ·refine WB.wk (c:=3) (b:=C.kn x.s) (λn L j hL h h'=>uE (oW 11 (uB (u:=x.s) (ns:=vo own)) ?_)) (hx rfl);intro p;refine Bi 0 (b:=pz (vo own) x.s==true) (c:=true) (rg (e ..) rfl) ?_<;>intro p;refine yB 1 (va (b:=true) H.hs (aD _ (hv))) ?_<;>intro p;refine yB 1 (QY H.hs hv) ?_<;>intro p;refine oG (hk C.σ ?_)<;>intro p;cases ek:C.kn x.s with
   |true =>
    refine Bi 0 (b:=(!C.kn x.s)==true) (c:=false) (rg (ek ..) rfl) ?_<;>intro p;refine Bi 0 (b:=!C.kn x.s) (c:=false) (aD _ (ek)) ?_<;>intro p;exact yG _ 10 (gO (wu q x) own (S "name") j) w hL (λu_=>h ek) (λe=>(nT e).elim)
   |false =>
    refine Bi 0 (b:=(!C.kn x.s)==true) (c:=true) (rg (ek ..) rfl) ?_<;>intro p;exact oJ (tI (h' ek))
theorem XF{w:Str}{b:aN}(h:(w==S "p")=b)(h2:(w==S "table")=false):(NX.lookup w).isSome=b:=by
 unfold NX;simp only[aU]
 induction b using aJ
 ·refine rg (h ..) ?_;simp only[aU,h2];rfl
 ·refine rg (h ..) ?_;rfl
theorem Q0(H:w0 C){o:aN}{q':Int}{x:Nm}:WB C (qe.size q o q' x).toV own [] 1:=by
 induction o using aJ
 all_goals
  refine WB.wk (c:=0) (b:=true) (λn L j hL h h'=>uE ?_) rfl
 ·refine yB 9 (va (x:=S "length") (b:=false) H.hb rfl) ?_<;>intro p;exact p9 (b:=true) (acc:=[]) (h rfl (gO (qe.size q false q' x).toV own (S "call") j))
 ·refine yB 9 (va (x:=S "index_set") (b:=false) H.hb rfl) ?_<;>intro p;exact p9 (b:=true) (acc:=[]) (h rfl (gO (qe.size q true q' x).toV own (S "call") j))
theorem AZ:∀own:af Nm,pz (vo own) sr=true
 |[]=>rfl
 |x::r=>by
  have h:(a9 (.str x.s) (.str sr))=false:=by cases x<;>kernel_rfl!
  have:=AZ r;unfold pz vo at *;rw[a6,List.any_cons,h,eT];exact this
theorem A0(H:w0 C){l:af Str}:uF C.kn own (l++rM true)=false:=by
 simp only[v9,show uF C.kn own (rM true)=false from DH (by unfold UG;rw[AZ,H.kb];rfl),fB]
theorem w7{l:af Str}:uF C.kn own (l++rM false)=uF C.kn own l:=rg (show l++rM false=l from aY l) rfl
theorem NY{p:Tr}(h:C.Q (.bool false) C.σ)(e:to 4 0 p=.ret (.bool false) C.σ:=by kernel_rfl!):pL (o6 oP C.wf C.m) (C.φn n) p:=oJ (tI h) e
theorem Q1(H:w0 C){f:CF}{q':Int}{x:V}(ha:WB C (.tup [.tup [msg "array", .int q',x]]) own la ba):WB C (.tup [msg "call", .int q,.str f.word,.tup [.tup [msg "array", .int q',x]]]) own (la++rM f.Xx) (ba+4):=by
 refine tq (ha) λc h1 h2 o=>?_;have w:∀s:Str,Lo C [⟨msg "call", own,true,1⟩,⟨.int q,own,true,1⟩,⟨.str s,own,true,1⟩,⟨.tup [.tup [msg "array", .int q',x]],own,uF C.kn own la,c⟩]:=λs=>⟨AY,aL 1,HR,aL 1,AY,aL 1,o,h1,trivial⟩;have hc:∀{v:V},WK C ⟨v,own,uF C.kn own la,(1+(1+(1+(c+0))))+1⟩->WB C v own (la++rM false) (ba+4):=λh=>WB.cast (WB.le (WB.wk h rfl) (by exact pZ .x .y (.a (.a (.n 1) (.a (.n 1) (.a (.n 1) (.a .x (.n 0))))) (.n 1)) (.a .y (.n 4)) rfl h2)) w7.symm
 have hb:∀b:aN,(true&&(true&&(true&&(b&&true))))=b:=λb=>by induction b using aJ<;>rfl
 cases f with
 |sum =>
  refine hc λn L j hL h h'=>uE ?_;refine yB 9 (va (x:=S "sum") (b:=false) H.hb rfl) ?_<;>intro p;exact yG _ 16 (gO (.tup [msg "call", .int q,.str (S "sum"),.tup [.tup [msg "array", .int q',x]]]) own (S "call") j) (w (S "sum")) hL (λe=>h ((hb _).symm.trans e)) (λe=>h' ((hb _).symm.trans e))
 |length =>
  refine hc λn L j hL h h'=>uE ?_;refine yB 9 (va (x:=S "length") (b:=false) H.hb rfl) ?_<;>intro p;exact yG _ 20 (gO (.tup [msg "call", .int q,.str (S "length"),.tup [.tup [msg "array", .int q',x]]]) own (S "call") j) (w (S "length")) hL (λe=>h ((hb _).symm.trans e)) (λe=>h' ((hb _).symm.trans e))
 |p =>
  refine WB.le (WB.wk (c:=0) (b:=false) (λn L j hL h h'=>uE ?_) (A0 H)) (by exact sO  (.n 1) (.a .x (.n 4)) rfl )
  refine yB 9 (va (x:=S "p") (b:=true) H.hb rfl) ?_<;>intro p;exact NY (h' rfl)
structure Co where
 v:V
 own:af Nm
 l:af Str
 b:Nat
noncomputable def Co.wv(e:Co):V:=Internal.wv e.v e.own
noncomputable def BJ(kn:Str->aN):af Co->aN
 |[]=>true
 |e::r=>uF kn e.own e.l&&BJ kn r
noncomputable def DI:af Co->Nat
 |[]=>0
 |e::r=>e.b+DI r
noncomputable def KP(C:CX):af Co->Prop
 |[]=>fh
 |e::r=>WB C e.v e.own e.l e.b/\KP C r
theorem KP.VV:∀{cs:af Co},KP C cs->∃is:af It,Lo C is/\is.map It.wv=cs.map Co.wv/\sD is=BJ C.kn cs/\uo is<=DI cs
 |[],_=>⟨[],trivial,rfl,rfl,aL 0⟩
 |e::r,w=>by
  obtain⟨c,h1,h2,h3⟩:=w.1;obtain⟨is,i1,i2,i3,i4⟩:=KP.VV w.2;refine⟨⟨e.v,e.own,_,c⟩::is,⟨h3,h1,i1⟩,?_,?_,?_⟩
  ·rw[a6,a6,i2];rfl
  ·show(_&&sD is)=(_&&BJ _ _);rw[i3]
  ·exact cp h2 i4
theorem KP.app:∀{cs ds:af Co},KP C cs->KP C ds->KP C (cs++ds)
 |[],_,_,h=>h
 |_::_,_,w,h=>⟨w.1,KP.app w.2 h⟩
theorem A1:∀{cs ds:af Co},DI (cs++ds)=DI cs+DI ds
 |[],_=>(cL _).symm
 |e::r,ds=>(aD (e.b + ·) (A1 (cs:=r) (ds:=ds))).trans (d6 _ _ _).symm
theorem A2{kn:Str->aN}:∀{cs ds:af Co},BJ kn (cs++ds)=(BJ kn cs&&BJ kn ds)
 |[],_=>(hO _).symm
 |e::r,ds=>(aD (uF kn e.own e.l&&·) (A2 (cs:=r) (ds:=ds))).trans (jy _ _ _).symm
theorem Q2(x:Str)(o k:af Nm):pz (vo (o++k)) x=(pz (vo o) x&&pz (vo k) x):=by
 delta pz vo;simp only[bw,List.any_append,oh]
theorem A3{kn:Str->aN}{o k:af Nm}:∀{l:af Str},uF kn o (less l (vo k))=uF kn (o++k) l
 |[]=>rfl
 |x::r=>by
  have ih:=A3 (kn:=kn) (o:=o) (k:=k) (l:=r);unfold uF less at *;rw[fY,eQ,<-ih];have h:=Q2 x o k;cases e:pz (vo k) x
  ·rw[aT (by decide)];unfold UG;rw[h,e,fB];rfl
  ·rw[aO rfl,eQ];unfold UG;rw[h,e,eU]
noncomputable def Item.nm:Item->af Nm
 |.con _ _=>[]
 |.decl _ _ _ x _=>[x]
noncomputable def Item.oa:Item->af Str
 |.con _ t=>t.asks
 |.decl _ var bd _ e=>(bd.asks++e.asks)++rM var
noncomputable def zm:af Item->af Nm->af Co
 |[],_=>[]
 |i::r,o=>⟨i.toV,o,i.oa,40⟩::zm r (o++i.nm)
noncomputable def vN:af Item->af Nm->af Nm
 |[],o=>o
 |i::r,o=>vN r (o++i.nm)
theorem Cq{i:Item}{r:af Item}{o:af Nm}:zm (i::r) o=⟨i.toV,o,i.oa,40⟩::zm r (o++i.nm):=rfl
theorem SJ{kn:Str->aN}{l:af Str}:∀(y:af Item)(o:af Nm),uF kn o (pF y l)=(BJ kn (zm y o)&&uF kn (vN y o) l)
 |[],o=>(hO _).symm
 |i::r,o=>by
  have ih:=SJ (kn:=kn) (l:=l) r (o++i.nm);refine nD ?_ (jy _ _ _).symm;rw[show(BJ kn (zm r (o++i.nm))&&uF kn (vN (i::r) o) l)=uF kn (o++i.nm) (pF r l)from ih.symm];dsimp only;cases i with
  |con q t =>
   show uF kn o (pF r l++t.asks)=_;rw[v9,hU,show o++(Item.con q t).nm=o from aY o];rfl
  |decl _ var bd x e =>
   show uF kn o (less (pF r l) [x.s]++bd.asks++e.asks++rM var)=_;rw[a8,a8,v9,hU,<-a8];exact aD (_&&·) (A3 (k:=[x]))
theorem Jb(h:∀(i:Item)(o:af Nm),WB C i.toV o i.oa 40):∀(y:af Item)(o:af Nm),KP C (zm y o)
 |[],_=>trivial
 |i::r,o=>⟨h i o,Jb h r _⟩
theorem FT:∀(y:af Item)(o:af Nm),DI (zm y o)=40*y.length
 |[],_=>rfl
 |i::r,o=>by show 40+DI (zm r _)=_;rw[FT,bc];show 40+_=_;exact aZ (sO  (.a (.n 40) (.m 40 .x)) (.m 40 (.a .x (.n 1))) rfl ) (sO  (.m 40 (.a .x (.n 1))) (.a (.n 40) (.m 40 .x)) rfl )
theorem DJ{o k:af Nm}(h:o.length+k.length<=1000)(s:St):sy .Add (rf o) (rf k) s=.ok (rf (o++k)) s:=by
 refine(?_:(if(sv (vo o)++sv (vo k)).length<=qf then R.ok (V.tup (sv (vo o)++sv (vo k))) s else .stuck)=_)
 delta rf vo;refine rg (aO (by rw[av];simp only[sv,aK];exact gA (yD h))) ?_;refine rg (bw ..) ?_
 exact aD (λl=>R.ok (V.tup l) s) List.map_append.symm
theorem UK(hi:∀(i:Item)(o:af Nm),WB C i.toV o i.oa 40){items:vM}(ho:own.length<=100)(ha:WB C a (vN items.l own) la ba):WB C (.tup [msg "let", .int q,items.toV,a]) own (pF items.l la) (ba+81):=by
 have w:KP C (zm items.l own++[⟨a,vN items.l own,la,ba⟩]):=(Jb hi items.l own).app ⟨ha,trivial⟩;refine JB (w.VV) λis i1 i2 U T=>?_;have h4:uo is<=ba+80:=by have:=items.h;simp only[A1,FT]at T;exact Pa .x (.a (.m 40 .y) .z) (.m 40 .y) (.m 40 (.n 2)) (.n 0) (.n 0) .x (.a .z (.n 80)) rfl T (bt 40 this) (aL 0)
 have yV:sD is=uF C.kn own (pF items.l la):=by rw[U,SJ,A2];exact aD (_&&·) (eU _)
 refine WB.le (WB.wk (c:=uo is) (b:=sD is) (λn L j hL h h'=>uE ?_) yV.symm) (ax h4)
 let p:=C.pp L (It.wv ⟨.tup [msg "let", .int q,items.toV,a],own,sD is,uo is+1⟩) j
 refine(?_:pL _ _ p);have pd:=i1.len;have hL:L.length+(uo is+1)<=900:=hL;have hm:=aD fM i2;rw[aK,aK,av]at hm
 refine uY 0 Item.toV (λu_=>[]) (λ(z:af Co×af Nm×pq)=>C.st (L++z.1.map Co.wv) {j with here:=.val (.tup [msg "let", .int q,items.toV,a]),own:=.val (rf z.2.1),op:=.val (.str (S "let")),item:=z.2.2})
  (λr z=>z.1++zm r z.2.1=zm items.l own/\vN r z.2.1=vN items.l own/\z.2.1.length+r.length<=102) items.l ([],own,j.item) ⟨rfl,rfl,cp ho items.h⟩ (λi r z hI=>?_) (λz hI=>?_) (by rw[show L++([]:af Co).map Co.wv=L from aY L];kernel_rfl!)
 ·have h1:z.1.length+1<=is.length:=by have:=aD fM hI.1;rw[av,Cq,bc]at this;exact rg (hm ..) (rl (this ..) (xb  (.a .x (.n 1)) (.a (.a .x (.a .y (.n 1))) (.a (.n 0) (.n 1))) rfl))
  have hr:=hI.2.2;simp only[bc]at hr;have hs:∀c:Co,(L++z.1.map Co.wv)++[c.wv]=L++(z.1++[c]).map Co.wv:=λc=>rg (bw ..) (rg (a8 ..) rfl);have A:=hI.1;rw[Cq,fZ]at A;cases i with
  |con q' t =>
   intro p;refine(let D:FR:=_;(?_:pL _ D _))
   refine zk 1 (λs=>⟨oZ s.ρ (S "stack") (.own ((L++z.1.map Co.wv)++[wv (Item.con q' t).toV z.2.1])),s.σ⟩) (ud (by rw[av,aK];exact CJ .x .y (.a .z (.n 1)) .x (.a .w (.a .y (.n 1))) (.n 900) (.a .w .z) (.n 1000) rfl pd h1 hL)) ?_<;>intro p
   refine oW 3 (DJ (o:=z.2.1) (k:=[]) (by show _+0<=_;exact pZ (.a .x (.a .y (.n 1))) (.n 102) (.a .x (.n 0)) (.n 1000) rfl hr)) ?_<;>intro p
   exact p9 (b:=true) (acc:=[]) (s:=C.st ((L++z.1.map Co.wv)++[wv (Item.con q' t).toV z.2.1]) {j with here:=.val (.tup [msg "let", .int q,items.toV,a]),own:=.val (rf (z.2.1++[])),op:=.val (.str (S "let")),item:=.val (Item.con q' t).toV})
    (zC ((z.1++[Co.mk (Item.con q' t).toV z.2.1 (Item.con q' t).oa 40],z.2.1++[],.val (Item.con q' t).toV)) rfl (aD (λM=>C.st M _) (hs (Co.mk (Item.con q' t).toV z.2.1 (Item.con q' t).oa 40))) A hI.2.1 (by rw[aY];exact pZ (.a .x (.a .y (.n 1))) (.n 102) (.a .x .y) (.n 102) rfl hr))
  |decl q' var bd x e =>
   intro p;refine(let H:FR:=_;(?_:pL _ H _))
   refine zk 1 (λs=>⟨oZ s.ρ (S "stack") (.own ((L++z.1.map Co.wv)++[wv (Item.decl q' var bd x e).toV z.2.1])),s.σ⟩) (ud (by rw[av,aK];exact CJ .x .y (.a .z (.n 1)) .x (.a .w (.a .y (.n 1))) (.n 900) (.a .w .z) (.n 1000) rfl pd h1 hL)) ?_<;>intro p
   refine oW 4 (DJ (o:=z.2.1) (k:=[x]) (by show _+1<=_;exact pZ (.a .x (.a .y (.n 1))) (.n 102) (.a .x (.n 1)) (.n 1000) rfl hr)) ?_<;>intro p
   exact p9 (b:=true) (acc:=[]) (s:=C.st ((L++z.1.map Co.wv)++[wv (Item.decl q' var bd x e).toV z.2.1]) {j with here:=.val (.tup [msg "let", .int q,items.toV,a]),own:=.val (rf (z.2.1++[x])),op:=.val (.str (S "let")),item:=.val (Item.decl q' var bd x e).toV})
    (zC ((z.1++[Co.mk (Item.decl q' var bd x e).toV z.2.1 (Item.decl q' var bd x e).oa 40],z.2.1++[x],.val (Item.decl q' var bd x e).toV)) rfl (aD (λM=>C.st M _) (hs (Co.mk (Item.decl q' var bd x e).toV z.2.1 (Item.decl q' var bd x e).oa 40))) A hI.2.1 (by rw[av,bA];exact pZ (.a .x (.a .y (.n 1))) (.n 102) (.a (.a .x (.n 1)) .y) (.n 102) rfl hr))
 ·intro p;refine(let O:FR:=_;(?_:pL _ O _))
  have h1:z.1=zm items.l own:=(aY z.1).symm.trans hI.1;have h2:z.2.1=vN items.l own:=hI.2.1;have hs:(L++z.1.map Co.wv)++[wv a z.2.1]=L++is.map It.wv:=rg (i2 ..) (rg (bw ..) (rg (h1 ..) (rg (h2 ..) (rg (a8 ..) rfl))));refine zk 2 (λs=>⟨oZ s.ρ (S "stack") (.own ((L++z.1.map Co.wv)++[wv a z.2.1])),s.σ⟩) (ud (by rw[av,aK,h1];exact CJ .x .y (.a .z (.a (.n 0) (.n 1))) .x (.a .w (.a .y (.n 1))) (.n 900) (.a .w .z) (.n 1000) rfl pd (ak hm.symm) hL)) ?_<;>intro p
  refine p9 (b:=true) (acc:=[]) (s:=C.st ((L++z.1.map Co.wv)++[wv a z.2.1]) {j with here:=.val (.tup [msg "let", .int q,items.toV,a]),own:=.val (rf z.2.1),op:=.val (.str (S "let")),item:=z.2.2}) ?_
  simp only[hs];exact i1.run n L _ (by exact pZ (.a .x (.a .y (.n 1))) (.n 900) (.a .x .y) (.n 900) rfl hL) h h'
noncomputable def HT:af Gen->af Nm->af Co
 |[],_=>[]
 |g::r,o=>⟨g.src.toV,o,g.src.asks,20⟩::HT r (o++g.names)
noncomputable def uG:af Gen->af Nm->af Nm
 |[],o=>o
 |g::r,o=>uG r (o++g.names)
theorem xT{g:Gen}{r:af Gen}{o:af Nm}:HT (g::r) o=⟨g.src.toV,o,g.src.asks,20⟩::HT r (o++g.names):=rfl
theorem XG{kn:Str->aN}{l:af Str}:∀(gs:af Gen)(o:af Nm),uF kn o (pe gs l)=(BJ kn (HT gs o)&&uF kn (uG gs o) l)
 |[],o=>(hO _).symm
 |g::r,o=>by
  have ih:=XG (kn:=kn) (l:=l) r (o++g.names);refine nD ?_ (jy _ _ _).symm;rw[show(BJ kn (HT r (o++g.names))&&uF kn (uG (g::r) o) l)=uF kn (o++g.names) (pe r l)from ih.symm];show uF kn o (less (pe r l) (vo g.names)++g.src.asks)=_;rw[v9,hU,A3]
theorem NZ(h:∀(s:Bj)(o:af Nm),WB C s.toV o s.asks 20):∀(gs:af Gen)(o:af Nm),KP C (HT gs o)
 |[],_=>trivial
 |g::r,o=>⟨h g.src o,NZ h r _⟩
theorem Jc:∀(gs:af Gen)(o:af Nm),DI (HT gs o)=20*gs.length
 |[],_=>rfl
 |i::r,o=>by show 20+DI (HT r _)=_;rw[Jc,bc];show 20+_=_;exact aZ (sO  (.a (.n 20) (.m 20 .x)) (.m 20 (.a .x (.n 1))) rfl ) (sO  (.m 20 (.a .x (.n 1))) (.a (.n 20) (.m 20 .x)) rfl )
theorem FU{g:zl}{x:Gen}{l r:af Gen}(h:l++x::r=g.l):x.names.length<=2:=by
 have:=g.h.1;rw[<-h]at this;simp only[hA,dP,av]at this;exact ye (.a .x (.a .y .z)) (.n 2) .y (.n 2) rfl this
theorem UL(H:w0 C)(hs:∀(s:Bj)(o:af Nm),WB C s.toV o s.asks 20){op:aN}{w:Str}(hw:(w==S "p")=false)(h2:(w==S "table")=false){g:zl}{wh:Wh}(ho:own.length<=100)(hh:WB C wh.toV (uG g.l own) wh.asks 20)(ha:WB C a (uG g.l own) la ba) :
  WB C (.tup [.str (match op with|true=>S "comp" |false=>S "gen"),.int q,.str w,g.toV,wh.toV,a]) own (pe g.l (la++wh.asks)) (ba+61):=by
 have w':KP C (HT g.l own++[⟨wh.toV,uG g.l own,wh.asks,20⟩,⟨a,uG g.l own,la,ba⟩]):=(NZ hs g.l own).app (qB hh ha trivial);refine JB (w'.VV) λis i1 i2 i3 Y=>?_;have h4:uo is<=ba+60:=by have:=g.h.2;simp only[A1,Jc]at Y;exact Pa .x (.a (.m 20 .y) (.a (.n 20) .z)) (.m 20 .y) (.m 20 (.n 2)) (.n 0) (.n 0) .x (.a .z (.n 60)) rfl Y (bt 20 this) (aL 0)
 have yV:sD is=uF C.kn own (pe g.l (la++wh.asks)):=by rw[i3,XG,A2,v9,hU (uF _ _ la)];exact aD (_&&·) (aD (_&&·) (eU _))
 refine WB.le (WB.wk (c:=uo is) (b:=sD is) (λn L j hL h h'=>uE ?_) yV.symm) (ax h4);have pd:=i1.len;have hL:L.length+(uo is+1)<=900:=hL;have hm:=aD fM i2;simp only[aK,aK,av]at hm
 induction op using aJ
 ·let p:=C.pp L (It.wv ⟨(.tup [.str (S "gen"),.int q,.str w,g.toV,wh.toV,a]),own,sD is,uo is+1⟩) j
  refine(?_:pL _ _ p);refine yB 9 (va (x:=w) (b:=false) H.hb (XF hw h2)) ?_<;>intro p
  refine uY 0 Gen.toV (λu_=>[]) (λ(z:af Co×af Nm×pq×pq)=>C.st (L++z.1.map Co.wv) {j with here:=.val (.tup [.str (S "gen"),.int q,.str w,g.toV,wh.toV,a]),own:=.val (rf z.2.1),op:=.val (.str (S "gen")),names:=z.2.2.1,source:=z.2.2.2})
   (λr z=>z.1++HT r z.2.1=HT g.l own/\uG r z.2.1=uG g.l own/\z.2.1.length+2*r.length<=104/\∃d,d++r=g.l) g.l ([],own,j.names,j.source) ⟨rfl,rfl,by have:=g.h.2;show own.length+_<=_;exact Pa .x (.n 2) .x (.n 2) .y (.n 100) (z:=0) (.a .y (.m 2 .x)) (.n 104) rfl this this ho,[],rfl⟩ (λi r z hI=>?_) (λz hI=>?_) (by rw[show L++([]:af Co).map Co.wv=L from aY L];kernel_rfl!)
  ·have h1:z.1.length+1<=is.length:=by have:=aD fM hI.1;simp only[av,xT,bc]at this;refine rg (hm) ?_;refine rl (this) ?_;exact xb  (.a .x (.n 1)) (.a (.a .x (.a .y (.n 1))) (.a (.a (.n 0) (.n 1)) (.n 1))) rfl
   have hr:=hI.2.2.1;simp only[bc]at hr;have hs:∀c:Co,(L++z.1.map Co.wv)++[c.wv]=L++(z.1++[c]).map Co.wv:=λc=>rg (bw ..) (rg (a8 ..) rfl);have A:=hI.1;rw[xT,fZ]at A;obtain⟨d,hd⟩:=hI.2.2.2;have hn:=FU hd;intro p;refine(let D:FR:=_;(?_:pL _ D _))
   refine zk 1 (λs=>⟨oZ s.ρ (S "stack") (.own ((L++z.1.map Co.wv)++[wv i.src.toV z.2.1])),s.σ⟩) (ud (by rw[av,aK];exact CJ .x .y (.a .z (.n 1)) .x (.a .w (.a .y (.n 1))) (.n 900) (.a .w .z) (.n 1000) rfl pd h1 hL)) ?_<;>intro p
   refine oW 0 (DJ (o:=z.2.1) (k:=i.names) (by exact uJ (.a .x (.m 2 (.a .y (.n 1)))) (.n 104) .z (.n 2) (.a .x .z) (.n 1000) rfl hr hn)) ?_<;>intro p
   exact p9 (b:=true) (acc:=[]) (s:=C.st ((L++z.1.map Co.wv)++[wv i.src.toV z.2.1]) {j with here:=.val (.tup [.str (S "gen"),.int q,.str w,g.toV,wh.toV,a]),own:=.val (rf (z.2.1++i.names)),op:=.val (.str (S "gen")),names:=.val (rf i.names),source:=.val i.src.toV})
    ⟨(z.1++[Co.mk i.src.toV z.2.1 i.src.asks 20],z.2.1++i.names,.val (rf i.names),.val i.src.toV),rfl,aD (λM=>C.st M _) (hs (Co.mk i.src.toV z.2.1 i.src.asks 20)),A,hI.2.1,by rw[av];exact uJ (.a .x (.m 2 (.a .y (.n 1)))) (.n 104) .z (.n 2) (.a (.a .x .z) (.m 2 .y)) (.n 104) rfl hr hn,d++[i],rl (hd ..) (rg (a8 ..) rfl)⟩
  ·intro p;refine(let O:FR:=_;(?_:pL _ O _))
   have h1:z.1=HT g.l own:=(aY z.1).symm.trans hI.1;have h2:z.2.1=uG g.l own:=hI.2.1;have hs:(L++z.1.map Co.wv)++[wv wh.toV z.2.1,wv a z.2.1]=L++is.map It.wv:=rg (i2 ..) (rg (bw ..) (rg (h1 ..) (rg (h2 ..) (rg (a8 ..) rfl))));refine zk 5 (λs=>⟨oZ s.ρ (S "stack") (.own ((L++z.1.map Co.wv)++[wv wh.toV z.2.1,wv a z.2.1])),s.σ⟩) (HQ (by rw[av,aK,h1];have e:[wv wh.toV z.2.1,wv a z.2.1].length=2:=rfl;have e2:[Co.mk wh.toV (uG g.l own) wh.asks 20,Co.mk a (uG g.l own) la ba].length=2:=rfl;exact CJ .x .y (.a .z (.a (.a (.n 0) (.n 1)) (.n 1))) .x (.a .w (.a .y (.n 1))) (.n 900) (.a (.a .w .z) (.a (.a (.n 0) (.n 1)) (.n 1))) (.n 1000) rfl pd (ak hm.symm) hL)) ?_<;>intro p
   refine p9 (b:=true) (acc:=[]) (s:=C.st ((L++z.1.map Co.wv)++[wv wh.toV z.2.1,wv a z.2.1]) {j with here:=.val (.tup [.str (S "gen"),.int q,.str w,g.toV,wh.toV,a]),own:=.val (rf z.2.1),op:=.val (.str (S "gen")),names:=z.2.2.1,source:=z.2.2.2}) ?_
   refine rg (hs) ?_;exact i1.run n L _ (by exact pZ (.a .x (.a .y (.n 1))) (.n 900) (.a .x .y) (.n 900) rfl hL) h h'
 ·let p:=C.pp L (It.wv ⟨(.tup [.str (S "comp"),.int q,.str w,g.toV,wh.toV,a]),own,sD is,uo is+1⟩) j
  refine(?_:pL _ _ p)
  refine uY 0 Gen.toV (λu_=>[]) (λ(z:af Co×af Nm×pq×pq)=>C.st (L++z.1.map Co.wv) {j with here:=.val (.tup [.str (S "comp"),.int q,.str w,g.toV,wh.toV,a]),own:=.val (rf z.2.1),op:=.val (.str (S "comp")),names:=z.2.2.1,source:=z.2.2.2})
   (λr z=>z.1++HT r z.2.1=HT g.l own/\uG r z.2.1=uG g.l own/\z.2.1.length+2*r.length<=104/\∃d,d++r=g.l) g.l ([],own,j.names,j.source) ⟨rfl,rfl,by have:=g.h.2;show own.length+_<=_;exact Pa .x (.n 2) .x (.n 2) .y (.n 100) (z:=0) (.a .y (.m 2 .x)) (.n 104) rfl this this ho,[],rfl⟩ (λi r z hI=>?_) (λz hI=>?_) (by rw[show L++([]:af Co).map Co.wv=L from aY L];kernel_rfl!)
  ·have h1:z.1.length+1<=is.length:=by have:=aD fM hI.1;simp only[av,xT,bc]at this;refine rg (hm) ?_;refine rl (this) ?_;exact xb  (.a .x (.n 1)) (.a (.a .x (.a .y (.n 1))) (.a (.a (.n 0) (.n 1)) (.n 1))) rfl
   have hr:=hI.2.2.1;simp only[bc]at hr;have hs:∀c:Co,(L++z.1.map Co.wv)++[c.wv]=L++(z.1++[c]).map Co.wv:=λc=>rg (bw ..) (rg (a8 ..) rfl);have A:=hI.1;rw[xT,fZ]at A;obtain⟨d,hd⟩:=hI.2.2.2;have hn:=FU hd;intro p;refine(let T:FR:=_;(?_:pL _ T _))
   refine zk 1 (λs=>⟨oZ s.ρ (S "stack") (.own ((L++z.1.map Co.wv)++[wv i.src.toV z.2.1])),s.σ⟩) (ud (by rw[av,aK];exact CJ .x .y (.a .z (.n 1)) .x (.a .w (.a .y (.n 1))) (.n 900) (.a .w .z) (.n 1000) rfl pd h1 hL)) ?_<;>intro p
   refine oW 0 (DJ (o:=z.2.1) (k:=i.names) (by exact uJ (.a .x (.m 2 (.a .y (.n 1)))) (.n 104) .z (.n 2) (.a .x .z) (.n 1000) rfl hr hn)) ?_<;>intro p
   exact p9 (b:=true) (acc:=[]) (s:=C.st ((L++z.1.map Co.wv)++[wv i.src.toV z.2.1]) {j with here:=.val (.tup [.str (S "comp"),.int q,.str w,g.toV,wh.toV,a]),own:=.val (rf (z.2.1++i.names)),op:=.val (.str (S "comp")),names:=.val (rf i.names),source:=.val i.src.toV})
    ⟨(z.1++[Co.mk i.src.toV z.2.1 i.src.asks 20],z.2.1++i.names,.val (rf i.names),.val i.src.toV),rfl,aD (λM=>C.st M _) (hs (Co.mk i.src.toV z.2.1 i.src.asks 20)),A,hI.2.1,by rw[av];exact uJ (.a .x (.m 2 (.a .y (.n 1)))) (.n 104) .z (.n 2) (.a (.a .x .z) (.m 2 .y)) (.n 104) rfl hr hn,d++[i],rl (hd ..) (rg (a8 ..) rfl)⟩
  ·intro p;refine(let U:FR:=_;(?_:pL _ U _))
   have h1:z.1=HT g.l own:=(aY z.1).symm.trans hI.1;have h2:z.2.1=uG g.l own:=hI.2.1;have hs:(L++z.1.map Co.wv)++[wv wh.toV z.2.1,wv a z.2.1]=L++is.map It.wv:=rg (i2 ..) (rg (bw ..) (rg (h1 ..) (rg (h2 ..) (rg (a8 ..) rfl))));refine zk 5 (λs=>⟨oZ s.ρ (S "stack") (.own ((L++z.1.map Co.wv)++[wv wh.toV z.2.1,wv a z.2.1])),s.σ⟩) (HQ (by rw[av,aK,h1];have e:[wv wh.toV z.2.1,wv a z.2.1].length=2:=rfl;have e2:[Co.mk wh.toV (uG g.l own) wh.asks 20,Co.mk a (uG g.l own) la ba].length=2:=rfl;exact CJ .x .y (.a .z (.a (.a (.n 0) (.n 1)) (.n 1))) .x (.a .w (.a .y (.n 1))) (.n 900) (.a (.a .w .z) (.a (.a (.n 0) (.n 1)) (.n 1))) (.n 1000) rfl pd (ak hm.symm) hL)) ?_<;>intro p
   refine p9 (b:=true) (acc:=[]) (s:=C.st ((L++z.1.map Co.wv)++[wv wh.toV z.2.1,wv a z.2.1]) {j with here:=.val (.tup [.str (S "comp"),.int q,.str w,g.toV,wh.toV,a]),own:=.val (rf z.2.1),op:=.val (.str (S "comp")),names:=z.2.2.1,source:=z.2.2.2}) ?_
   refine rg (hs) ?_;refine(let C:Prop:=_;(?_:C))
   exact i1.run n L _ (by exact pZ (.a .x (.a .y (.n 1))) (.n 900) (.a .x .y) (.n 900) rfl hL) h h'
theorem qE(H:w0 C)(l:qe)(own:af Nm):WB C l.toV own l.asks 4:=by
 cases l with
 |int q i=>exact DG
 |name q x=>exact QZ H
 |size q o q' x=>exact(Q0 H).le (by decide)
theorem HU(H:w0 C)(t:Ec)(own:af Nm):WB C t.toV own t.asks 20:=(NV (qE H t.l own) (qE H t.r own)).le (by decide)
theorem UM(H:w0 C)(s:Bj)(own:af Nm):WB C s.toV own s.asks 20:=by
 cases s with
 |range q q' l=>exact(FP (DG (i:=1)) (qE H l own)).le (by decide)
 |pair q arr a b =>
  induction arr using aJ
  ·exact(UI (zy (qE H a own) (qE H b own))).le (by decide)
  ·exact(FQ (zy (qE H a own) (qE H b own))).le (by decide)
 |leaf l=>exact(qE H l own).le (by decide)
theorem Q3(H:w0 C)(b:HI)(own:af Nm):WB C b.toV own b.asks 20:=by
 cases b with
 |none=>exact Ja.le (by decide)
 |xK q q' l=>exact(FP (DG (i:=0)) (qE H l own)).le (by decide)
theorem XH(H:w0 C)(w:Wh)(own:af Nm):WB C w.toV own w.asks 20:=by
 cases w with
 |none=>exact Ja.le (by decide)
 |rF t=>exact HU H t own
theorem Q4(H:w0 C)(i:Item)(own:af Nm):WB C i.toV own i.oa 40:=by
 cases i with
 |con q t=>exact(UJ (HU H t own)).le (by decide)
 |decl q var bd x e =>
  induction var using aJ
  ·exact((QX (x:=x.s) (Q3 H bd own) (qE H e own)).le (by decide)).cast w7.symm
  ·refine WB.le (WB.wk (c:=0) (b:=false) (λn L j hL h h'=>uE ?_) (A0 H)) (by decide)
   exact NY (h' rfl)
theorem Q5(H:w0 C){x y z:V}{l:af Str}:WB C (.tup [.str (S "gen"),.int q,.str (S "p"),x,y,z]) own (l++rM true) 1:=by
 refine WB.wk (c:=0) (b:=false) (λn L j hL h h'=>uE ?_) (A0 H);refine yB 9 (va (x:=S "p") (b:=true) H.hb rfl) ?_<;>intro p;exact NY (h' rfl)
theorem Cr:∀(A:af Item)(o:af Nm),(vN A o).length<=o.length+A.length
 |[],_=>aL _
 |i::r,o=>by
  have:=Cr r (o++i.nm);have h:i.nm.length<=1:=by cases i with|con=>exact bL _|decl=>exact aL _
  rw[av]at this;show(vN r (o++i.nm)).length<=_;rw[bc];exact S4 .x (.a (.a .y .z) .w) .z (.n 1) .x (.a .y (.a .w (.n 1))) rfl this h
theorem FV:∀(gs:af Gen)(o:af Nm),(uG gs o).length=o.length+(gs.flatMap Gen.names).length
 |[],_=>rfl
 |g::r,o=>by
  show(uG r (o++g.names)).length=_;rw[FV,av,dP,av,d6]
theorem vb(H:w0 C):∀(T:sL)(own:af Nm),own.length+2*T.deep<=100->WB C T.toV own T.asks (4+90*T.deep)
 |.leaf l,own,_=>qE H l own
 |.bin q e a l,own,h=>(NV (vb H a own (by have h:own.length+2*(a.deep+1)<=100:=h;exact pZ (.a .x (.m 2 (.a .y (.n 1)))) (.n 100) (.a .x (.m 2 .y)) (.n 100) rfl h)) (qE H l own)).le (by show _<=4+90*(a.deep+1);exact sO  (.a (.a (.n 1) (.a (.n 1) (.a (.n 1) (.a (.a (.n 4) (.m 90 .x)) (.n 4))))) (.n 1)) (.a (.n 4) (.m 90 (.a .x (.n 1)))) rfl )
 |.index q b a,own,h=>(NW (qE H b own) (HS (vb H a own (by have h:own.length+2*(a.deep+1)<=100:=h;exact pZ (.a .x (.m 2 (.a .y (.n 1)))) (.n 100) (.a .x (.m 2 .y)) (.n 100) rfl h)))).le (by show _<=4+90*(a.deep+1);exact sO  (.a (.a (.n 1) (.a (.n 1) (.a (.n 4) (.a (.a (.a (.a (.n 4) (.m 90 .x)) (.n 0)) (.n 1)) (.n 0))))) (.n 1)) (.a (.n 4) (.m 90 (.a .x (.n 1)))) rfl )
 |.cond q t a l,own,h=>(XD (HS (zy (HU H t own) (vb H a own (by have h:own.length+2*(a.deep+1)<=100:=h;exact pZ (.a .x (.m 2 (.a .y (.n 1)))) (.n 100) (.a .x (.m 2 .y)) (.n 100) rfl h)))) (qE H l own)).le (by show _<=4+90*(a.deep+1);exact sO  (.a (.a (.n 1) (.a (.n 1) (.a (.a (.a (.a (.a (.n 20) (.a (.a (.n 4) (.m 90 .x)) (.n 0))) (.n 1)) (.n 0)) (.n 1)) (.n 4)))) (.n 1)) (.a (.n 4) (.m 90 (.a .x (.n 1)))) rfl )
 |.call q f q' a l,own,h=>(Q1 H (HS (FQ (zy (vb H a own (by have h:own.length+2*(a.deep+1)<=100:=h;exact pZ (.a .x (.m 2 (.a .y (.n 1)))) (.n 100) (.a .x (.m 2 .y)) (.n 100) rfl h)) (qE H l own))))).le (by show _<=4+90*(a.deep+1);exact sO  (.a (.a (.a (.a (.a (.n 1) (.a (.n 1) (.a (.a (.a (.a (.n 4) (.m 90 .x)) (.n 4)) (.n 1)) (.n 0)))) (.n 1)) (.n 0)) (.n 1)) (.n 4)) (.a (.n 4) (.m 90 (.a .x (.n 1)))) rfl )
 |.BI q i a,own,h=>(UK (Q4 H) (by exact pZ (.a .x (.m 2 .y)) (.n 100) .x (.n 100) rfl h) (vb H a (vN i.l own) (by have h:own.length+2*(a.deep+1)<=100:=h;exact CJ (.a .x (.m 2 (.a .y (.n 1)))) (.n 100) .z (.a .x .w) .w (.n 2) (.a .z (.m 2 .y)) (.n 100) rfl h (Cr i.l own) i.h))).le (by show _<=4+90*(a.deep+1);exact sO  (.a (.a (.n 4) (.m 90 .x)) (.n 81)) (.a (.n 4) (.m 90 (.a .x (.n 1)))) rfl )
 |.tX q k g w a,own,h=>by
  have ih:=vb H a (uG g.l own) (by have h:own.length+2*(a.deep+1)<=100:=h;rw[FV];have:=g.h.1;exact uJ (.a .x (.m 2 (.a .y (.n 1)))) (.n 100) .z (.n 2) (.a (.a .x .z) (.m 2 .y)) (.n 100) rfl h this)
  have ho:own.length<=100:=by exact pZ (.a .x (.m 2 .y)) (.n 100) .x (.n 100) rfl h
  have t:=λ(op:aN) (w':Str) h1 h2=>(UL (q:=q) H (UM H) (op:=op) (w:=w') h1 h2 (g:=g) ho (XH H w _) ih).cast w7.symm;have hd:a.deep+1=(sL.tX q k g w a).deep:=rfl;cases k with
  |comp b=>cases b<;>exact(t true _ rfl rfl).le (by rw[<-hd];exact sO  (.a (.a (.n 4) (.m 90 .x)) (.n 61)) (.a (.n 4) (.m 90 (.a .x (.n 1)))) rfl )
  |sum=>exact(t false _ rfl rfl).le (by rw[<-hd];exact sO  (.a (.a (.n 4) (.m 90 .x)) (.n 61)) (.a (.n 4) (.m 90 (.a .x (.n 1)))) rfl )
  | «forall»=>exact(t false _ rfl rfl).le (by rw[<-hd];exact sO  (.a (.a (.n 4) (.m 90 .x)) (.n 61)) (.a (.n 4) (.m 90 (.a .x (.n 1)))) rfl )
  |p=>exact(Q5 H).le (by rw[<-hd];exact sO  (.n 1) (.a (.n 4) (.m 90 (.a .x (.n 1)))) rfl )
end
theorem HV{wf m a b:Nat}{σ:af Cell}{Q:V->af Cell->Prop}{X:XT}{T:sL}{sc:Cell}{kn:Str->aN}(H:w0 ⟨wf+900,m,T.toV,a,b,σ,Q,X,sc,kn⟩)(hd:T.deep<=9)(h:Q (.bool (uF kn [] T.asks)) σ) :
  CW (o6 oP (wf+900) (m+1) (S "is_settled") [T.toV,.ptr a,.ptr b] σ) Q X:=by
 refine(let C:Prop:=_;(?_:C))
 refine tq (vb H T [] (by show 0+_<=_;exact vS .x (.n 9) .x (.n 9) (y:=0) (.a (.n 0) (.m 2 .x)) (.n 100) rfl hd hd)) λc h1 h2 o=>?_
 obtain⟨k,hk⟩:∃k,wf+900=k+1+c:=sb2 (uJ .x (.a (.n 4) (.m 90 .y)) (.m 90 .y) (.m 90 (.n 9)) (.a (.n 1) .x) (.a .z (.n 900)) rfl h2 (bt 90 hd));refine qk Dr (by kernel_rfl!) ?_
 intro φ p;refine aaF (m:=k+1+c) (s:=CX.st ⟨wf+900,m,T.toV,a,b,σ,Q,X,sc,kn⟩ ([]++[It.wv ⟨T.toV,[],uF kn [] T.asks,c⟩]) ⟨.no,.no,.no,.no,.no,.no⟩) ?_ (by rw[<-hk];kernel_rfl!)
 refine o (k+1) [] _ (by exact vS .x (.a (.n 4) (.m 90 .y)) (.m 90 .y) (.m 90 (.n 9)) (.a (.n 0) .x) (.n 900) rfl h2 (bt 90 hd)) (λe j=>?_) (λe=>?_)
 ·refine NB ?_;intro p;refine p9 (b:=false) (acc:=[]) (s:=CX.st ⟨wf+900,m,T.toV,a,b,σ,Q,X,sc,kn⟩ [] j) ?_;exact oJ (tI (b:=true) (e▸h))
 ·exact e▸h
section
variable{wf m n k d d' M:Nat}{σ:af Cell}{Q:V->af Cell->Prop}{X:XT}{v w:V}{q:Int}{l:af V}{c:Cell}{a b:V}{P P':V->Prop}{p:Nat}{L:af Str}
theorem FW(h:SV v)(x:XO X σ)(z:∀l:af V,l.length<=2->(∀v∈l,G0 v)->Q (.lst l) σ):CW (oY wf (m+3) (S "elements_of") [v,.int q] σ) Q X:=by
 have no:∀v,NA v->(∀{Q:V->af Cell->Prop} {X:XT},Q (.bool false) σ->CW (oY wf (m+2) (S "is_set") [v] σ) Q X)->(h0:qK (S "elements_of") [v,.int q]=false)->CW (oY wf (m+3) (S "elements_of") [v,.int q] σ) Q X:=λv hn hs h0=>by
  refine oS uk ?_ (by kernel_rfl!) h0
  intro φ p;refine oG (hs ?_)<;>intro p;exact oG (v8 (σ:=σ) (q:=q) hn x.hx)
 cases h with
 |@int i h=>exact no _ .int (λz=>yF (d:=1) (G0.int h).gn (λu_ e=>nomatch e) z) rfl
 |@bool b=>exact no _ .bool (λz=>yF (d:=1) GN.bool (λu_ e=>nomatch e) z) rfl
 |@set l hl h=>exact DA (z _ (by rw[aK];exact hl) λv hv=>by obtain⟨i,hi,rfl⟩:=List.mem_map.mp hv;exact .int (h i hi))
 |arr hl h=>exact u7 (d:=1) (λv hv=>(h v hv).gn) (z _ hl h)
theorem p4{i:Nat}(h:i<=2):2^i<=4:=Nat.pow_le_pow_right (n:=2) (by decide) h
theorem aaI{K:sY}{φ:FR}{p:Tr}(k i:Nat)(h:pL K φ (to k i p)):pL K φ p:=tH rfl (by unfold pL at h;exact h)
theorem N0(t:Bj):∃q,∀s,pW t.toV (.int 1) s=.ok (.int q) s:=by
 cases t with
 |range q _ _=>exact⟨q,λs=>rfl⟩
 |pair q _ _ _=>exact⟨q,λs=>rfl⟩
 |leaf l=>cases l<;>exact⟨_,λs=>rfl⟩
structure SK where
 (found names source one pairs name late some value inner:pq)
noncomputable def stK(G W:V)(p:Nat)(σ:af Cell)(j:SK):St:=⟨[(S "generators", .val G),(S "where", .val W),(S "scope", .val (.ptr p)),(S "found", j.found),(S "names", j.names),(S "source", j.source),(S "one", j.one),(S "pairs", j.pairs),(S "name", j.name),(S "late", j.late),(S "some", j.some),(S "value", j.value),(S "inner", j.inner)],σ⟩
noncomputable def xU(e:Nat×V):V:=.tup [.ptr e.1,e.2]
noncomputable def At(s:af Cell)(n:Nat)(L:af Str)(p:Nat):Prop:=∃c,s[p]?=some c/\Sc c n L
theorem At.up{s t:af Cell}(h:At s n L p):At (s++t) n L p:=h.elim λc h=>⟨c,by
 have hp:p<s.length:=(List.getElem?_eq_some_iff.mp h.1).1;rw[bW hp];exact h.1,h.2⟩
noncomputable def El(e:V)(l:af V):Prop:=e=.lst l/\l.length<=2/\∀v∈l,G0 v
noncomputable def In(s:af Cell)(n:Nat)(L A:af Str)(e:Nat×V):Prop:=At s n L e.1/\(e.2=.none/\At s n A e.1\/∃l,El e.2 l)
theorem In.up{s t:af Cell}{A:af Str}{e:Nat×V}(h:In s n L A e):In (s++t) n L A e:=⟨h.1.up,h.2.imp (λh=>⟨h.1,h.2.up⟩) λh=>h⟩
theorem At.sub{s:af Cell}{o:af Str}(h:At s n L p)(hs:∀x∈o,x∈L)(hn:n<=k):At s k o p:=h.elim λc h=>⟨c,h.1,h.2.sub hs hn⟩
theorem SM{ps:af Nat}{t:af Cell}(h0:Q (.lst []) (σ++[]))(h:Q (.lst (ps.map .ptr)) (σ++t)):HB σ.length Q (.lst (ps.map .ptr)) (σ++t):=by
 cases ps with
 |nil=>exact wZ (v:=.lst []) rfl (by rw[aY]at h0;exact h0)
 |cons _ _=>exact h
noncomputable def Q6(fl:aN)(ps:af Nat):pq:=match fl with
 |true=>.own (ps.map .ptr)
 |false=>.val (.lst (ps.map .ptr))
theorem yH {gs:af Gen} {wh:Wh} (hg:(gs.flatMap Gen.names).length<=2) (hs:Sc c n (pe gs (L++wh.asks))) (hn:n<=800) (hp:σ[p]?=some c) (x:XO X σ)
  (z_:∀(ps:af Nat)(t:af Cell),ps.length<=4->(∀p∈ps,At (σ++t) (n+2) L p)->Q (.lst (ps.map .ptr)) (σ++t)):CW (oY wf (m+9) (S "scopes_of") [.tup (gs.map Gen.toV),wh.toV,.ptr p] σ) Q X:=by
 refine oS Fm ?_;intro φ p0;have hx:∀t,XO (HX σ.length X) (σ++t):=x.ha
 let g1:aN×af Nat×af Cell×SK->St:=λ(z:aN×af Nat×af Cell×SK)=>stK (.tup (gs.map Gen.toV)) wh.toV p (σ++z.2.2.1) {z.2.2.2 with found:=Q6 z.1 z.2.1}
 let i1:af Gen->aN×af Nat×af Cell×SK->Prop:=λr z=>∃i,i+(r.flatMap Gen.names).length<=2/\z.2.1.length<=2^i/\∀p∈z.2.1,At (σ++z.2.2.1) (n+i) (pe r (L++wh.asks)) p
 refine uY 0 Gen.toV (λu_=>[]) g1
  i1 gs (true,[p],[],⟨.no,.no,.no,.no,.no,.no,.no,.no,.no,.no⟩)
  ⟨0,by exact qu .x (.n 2) (.a (.n 0) .x) (.n 2) rfl hg,aL 1,λk hk=>by rw[List.mem_singleton.mp hk,aY];exact⟨c,hp,hs⟩⟩ (λg r z hI=>?_) (λz hI=>?_) (by show to 2 0 p0=Tr.lp _ _ (stK (.tup (gs.map Gen.toV)) wh.toV p (σ++[]) _) _ _;rw[aY];kernel_rfl!)
 ·obtain⟨fl,ps,t,j⟩:=z;obtain⟨i,h1,h2,h3⟩:=hI;have h1:i+(g.names.length+(r.flatMap Gen.names).length)<=2:=by rw[dP,av]at h1;exact h1
  have h4:ps.length<=4:=aB h2 (p4 (by exact ye (.a .x (.a .y .z)) (.n 2) .x (.n 2) rfl h1))
  have H:∀b:pq,let q:=Nw 0 (HF 0 p0 g.toV [] (stK (.tup (gs.map Gen.toV)) wh.toV p (σ++t) {j with found:=Q6 false ps})) ((ps.map λp=>(p,V.none)).map xU) ⟨[(S ".0", .no),(S "one", b)],σ++t⟩;pL (oY wf (m+8)) {φ with N:=λu_ acc s=>∃(b:aN×af Nat×af Cell×SK),acc=[]/\s=stK (.tup (gs.map Gen.toV)) wh.toV p (σ++b.2.2.1) {b.2.2.2 with found:=Q6 b.1 b.2.1}/\∃i,i+(r.flatMap Gen.names).length<=2/\b.2.1.length<=2^i/\∀p∈b.2.1,At (σ++b.2.2.1) (n+i) (pe r (L++wh.asks)) p} q:=by
   intro b o;refine(let Tz:FR:=_;(?_:pL _ Tz _))
   let g2:af (Nat×V)×af Cell×SK->St:=λ(u:af (Nat×V)×af Cell×SK)=>stK (.tup (gs.map Gen.toV)) wh.toV p (σ++u.2.1) {u.2.2 with found:=Q6 false ps,names:=.val (rf g.names),pairs:=.val (.lst (u.1.map xU)),source:=.val g.src.toV}
   let i2:af Str->af (Nat×V)×af Cell×SK->Prop:=λT u=>∃j,j+T.length+(r.flatMap Gen.names).length<=2/\u.1.length<=2^j/\∀e∈u.1,In (σ++u.2.1) (n+j) (less (pe r (L++wh.asks)) T) g.src.asks e
   refine uY 0 V.str (λu_=>[]) g2
    i2 (vo g.names) (ps.map λp=>(p,V.none),t,j)
    ⟨i,by rw[vo,aK];exact ye (.a .x (.a .y .z)) (.n 2) (.a (.a .x .y) .z) (.n 2) rfl h1,by rw[aK];exact h2,λe C=>by
     obtain⟨k,hk,rfl⟩:=List.mem_map.mp C;obtain⟨c',e1,e2⟩:=h3 k hk;exact⟨⟨c',e1,e2.sub (λu_ h=>List.mem_append.mpr (.inl h)) (aL _)⟩,.inl ⟨rfl,c',e1,e2.sub (λu_ h=>List.mem_append.mpr (.inr h)) (aL _)⟩⟩⟩ (λy T u U=>?_) (λu U=>?_)
   ·obtain⟨A,t2,j2⟩:=u;obtain⟨k,k1,k2,k3⟩:=U;intro p1;refine(let Mm:FR:=_;(?_:pL _ Mm _))
    let g3:af (Nat×V)×af Cell×SK->St:=λ(u:af (Nat×V)×af Cell×SK)=>stK (.tup (gs.map Gen.toV)) wh.toV p (σ++u.2.1) {u.2.2 with found:=Q6 false ps,names:=.val (rf g.names),pairs:=.val (.lst (A.map xU)),source:=.val g.src.toV,name:=.val (.str y),late:=.own (u.1.map xU)}
    let i3:af (Nat×V)->af (Nat×V)×af Cell×SK->Prop:=λY u=>u.1.length+2*Y.length<=2*2^k/\(∀e∈u.1,At (σ++u.2.1) (n+(k+1)) (less (pe r (L++wh.asks)) T) e.1/\∃l,El e.2 l)/\∀e∈Y,In (σ++u.2.1) (n+k) (less (pe r (L++wh.asks)) (y::T)) g.src.asks e
    refine uY 0 xU (λu_=>[]) g3
     i3 A ([],t2,j2)
     ⟨by show 0+_<=_;exact vS .x .y .x .y (.a (.n 0) (.m 2 .x)) (.m 2 .y) rfl k2 k2,(λu_ h=>nomatch h),k3⟩ (λe Y u U=>?_) (λu U=>?_)
    ·obtain⟨e1,e2⟩:=e;obtain⟨lt,t3,j3⟩:=u;obtain⟨u1,u2,u3⟩:=U;have u1:lt.length+2*(Y.length+1)<=2*2^k:=u1;have u4:=u3 _ az;have u5:∀e∈Y,In (σ++t3) (n+k) (less (pe r (L++wh.asks)) (y::T)) g.src.asks e:=λe C=>u3 e (aA _ C);intro o;refine(let TU:FR:=_;(?_:pL _ TU _))
     have H2:∀l:af V,l.length<=2->(∀v∈l,G0 v)->let q:=to 2 0 (HF 0 p1 (xU (e1,.lst l)) [] (stK (.tup (gs.map Gen.toV)) wh.toV p (σ++t3) {j3 with found:=Q6 false ps,names:=.val (rf g.names),pairs:=.val (.lst (A.map xU)),source:=.val g.src.toV,name:=.val (.str y),late:=.own (lt.map xU)}));pL (oY wf (m+8)) {φ with N:=λu_ acc s=>∃(b:af (Nat×V)×af Cell×SK),acc=[]/\s=stK (.tup (gs.map Gen.toV)) wh.toV p (σ++b.2.1) {b.2.2 with found:=Q6 false ps,names:=.val (rf g.names),pairs:=.val (.lst (A.map xU)),source:=.val g.src.toV,name:=.val (.str y),late:=.own (b.1.map xU)}/\b.1.length+2*Y.length<=2*2^k/\(∀e∈b.1,At (σ++b.2.1) (n+(k+1)) (less (pe r (L++wh.asks)) T) e.1/\∃l,El e.2 l)/\∀e∈Y,In (σ++b.2.1) (n+k) (less (pe r (L++wh.asks)) (y::T)) g.src.asks e} q:=by
      intro l l1 l2 o;refine(let Ww:FR:=_;(?_:pL _ Ww _))
      let g4:af (Nat×V)×af Cell×SK->St:=λ(u:af (Nat×V)×af Cell×SK)=>stK (.tup (gs.map Gen.toV)) wh.toV p (σ++u.2.1) {u.2.2 with found:=Q6 false ps,names:=.val (rf g.names),pairs:=.val (.lst (A.map xU)),source:=.val g.src.toV,name:=.val (.str y),late:=.own (u.1.map xU),one:=.val (.ptr e1),some:=.val (.lst l)}
      let i4:af V->af (Nat×V)×af Cell×SK->Prop:=λrv u=>u.1.length+rv.length+2*Y.length<=2*2^k/\(∀v∈rv,G0 v)/\(∀e∈u.1,At (σ++u.2.1) (n+(k+1)) (less (pe r (L++wh.asks)) T) e.1/\∃l,El e.2 l)/\(∀e∈Y,In (σ++u.2.1) (n+k) (less (pe r (L++wh.asks)) (y::T)) g.src.asks e)/\At (σ++u.2.1) (n+k) (less (pe r (L++wh.asks)) (y::T)) e1
      refine IV 0 (λu_=>[]) g4
       i4 l (lt,t3,j3)
       ⟨by show lt.length+_+_<=_;exact S4 (.a .x (.m 2 (.a .y (.n 1)))) (.m 2 .z) .w (.n 2) (.a (.a .x .w) (.m 2 .y)) (.m 2 .z) rfl u1 l1,l2,u2,u5,u4.1⟩ (λv rv u U=>?_) (λu U=>?_)
      ·obtain⟨lt,t4,j4⟩:=u;obtain⟨D,w2,w3,w4,c6,w5,w6⟩:=U;have hv:=w2 v az;have D:lt.length+(rv.length+1)+2*Y.length<=2*2^k:=D;have O:2^k<=4:=p4 (by exact ye (.a (.a .x (.a .y (.n 1))) .z) (.n 2) .x (.n 2) rfl k1)
       intro o;refine(let φ5:FR:=_;(?_:pL _ φ5 _))
       refine Ny 0 (f:=vw [.ptr e1]) (ρ:=(uA 0 o).ρ) (I1 w5 w6 (by exact S4 .x (.n 800) (.a (.a .y (.a .z (.n 1))) .w) (.n 2) (.a .x .y) (.n 900) rfl hn k1)) ?_<;>intro o
       refine Ny 0 (f:=λs=>AD (putAt (.ptr (σ++t4).length) (.str y) v s)) (σ:=(σ++t4)++[c6]) (ρ:=(uA 0 o).ρ) (v:=.none) (σ':=σ++(t4++[pv c6 y v])) (by rw[<-a8];exact NU (σ:=σ++t4) hv.gn.np w6 (by exact S4 .x (.n 800) (.a (.a .y (.a .z (.n 1))) .w) (.n 2) (.a .x .y) (.n 900) rfl hn k1)) ?_<;>intro o
       refine zk (f:=sA (S "late") (lt.map xU) (S "append") [xU ((σ++t4).length,V.lst l)]) 1 (λs=>⟨oZ s.ρ (S "late") (.own ((lt++[((σ++t4).length,V.lst l)]).map xU)),s.σ⟩) (λs=>by rw[bw];exact ud (L:=lt.map xU) (v:=xU ((σ++t4).length,V.lst l)) (by rw[aK];exact CJ .x (.n 4) .x (.n 4) (.a (.a .y (.a .z (.n 1))) (.m 2 .w)) (.m 2 .x) .y (.n 1000) rfl O O D) s) ?_<;>intro o
       have nw:∀{L n p},At (σ++t4) n L p->At (σ++(t4++[pv c6 y v])) n L p:=λh=>by rw[<-a8];exact h.up
       exact p9 (b:=true) (acc:=[]) ⟨(lt++[((σ++t4).length,V.lst l)],t4++[pv c6 y v],{j4 with value:=.val v,inner:=.val (.ptr (σ++t4).length)}),rfl,rfl,by show(lt++_).length+_+_<=_;rw[av,bA];exact Lm (.a (.a .x (.a .y (.n 1))) (.m 2 .z)) (.m 2 .w) (.a (.a (.a .x (.n 1)) .y) (.m 2 .z)) (.m 2 .w) rfl D,λv hv=>w2 v (aA _ hv),λe C=>(List.mem_append.mp C).elim (λh=>⟨nw (w3 e h).1,(w3 e h).2⟩) (λh=>by
        rw[List.mem_singleton.mp h];exact⟨⟨pv c6 y v,by rw[<-a8];exact dO,w6.put hv⟩,l,rfl,l1,l2⟩),λe C=>⟨nw (w4 e C).1,(w4 e C).2.imp (λh=>⟨h.1,nw h.2⟩) λh=>h⟩,nw ⟨c6,w5,w6⟩⟩
      ·obtain⟨lt,t4,j4⟩:=u;obtain⟨D,_,w3,w4,_⟩:=U;have D:lt.length+0+2*Y.length<=2*2^k:=D;have O:2^k<=4:=p4 (by exact ye (.a (.a .x (.a .y (.n 1))) .z) (.n 2) .x (.n 2) rfl k1)
       intro o;refine(let Wy:FR:=_;(?_:pL _ Wy _))
       refine Bi 0 (b:=decide ((100000:Int)<((lt.map xU).length:Nat))) (c:=false) (eh (by rw[aK];exact dt.2 (b9.2 (uJ (.a (.a .x (.n 0)) (.m 2 .y)) (.m 2 .z) (.m 2 .z) (.n 8) .x (.n 100000) rfl D (bt 2 O))))) ?_<;>intro o
       exact p9 (b:=true) (acc:=[]) ⟨(lt,t4,{j4 with one:=.val (.ptr e1),some:=.val (.lst l)}),rfl,rfl,D,w3,w4⟩
     rcases u4.2 with⟨C,h5⟩|⟨l,C,h5,h6⟩
     ·obtain rfl:e2=V.none:=C;obtain⟨c5,h5,h6⟩:=h5;refine oG (UB (m:=m) h6.toScOk (σ++t3) e1 h5 (hx t3) λv hv=>?_)<;>intro o;obtain⟨q,hq⟩:=N0 g.src;refine oW 0 hq ?_<;>intro o;refine oG (FW (σ:=σ++t3) (q:=q) hv (hx t3) λl l1 l2=>?_)<;>intro o;have h:=H2 l l1 l2;dsimp only at h;unfold pL at h;refine tH (k:=2) (i:=0) ?_ h
      kernel_rfl!
     ·obtain rfl:e2=V.lst l:=C;exact aaI 2 0 (H2 l h5 h6)
    ·obtain⟨lt,t4,j4⟩:=u;obtain⟨D,w2,_⟩:=U;have D:lt.length+0<=2*2^k:=D;have k1:k+(T.length+1)+(r.flatMap Gen.names).length<=2:=k1;intro o;refine(let φ7:FR:=_;(?_:pL _ φ7 _))
     exact p9 (b:=true) (acc:=[]) ⟨(lt,t4,{j4 with name:=.val (.str y),late:=.val (.lst (lt.map xU))}),rfl,rfl,k+1,by exact ye (.a (.a .x (.a .y (.n 1))) .z) (.n 2) (.a (.a (.a .x (.n 1)) .y) .z) (.n 2) rfl k1,aB D (ak (kq 2 _)),λe C=>⟨(w2 e C).1,.inr (w2 e C).2⟩⟩
   ·obtain⟨A,t2,j2⟩:=u;obtain⟨k,k1,k2,k3⟩:=U;have k1:k+0+(r.flatMap Gen.names).length<=2:=k1;have O:2^k<=4:=p4 (by exact pZ (.a (.a .x (.n 0)) .y) (.n 2) .x (.n 2) rfl k1)
    intro o;refine(let φ8:FR:=_;(?_:pL _ φ8 _))
    refine um 0 xU (λe=>[V.ptr e.1]) (λ(b:pq×pq)=>⟨[(S ".0", .no),(S "one", b.1),(S "some", b.2)],σ++t2⟩) A [] (.no,.no) 1000 (R:=(A.map (·.1)).map V.ptr) (by rw[eY,dE];exact g9) (by rw[aK,aK];have:A.length<=2^k:=k2;exact vS .x .y .y (.n 4) .x (.n 1000) rfl this O) (λe acc b hb=>?_) (λb=>?_)<;>intro o
    ·refine oW 0 (qD (a:=acc) (v:=V.ptr e.1) hb) ?_<;>intro o;exact p9 (b:=true) (acc:=acc++[V.ptr e.1]) ⟨rfl,(.val (.ptr e.1),.val e.2),rfl⟩
    ·exact p9 (b:=true) (acc:=[]) ⟨(false,A.map (·.1),t2,{j2 with names:=.val (rf g.names),pairs:=.val (.lst (A.map xU)),source:=.val g.src.toV}),rfl,rfl,k,by exact pZ (.a (.a .x (.n 0)) .y) (.n 2) (.a .x .y) (.n 2) rfl k1,by rw[aK];exact k2,λp hp=>by
      obtain⟨e,C,rfl⟩:=List.mem_map.mp hp;have:=(k3 e C).1;rw[AX]at this;exact this⟩
  have hF:(ps.map λp=>(p,V.none)).map xU=[]++ps.flatMap λp=>[xU (p,V.none)]:=by rw[eY,dE];exact g9
  have hL:((ps.map λp=>(p,V.none)).map xU).length<=1000:=by rw[aK,aK];exact qu .x (.n 4) .x (.n 1000) rfl h4
  cases fl
  all_goals
   intro o;refine(let φ9:FR:=_;(?_:pL _ φ9 _))
   refine um 0 V.ptr (λp=>[xU (p,.none)]) (λ(b:pq)=>⟨[(S ".0", .no),(S "one", b)],σ++t⟩) ps [] .no 1000 hF hL (λy acc b hb=>?_) (λb=>?_)
   ·intro o;refine oW 1 (qD (a:=acc) (v:=xU (y,.none)) hb) ?_<;>intro o;exact p9 (b:=true) (acc:=acc++[xU (y,.none)]) ⟨rfl,.val (.ptr y),rfl⟩
  ·exact H b
  ·have e:Nw 0 o ((ps.map λp=>(p,V.none)).map xU) ⟨[(S ".0", .no),(S "one", b)],σ++t⟩=Nw 0 (HF 0 p0 g.toV [] (stK (.tup (gs.map Gen.toV)) wh.toV p (σ++t) {j with found:=Q6 false ps})) ((ps.map λp=>(p,V.none)).map xU) ⟨[(S ".0", .no),(S "one", b)],σ++t⟩:=by kernel_rfl!
   have:=H b;dsimp only at this ⊢;rw[e];exact this
 ·obtain⟨fl,ps,t,j⟩:=z;obtain⟨i,h1,h2,h3⟩:=hI;have h1:i+0<=2:=h1;have h4:ps.length<=4:=aB h2 (p4 (by exact qu (.a .x (.n 0)) (.n 2) .x (.n 2) rfl h1))
  cases wh with
  |none =>
   have hb:HB σ.length Q (.lst (ps.map .ptr)) (σ++t):=SM (z_ [] [] (by decide) λu_ h=>(nM h).elim) (z_ ps t h4 λp hp=>(h3 p hp).sub (λx hx=>List.mem_append.mpr (.inl hx)) (by exact pZ (.a .x (.n 0)) (.n 2) (.a .y .x) (.a .y (.n 2)) rfl h1))
   cases fl
   ·intro o;exact oJ hb
   ·intro o;exact oJ hb
  |rF w =>
   cases fl
   all_goals
    intro o;refine(let aaJ:FR:=_;(?_:pL _ aaJ _))
    refine uY 0 V.ptr (λb=>b.1.map V.ptr) (λ(b:af Nat×pq)=>⟨[(S ".0", .no),(S "one", b.2)],σ++t⟩) (λr b=>b.1.length+r.length<=4/\(∀p∈b.1,At (σ++t) (n+2) L p)/\∀p∈r,At (σ++t) (n+i) (L++w.asks) p) ps ([],.no) ⟨by show 0+_<=_;exact qu .x (.n 4) (.a (.n 0) .x) (.n 4) rfl h4,(λu_ h=>nomatch h),h3⟩ (λy r b hI=>?_) (λb hI=>?_)
    ·obtain⟨u1,u2,u3⟩:=hI;obtain⟨c6,u4,u5⟩:=u3 y az;have u1:b.1.length+(r.length+1)<=4:=u1;have u6:=λp hp=>u3 p (aA _ hp);intro o;refine(let aaK:FR:=_;(?_:pL _ aaK _))
     refine oG (HN (m:=m+1) (t:=w) u5.app.2 (σ++t) y u4 (hx t) λv hv=>?_)<;>intro o;refine oG (DE (σ:=σ++t) (q:=w.p) hv λb' hb=>?_)<;>intro o;cases b'
     ·exact p9 (b:=true) (acc:=b.1.map V.ptr) ⟨(b.1,.val (.ptr y)),rfl,rfl,by show b.1.length+_<=_;exact pZ (.a .x (.a .y (.n 1))) (.n 4) (.a .x .y) (.n 4) rfl u1,u2,u6⟩
     ·refine oW 0 (qD (a:=b.1.map V.ptr) (v:=V.ptr y) (by rw[aK];exact pZ (.a .x (.a .y (.n 1))) (.n 4) (.a .x (.n 1)) (.n 1000) rfl u1)) ?_<;>intro o
      exact p9 (b:=true) (acc:=b.1.map V.ptr++[V.ptr y]) ⟨(b.1++[y],.val (.ptr y)),by rw[bw];rfl,rfl,by show(b.1++[y]).length+_<=_;rw[av,bA];exact pZ (.a .x (.a .y (.n 1))) (.n 4) (.a (.a .x (.n 1)) .y) (.n 4) rfl u1,λp hp=>(List.mem_append.mp hp).elim (u2 p) (λh=>by rw[List.mem_singleton.mp h];exact⟨c6,u4,u5.sub (λx hx=>List.mem_append.mpr (.inl hx)) (by exact pZ (.a .x (.n 0)) (.n 2) (.a .y .x) (.a .y (.n 2)) rfl h1)⟩),u6⟩
    ·intro o;exact oJ (SM (z_ [] [] (by decide) λu_ h=>(nM h).elim) (z_ b.1 t (by have:=hI.1;exact qu (.a .x (.n 0)) (.n 4) .x (.n 4) rfl this) hI.2.1))
noncomputable abbrev N1(op:cR)(q:Int)(w:Str)(gs:af Gen)(wh:Wh)(a:V):V:=.tup [msg op,.int q,.str w,.tup (gs.map Gen.toV),wh.toV,a]
theorem Q7{set:aN}{gs:af Gen}{wh:Wh}(hd:d<=6)(hg:(gs.flatMap Gen.names).length<=2)(hs:Sc c n (pe gs (L++wh.asks)))(hn:n<=800)(ha:∀Y,Sc Y (n+2) L->VC wf (m+9) Y a (GN d))(hp:σ[p]?=some c)(x:XO X σ)(z_:∀v,GN (d+1) v->Q v σ):CW (oY wf (m+10) BU [.ev (.ptr p),msg "comp", N1 "comp" q (Kind.comp set).word gs wh a,.int q] σ) Q X:=by
 refine oS zt ?_;intro φ o;refine(let D:FR:=_;(?_:pL _ D _))
 have hx:∀t,XO (HX σ.length X) (σ++t):=x.ha;refine oG (yH (m:=m) (L:=L) hg hs hn hp x.hx λps t h1 h2=>?_)<;>intro o
 let g1:af V×pq->St:=λ(b:af V×pq)=>⟨[(S ".0", .no),(S "one", b.2)],σ++t⟩
 refine uY 0 V.ptr (λb=>b.1) g1 (λr b=>b.1.length+r.length<=4/\(∀v∈b.1,GN d v)/\∀p∈r,At (σ++t) (n+2) L p) ps ([],.no) (qB (by show 0+_<=_;exact qu .x (.n 4) (.a (.n 0) .x) (.n 4) rfl h1) ((λu_ h=>nomatch h)) h2) (λy r b hI=>?_) (λb hI=>?_)
 ·obtain⟨A,u2,u3⟩:=hI;refine o8 (u3 y az) λc6 u4 u5=>?_;have A:b.1.length+(r.length+1)<=4:=A;intro o;refine(let H:FR:=_;(?_:pL _ H _))
  refine oG (ha c6 u5 (σ++t) y u4 (hx t) λv hv=>?_)<;>intro o;refine oW 0 (qD (a:=b.1) (v:=v) (by exact pZ (.a .x (.a .y (.n 1))) (.n 4) (.a .x (.n 1)) (.n 1000) rfl A)) ?_<;>intro o
  exact p9 (b:=true) (acc:=b.1++[v]) (zC ((b.1++[v],.val (.ptr y))) rfl rfl (by show(b.1++[v]).length+_<=_;rw[av,bA];exact pZ (.a .x (.a .y (.n 1))) (.n 4) (.a (.a .x (.n 1)) .y) (.n 4) rfl A) (λw hw=>(List.mem_append.mp hw).elim (u2 w) (λh=>(List.mem_singleton.mp h)▸hv)) (λp hp=>u3 p (aA _ hp)))
 ·obtain⟨l,_⟩:=b;refine y8 (hI) λA u2 u_=>?_;have A:l.length+0<=4:=A
  induction set using aJ with
  |false =>
   intro o;refine(let O:FR:=_;(?_:pL _ O _))
   refine oG (Dz (σ:=σ++t) (l:=l) (λv hv=>(u2 v hv).np) ?_)<;>intro o;exact oJ (wZ (t:=t) (AP (lo:=1) (hi:=l.length) u2) (z_ _ (.arr A u2)))
  |true =>
   intro o;refine(let T:FR:=_;(?_:pL _ T _))
   let g2:af Int×pq->St:=λ(z:af Int×pq)=>⟨[(S ".0", .no),(S "one", z.2)],σ++t⟩
   refine IV 0 (λz=>z.1.map .int) g2 (KC l d) l ([],.no) ⟨by show 0+_<=_;exact qu (.a .x (.n 0)) (.n 4) (.a (.n 0) .x) (.n 4) rfl A,(λu_ h=>nomatch h),u2⟩ (λv r z hI=>?_) (λz hI=>?_)<;>intro o
   ·refine(let U:FR:=_;(?_:pL _ U _))
    refine oG (uD (σ:=σ++t) (q:=q) (hI.2.2 v az) (hx t) λi h0 h1=>?_)<;>intro o;refine oW 0 (FF (w:=.int i) hI) ?_<;>intro o;exact p9 (b:=true) (acc:=z.1.map .int++[.int i]) (qZ ((z.1++[i],.val v)) Uu rfl (hI.next h0 h1))
   ·have hs:=DD (P:=λi=>0<=i/\i<=nb d) z.1 hI.2.1;refine(let C:Prop:=_;(?_:C))
    have h4:z.1.length+0<=4:=hI.1;refine oW 0 (Uz (ns:=z.1) h4) ?_<;>intro o;refine oW 0 (NO (ns:=qj z.1) (aB hs.1 h4)) ?_<;>intro o;exact oJ (wZ (t:=t) (v:=tY (qj z.1)) (qn _) (z_ _ (GN.set (aB hs.1 h4) hs.2).up))
theorem Q8(s:St):pW (.lst (l++[v])) (.int (-1)) s=.ok v s:=by
 refine(?_:R.opt (itemAt (l++[v]) (-1)) s=_);unfold itemAt;refine rg (aT (by decide)) ?_;refine rg (aO (by rw[av,bA];exact m8 (b9.2 (ax (bL _))))) ?_;refine rg (show((-1:Int)+((l++[v]).length:Nat)).toNat=l.length by rw[av,bA];exact(aD Int.toNat ((aD ((-1:Int) + ·) (Int.add_comm (l.length:Int) 1)).trans (Int.neg_add_cancel_left 1 _))).trans (en _)) ?_;refine rg (dO) ?_;rfl
theorem Q9{bs:af aN}:∃b,∀s,td .NotIn (.bool false) (.lst (bs.map .bool)) s=.ok (.bool b) s:=by
 have:∀bs:af aN,V.qv (bs.map .bool)=some (bs.map .bool):=λbs=>by
  induction bs with
  |nil=>rfl
  |cons x r ih =>
   refine(?_:BN (V.toPy (.bool x)) (V.qv (r.map .bool))=_);refine rg (ih) ?_;rfl
 refine⟨!((bs.map PyData.bool).any λy=>a9 y (.bool false)),λs=>?_⟩;refine(?_:R.opt (((match V.toPy (.bool false),V.qv (bs.map .bool)with|some d,some ds=>if d.depth<=500 then some (ds.any λy=>a9 y d)else none|_,_=>none).map (!·)).map V.bool) s=_)
 refine rg (this ..) ?_;rfl
theorem fold_all(hl:l.length<=4)(hv:∀v∈l,GN d v)(x:XO X σ)(C:∀b,Q (.bool b) σ):CW (oY wf (m+2) (S "folded") [.str (S "forall"),.lst l,.int q] σ) Q X:=by
 refine oS Fj ?_;intro φ p;refine(let o:FR:=_;(?_:pL _ o _))
 let g1:af aN×pq->St:=λ(z:af aN×pq)=>⟨[(S ".0", .no),(S "one", z.2)],σ⟩
 refine IV 0 (λz=>z.1.map .bool) g1 (λr z=>z.1.length+r.length<=4/\∀v∈r,GN d v) l ([],.no) ⟨by show 0+_<=_;exact qu .x (.n 4) (.a (.n 0) .x) (.n 4) rfl hl,hv⟩ (λv r z hI=>?_) (λz hI=>?_)<;>intro p
 ·refine(let A:FR:=_;(?_:pL _ A _))
  have h4:z.1.length+(r.length+1)<=4:=hI.1;refine oG (FE (σ:=σ) (q:=q) (hI.2 v az) x.hx λb=>?_)<;>intro p;refine oW 0 (qD (a:=z.1.map .bool) (v:=.bool b) (by rw[aK];exact pZ (.a .x (.a .y (.n 1))) (.n 4) (.a .x (.n 1)) (.n 1000) rfl h4)) ?_<;>intro p
  exact p9 (b:=true) (acc:=z.1.map .bool++[.bool b]) (Lr ((z.1++[b],.val v)) (rg (bw ..) rfl) rfl (by show(z.1++[b]).length+_<=_;rw[av,bA];exact pZ (.a .x (.a .y (.n 1))) (.n 4) (.a (.a .x (.n 1)) .y) (.n 4) rfl h4) (λw hw=>hI.2 w (aA _ hw)))
 ·refine p8 (Q9 (bs:=z.1)) λb hb=>?_;refine oW 1 hb ?_<;>intro p;exact oJ (oT rfl (C b))
theorem HW{h':Int}(hl:l.length<=4)(hv:∀v∈l,GN d v)(x:XO X σ)(z:∀b,Q (.bool b) σ):CW (oY wf (m+4) (S "called") [.str (S "forall"),.lst [rC 1 h' l],.int q] σ) Q X:=by
 refine oS xB ?_;intro φ p;refine oG (xR (σ:=σ) (q:=q) (n:=S "forall") (AP (lo:=1) (hi:=h') hv) ?_)<;>intro p;refine oG (u7 (σ:=σ) (q:=q) (lo:=1) (hi:=h') hv ?_)<;>intro p;refine oG (fold_all (σ:=σ) (q:=q) hl hv x.hx λb=>?_)<;>intro p;exact oJ (oT rfl (z b))
noncomputable abbrev GA:Str:=oU (S "gathered")
theorem N2{gs:af Gen}{wh:Wh}(hd:d<=6)(O:(gs.flatMap Gen.names).length<=2)(hs:Sc c n (pe gs (L++wh.asks)))(hn:n<=800)(ha:∀H,Sc H (n+2) L->VC wf (m+9) H a (GN d))(hp:σ[p]?=some c)(x:XO X σ)(T:∀v,GN (d+1) v->Q v σ):CW (oY wf (m+10) GA [.ev (.ptr p),N1 "gen" q (S "sum") gs wh a] σ) Q X:=by
 refine oS AA ?_;intro φ o;refine(let A:FR:=_;(?_:pL _ A _))
 have hx:∀t,XO (HX σ.length X) (σ++t):=x.ha;refine oG (yH (m:=m) (L:=L) O hs hn hp x.hx λps t h1 h2=>?_)<;>intro o
 let g1:af V×pq->St:=λ(b:af V×pq)=>⟨[(S "self", .val (.ev (.ptr p))),(S "node", .val (N1 "gen" q (S "sum") gs wh a)),(S "name", .val (msg "sum")),(S "spot", .val (.int q)),(S "found", .own b.1),(S "one", b.2)],σ++t⟩
 refine uY 0 V.ptr (λu_=>[]) g1 (λr b=>b.1.length+r.length<=4/\(∀v∈b.1,GN d v)/\∀p∈r,At (σ++t) (n+2) L p) ps ([],.no) (qB (by show 0+_<=_;exact qu .x (.n 4) (.a (.n 0) .x) (.n 4) rfl h1) ((λu_ h=>nomatch h)) h2) (λy r b hI=>?_) (λb hI=>?_)
 ·obtain⟨l,b⟩:=b;obtain⟨z,u2,u3⟩:=hI;refine o8 (u3 y az) λU u4 u5=>?_;have z:l.length+(r.length+1)<=4:=z;intro o;refine(let C:FR:=_;(?_:pL _ C _))
  refine oG (ha U u5 (σ++t) y u4 (hx t) λv hv=>?_)<;>intro o;refine zk (f:=sA (S "found") l (S "append") [v]) 0 (λs=>⟨oZ s.ρ (S "found") (.own (l++[v])),s.σ⟩) (ud (L:=l) (v:=v) (by exact pZ (.a .x (.a .y (.n 1))) (.n 4) .x (.n 1000) rfl z)) ?_<;>intro o
  exact p9 (b:=true) (acc:=[]) (zC ((l++[v],.val (.ptr y))) rfl rfl (by show(l++[v]).length+_<=_;rw[av,bA];exact pZ (.a .x (.a .y (.n 1))) (.n 4) (.a (.a .x (.n 1)) .y) (.n 4) rfl z) (λw hw=>(List.mem_append.mp hw).elim (u2 w) (λh=>(List.mem_singleton.mp h)▸hv)) (λp hp=>u3 p (aA _ hp)))
 ·obtain⟨l,_⟩:=b;refine y8 (hI) λz u2 u_=>?_;intro o;refine(let D:FR:=_;(?_:pL _ D _))
  refine oG (Dz (σ:=σ++t) (l:=l) (λv hv=>(u2 v hv).np) ?_)<;>intro o;refine oG (AQ (σ:=σ++t) (q:=q) (h':=l.length) hd z u2 (hx t) λi h0 h1=>?_)<;>intro o;exact oJ (wZ (t:=t) rfl (T _ (.int h0 (by rw[nb];exact Yl .x (.m 4 .y) .x (.a (.m 4 .y) (.n 2)) rfl h1))))
theorem N3{gs:af Gen}{wh:Wh}(T:(gs.flatMap Gen.names).length<=2)(hs:Sc c n (pe gs (L++wh.asks)))(hn:n<=800)(ha:∀H,Sc H (n+2) L->VC wf (m+9) H a (GN d))(hp:σ[p]?=some c)(x:XO X σ)(O:∀b,Q (.bool b) σ):CW (oY wf (m+10) GA [.ev (.ptr p),N1 "gen" q (S "forall") gs wh a] σ) Q X:=by
 refine oS AA ?_;intro φ o;refine(let A:FR:=_;(?_:pL _ A _))
 have hx:∀t,XO (HX σ.length X) (σ++t):=x.ha;refine oG (yH (m:=m) (L:=L) T hs hn hp x.hx λps t h1 h2=>?_)<;>intro o
 let g1:af V×pq->St:=λ(b:af V×pq)=>⟨[(S "self", .val (.ev (.ptr p))),(S "node", .val (N1 "gen" q (S "forall") gs wh a)),(S "name", .val (msg "forall")),(S "spot", .val (.int q)),(S "found", .own b.1),(S "one", b.2)],σ++t⟩
 refine uY 0 V.ptr (λu_=>[]) g1 (λr b=>b.1.length+r.length<=4/\(∀v∈b.1,GN d v)/\∀p∈r,At (σ++t) (n+2) L p) ps ([],.no) (qB (by show 0+_<=_;exact qu .x (.n 4) (.a (.n 0) .x) (.n 4) rfl h1) ((λu_ h=>nomatch h)) h2) (λy r b hI=>?_) (λb hI=>?_)
 ·obtain⟨l,b⟩:=b;obtain⟨z,u2,u3⟩:=hI;refine o8 (u3 y az) λU u4 u5=>?_;have z:l.length+(r.length+1)<=4:=z;intro o;refine(let C:FR:=_;(?_:pL _ C _))
  refine oG (ha U u5 (σ++t) y u4 (hx t) λv hv=>?_)<;>intro o;refine zk (f:=sA (S "found") l (S "append") [v]) 0 (λs=>⟨oZ s.ρ (S "found") (.own (l++[v])),s.σ⟩) (ud (L:=l) (v:=v) (by exact pZ (.a .x (.a .y (.n 1))) (.n 4) .x (.n 1000) rfl z)) ?_<;>intro o
  refine oW 2 (Q8 (l:=l) (v:=v)) ?_<;>intro o;refine oG (FE (σ:=σ++t) (q:=q) hv (hx t) λY=>?_)<;>intro o
  induction Y using aJ
  ·exact oJ (wZ (t:=t) rfl (O false))
  ·exact p9 (b:=true) (acc:=[]) (zC ((l++[v],.val (.ptr y))) rfl rfl (by show(l++[v]).length+_<=_;rw[av,bA];exact pZ (.a .x (.a .y (.n 1))) (.n 4) (.a (.a .x (.n 1)) .y) (.n 4) rfl z) (λw hw=>(List.mem_append.mp hw).elim (u2 w) (λh=>rg (List.mem_singleton.mp h) hv)) (λp hp=>u3 p (aA _ hp)))
 ·obtain⟨l,_⟩:=b;refine y8 (hI) λz u2 u_=>?_;intro o;refine(let D:FR:=_;(?_:pL _ D _))
  refine oG (Dz (σ:=σ++t) (l:=l) (λv hv=>(u2 v hv).np) ?_)<;>intro o;refine oG (HW (σ:=σ++t) (q:=q) (h':=l.length) z u2 (hx t) λb=>?_)<;>intro o;exact oJ (wZ (t:=t) rfl (O b))
theorem Cs{own:af Nm}(h:sr∈L):sr∈less L (vo own):=List.mem_filter.mpr ⟨h,AZ own⟩
theorem A4(h:sr∈L):∀o:af Item,sr∈pF o L
 |[]=>h
 |i::r=>by
  have ih:=A4 h r;cases i with
  |con _ t=>exact List.mem_append.mpr (.inl ih)
  |decl _ _ _ x _=>exact List.mem_append.mpr (.inl (List.mem_append.mpr (.inl (List.mem_append.mpr (.inl (Cs (own:=[x]) ih))))))
theorem Ct(h:sr∈L):∀gs:af Gen,sr∈pe gs L
 |[]=>h
 |g::r=>List.mem_append.mpr (.inl (Cs (Ct h r)))
theorem GN.le(h:GN d v)(hd:d<=d'):GN d' v:=by
 induction hd with
 |refl=>exact h
 |step _ ih=>exact ih.up
theorem SV.gn(h:SV v):GN 2 v:=by
 have hb:∀{i},I3 i->0<=i/\i<=nb 2:=λ{i} h=>by have:nb 2=42:=rfl;exact⟨(S6 h),(vf .x (.n 2) .x (.n 42) rfl (VD h))⟩
 cases h with
 |int h=>exact .int (hb h).1 (hb h).2
 |bool=>exact .bool
 |set hl h=>exact .set (aB hl (by decide)) λi hi=>hb (h i hi)
 |arr hl h=>exact .arr (aB hl (by decide)) λv hv=>(h v hv).gn
theorem xV{t:qe}(hs:Sc c n t.asks)(o:5<=M):VC wf M c t.toV G0:=by
 obtain⟨m,rfl⟩:∃m,M=m+5:=⟨M-5,sb o⟩;exact su hs.toScOk
theorem UN{t:Ec}(hs:Sc c n t.asks)(o:7<=M):VC wf M c t.toV QL:=by
 obtain⟨m,rfl⟩:∃m,M=m+7:=⟨M-7,sb o⟩;exact HN hs.toScOk
theorem Sc.lf{o:af Str}(h:Sc c n (L++o)):Sc c n L:=h.sub (λu_ h=>List.mem_append.mpr (.inl h)) (aL _)
theorem Sc.rt{o:af Str}(h:Sc c n (L++o)):Sc c n o:=h.sub (λu_ h=>List.mem_append.mpr (.inr h)) (aL _)
theorem QL.gn(h:QL v):GN d v:=h.elim λb e=>e▸.bool
theorem Ra:∀(T:sL){c:Cell} {n M:Nat},T.deep<=3->Sc c n T.asks->n+2*T.deep<=800->sr∉T.asks->12+12*T.deep<=M->VC wf M c T.toV (GN (1+T.deep)):=by
 intro T
 induction T with
 |leaf t =>
  intro c n M hd hs hn hb o;exact(xV hs (by exact pZ (.a (.n 12) (.m 12 .x)) .y (.n 5) .y rfl o)).imp λv h=>h.gn
 |bin q eq a t ih =>
  intro c n M hd hs hn hb o;have hd:a.deep+1<=3:=hd;have hn:n+2*(a.deep+1)<=800:=hn;have o:12+12*(a.deep+1)<=M:=o;obtain⟨m,rfl⟩:∃m,M=m+(1+a.deep)+5:=sb2 (pZ (.a (.n 12) (.m 12 (.a .x (.n 1)))) .y (.a (.a (.n 1) .x) (.n 5)) .y rfl o);have ha:=ih (M:=m+(1+a.deep)+3) (by exact qu (.a .x (.n 1)) (.n 3) .x (.n 3) rfl hd) hs.lf (by exact pZ (.a .x (.m 2 (.a .y (.n 1)))) (.n 800) (.a .x (.m 2 .y)) (.n 800) rfl hn) (λh=>hb (List.mem_append.mpr (.inl h))) (by exact pZ (.a (.n 12) (.m 12 (.a .x (.n 1)))) (.a (.a .y (.a (.n 1) .x)) (.n 5)) (.a (.n 12) (.m 12 .x)) (.a (.a .y (.a (.n 1) .x)) (.n 3)) rfl o)
  have ht:VC wf (m+(1+a.deep)+3) c t.toV (GN 1):=(xV hs.rt (by exact pZ (.a (.n 12) (.m 12 (.a .x (.n 1)))) (.a (.a .y (.a (.n 1) .x)) (.n 5)) (.n 5) (.a (.a .y (.a (.n 1) .x)) (.n 3)) rfl o)).imp λv h=>h.gn
  induction eq using aJ with
  |true=>exact(NP ha ht).imp λv h=>h.gn
  |false =>
   have:=xP (show 1<=1+a.deep by exact sO  (.n 1) (.a (.n 1) .x) rfl )
   exact(QM (m:=m+(1+a.deep)+1) (by exact qu (x:=a.deep) (.a .x (.n 1)) (.n 3) (.a (.n 1) .x) (.n 6) rfl hd) (by decide) ha ht).imp λv ⟨i,e,h0,h1⟩=>e▸.int h0 (by show i<=nb (1+(a.deep+1));rw[<-d6];exact R5 .y (.a .x (.n 10)) (.n 30) (.m 3 .x) .y (.a (.m 4 .x) (.n 2)) rfl h1 (eX this (by decide:(0:Int)<=3)))
 |index q t a ih =>
  intro c n M hd hs hn hb o;have hd:a.deep+1<=3:=hd;have hn:n+2*(a.deep+1)<=800:=hn;have o:12+12*(a.deep+1)<=M:=o;obtain⟨m,rfl⟩:∃m,M=m+4:=⟨M-4,by exact sb (pZ (.a (.n 12) (.m 12 (.a .x (.n 1)))) .y (.n 4) .y rfl o)⟩
  have ha:=ih (M:=m+1) (by exact qu (.a .x (.n 1)) (.n 3) .x (.n 3) rfl hd) hs.rt (by exact pZ (.a .x (.m 2 (.a .y (.n 1)))) (.n 800) (.a .x (.m 2 .y)) (.n 800) rfl hn) (λh=>hb (List.mem_append.mpr (.inr h))) (by exact pZ (.a (.n 12) (.m 12 (.a .x (.n 1)))) (.a .y (.n 4)) (.a (.n 12) (.m 12 .x)) (.a .y (.n 1)) rfl o)
  exact(NQ (by exact qu (.a .x (.n 1)) (.n 3) (.a (.n 1) .x) (.n 4) rfl hd) (xV hs.lf (by exact pZ (.a (.n 12) (.m 12 (.a .x (.n 1)))) (.a .y (.n 4)) (.n 5) (.a .y (.n 2)) rfl o)) ha).imp λv h=>h.gn.le (by show 2<=1+(a.deep+1);exact sO  (.n 2) (.a (.n 1) (.a .x (.n 1))) rfl )
 |cond q w a t ih =>
  intro c n M hd hs hn hb o;have hd:a.deep+1<=3:=hd;have hn:n+2*(a.deep+1)<=800:=hn;have o:12+12*(a.deep+1)<=M:=o;obtain⟨m,rfl⟩:∃m,M=m+3:=⟨M-3,by exact sb (pZ (.a (.n 12) (.m 12 (.a .x (.n 1)))) .y (.n 3) .y rfl o)⟩
  have ha:=ih (M:=m+1) (by exact qu (.a .x (.n 1)) (.n 3) .x (.n 3) rfl hd) hs.lf.rt (by exact pZ (.a .x (.m 2 (.a .y (.n 1)))) (.n 800) (.a .x (.m 2 .y)) (.n 800) rfl hn) (λh=>hb (List.mem_append.mpr (.inl (List.mem_append.mpr (.inr h))))) (by exact pZ (.a (.n 12) (.m 12 (.a .x (.n 1)))) (.a .y (.n 3)) (.a (.n 12) (.m 12 .x)) (.a .y (.n 1)) rfl o)
  exact XB (UN hs.lf.lf (by exact pZ (.a (.n 12) (.m 12 (.a .x (.n 1)))) (.a .y (.n 3)) (.n 7) (.a .y (.n 1)) rfl o)) (ha.imp λv h=>h.up) ((xV hs.rt (by exact pZ (.a (.n 12) (.m 12 (.a .x (.n 1)))) (.a .y (.n 3)) (.n 5) (.a .y (.n 1)) rfl o)).imp λv h=>h.gn.le (by show 1<=1+(a.deep+1);exact sO  (.n 1) (.a (.n 1) (.a .x (.n 1))) rfl )) (λv h=>h.np) (I8 t)
 |call q f q' a t ih =>
  intro c n M hd hs hn hb o;have hd:a.deep+1<=3:=hd;have hn:n+2*(a.deep+1)<=800:=hn;have o:12+12*(a.deep+1)<=M:=o;obtain⟨m,rfl⟩:∃m,M=m+6:=⟨M-6,by exact sb (pZ (.a (.n 12) (.m 12 (.a .x (.n 1)))) .y (.n 6) .y rfl o)⟩
  have ha:=ih (M:=m+1) (by exact qu (.a .x (.n 1)) (.n 3) .x (.n 3) rfl hd) hs.lf.lf (by exact pZ (.a .x (.m 2 (.a .y (.n 1)))) (.n 800) (.a .x (.m 2 .y)) (.n 800) rfl hn) (λh=>hb (List.mem_append.mpr (.inl (List.mem_append.mpr (.inl h))))) (by exact pZ (.a (.n 12) (.m 12 (.a .x (.n 1)))) (.a .y (.n 6)) (.a (.n 12) (.m 12 .x)) (.a .y (.n 1)) rfl o)
  have ht:VC wf (m+1) c t.toV (GN (1+a.deep)):=(xV hs.lf.rt (by exact pZ (.a (.n 12) (.m 12 (.a .x (.n 1)))) (.a .y (.n 6)) (.n 5) (.a .y (.n 1)) rfl o)).imp λv h=>h.gn.le (by exact sO  (.n 1) (.a (.n 1) .x) rfl )
  cases f with
  |sum=>exact(NR (by exact qu (x:=a.deep) (.a .x (.n 1)) (.n 3) (.a (.n 1) .x) (.n 6) rfl hd) ha ht).imp λv ⟨i,e,h0,h1⟩=>e▸.int h0 (by show i<=nb (1+(a.deep+1));rw[<-d6,nb];exact Yl .x (.m 4 .y) .x (.a (.m 4 .y) (.n 2)) rfl h1)
  |length=>exact(NS ha ht).imp λv e=>e▸.int (by decide) (Dy _)
  |p=>exact(hb (List.mem_append.mpr (.inr az))).elim
 |BI q items a ih =>
  intro c n M hd hs hn hb o;have hd:a.deep+1<=3:=hd;have hn:n+2*(a.deep+1)<=800:=hn;have o:12+12*(a.deep+1)<=M:=o;obtain⟨m,rfl⟩:∃m,M=m+10:=⟨M-10,by exact sb (pZ (.a (.n 12) (.m 12 (.a .x (.n 1)))) .y (.n 10) .y rfl o)⟩
  exact UD hs (by exact pZ (.a .x (.m 2 (.a .y (.n 1)))) (.n 800) .x (.n 800) rfl hn) (λD hc=>(ih (by exact qu (.a .x (.n 1)) (.n 3) .x (.n 3) rfl hd) hc (by exact pZ (.a .x (.m 2 (.a .y (.n 1)))) (.n 800) (.a (.a .x (.n 2)) (.m 2 .y)) (.n 800) rfl hn) (λh=>hb (A4 h _)) (by exact pZ (.a (.n 12) (.m 12 (.a .x (.n 1)))) (.a .y (.n 10)) (.a (.n 12) (.m 12 .x)) (.a .y (.n 8)) rfl o)).imp λv h=>h.up) (λv h=>h.np)
 |tX q H gens wh a ih =>
  intro c n M hd hs hn hb o;have hd:a.deep+1<=3:=hd;have hn:n+2*(a.deep+1)<=800:=hn;have o:12+12*(a.deep+1)<=M:=o;obtain⟨m,rfl⟩:∃m,M=m+11:=⟨M-11,by exact sb (pZ (.a (.n 12) (.m 12 (.a .x (.n 1)))) .y (.n 11) .y rfl o)⟩
  have ha:∀D,Sc D (n+2) a.asks->VC wf (m+9) D a.toV (GN (1+a.deep)):=λD hc=>ih (by exact qu (.a .x (.n 1)) (.n 3) .x (.n 3) rfl hd) hc (by exact pZ (.a .x (.m 2 (.a .y (.n 1)))) (.n 800) (.a (.a .x (.n 2)) (.m 2 .y)) (.n 800) rfl hn) (λh=>hb (List.mem_append.mpr (.inl (Ct (List.mem_append.mpr (.inl h)) _)))) (by exact pZ (.a (.n 12) (.m 12 (.a .x (.n 1)))) (.a .y (.n 11)) (.a (.n 12) (.m 12 .x)) (.a .y (.n 9)) rfl o)
  intro σ p Q X hp x z;cases H with
  |comp set =>
   refine oS pn ?_;intro φ A;refine oG (Q7 (q:=q) (set:=set) (by exact qu (x:=a.deep) (.a .x (.n 1)) (.n 3) (.a (.n 1) .x) (.n 6) rfl hd) gens.h.1 hs.lf (by exact pZ (.a .x (.m 2 .y)) (.n 800) .x (.n 800) rfl hn) ha hp x.hx λv hv=>?_)<;>intro A
   exact oJ (oT hv.np (z v hv))
  |sum =>
   refine(let C:Prop:=_;(?_:C))
   refine oS pn ?_;intro φ A;refine oG (N2 (q:=q) (by exact qu (x:=a.deep) (.a .x (.n 1)) (.n 3) (.a (.n 1) .x) (.n 6) rfl hd) gens.h.1 hs.lf (by exact pZ (.a .x (.m 2 .y)) (.n 800) .x (.n 800) rfl hn) ha hp x.hx λv hv=>?_)<;>intro A
   exact oJ (oT hv.np (z v hv))
  | «forall» =>
   refine(let C:Prop:=_;(?_:C))
   refine oS pn ?_;intro φ A;refine oG (N3 (q:=q) gens.h.1 hs.lf (by exact pZ (.a .x (.m 2 .y)) (.n 800) .x (.n 800) rfl hn) ha hp x.hx λb=>?_)<;>intro A
   exact oJ (oT rfl (z (.bool b) .bool))
  |p=>exact(hb (List.mem_append.mpr (.inr az))).elim
end
structure FI where
 f:cR->V
 pre:af Cell
 p:Nat
 hp:p<pre.length
noncomputable def FI.pi(F:FI):Nat->Nat
 |0=>F.p
 |i+1=>i+F.pre.length
section
variable(F:FI)
mutual
noncomputable def th:V->V
 |.typ n=>(match uZ (.typ n)with|true=>F.f n|false=>.typ n)
 |.tup l=>.tup (pN l)
 |.lst l=>.lst (pN l)
 |.ev v=>.ev (th v)
 |.wx w p=>.wx (th w) (th p)
 |.none=>.none
 |.bool b=>.bool b
 |.int i=>.int i
 |.str s=>.str s
 |.ptr i=>.ptr (F.pi i)
 |.we a b=>.we a b
 |.rO l=>.rO l
noncomputable def pN:af V->af V
 |[]=>[]
 |v::r=>th v::pN r
end
theorem pX:∀l:af V,pN F l=l.map (th F)
 |[]=>rfl
 |v::r=>aD (th F v::·) (pX r)
noncomputable def Fills:Prop:=∀n,(F.f n).oQ=true
mutual
theorem vO(o:Fills F):∀v:V,(th F v).oQ=v.oQ
 |.typ n=>by
  show(match uZ (.typ n)with|true=>F.f n|false=>.typ n).oQ=true
  cases uZ (.typ n)
  ·rfl
  ·exact o n
 |.tup l=>HY o l
 |.lst l=>HY o l
 |.ev v=>vO o v
 |.wx w p=>by show(_&&_)=(_&&_);rw[vO o w,vO o p]
 |.none|.bool _|.int _|.str _|.ptr _|.we _ _|.rO _=>rfl
theorem HY(o:Fills F):∀l:af V,V.qS (pN F l)=V.qS l
 |[]=>rfl
 |v::r=>by show(_&&_)=(_&&_);rw[vO o v,HY o r]
end
mutual
theorem FX:∀(v:V)(y:gy),v.toPy=some y->th F v=v
 |.tup l,y,h=>by
  obtain⟨ys,e,_⟩:=Option.map_eq_some_iff.mp (show(V.qv l).map jO=some y from h);show V.tup (pN F l)=_;rw[DK l ys e]
 |.lst l,y,h=>by
  obtain⟨ys,e,_⟩:=Option.map_eq_some_iff.mp (show(V.qv l).map d5=some y from h);show V.lst (pN F l)=_;rw[DK l ys e]
 |.typ _,y,h|.ev _,y,h|.wx _ _,y,h=>(nS h).elim
 |.ptr _,y,h=>(nS h).elim
 |.none,_,_|.bool _,_,_|.int _,_,_|.str _,_,_|.we _ _,_,_|.rO _,_,_=>rfl
theorem DK:∀(l:af V)(ys:af gy),V.qv l=some ys->pN F l=l
 |[],_,_=>rfl
 |v::r,ys,h=>by
  refine yf h λy o e e2 u_=>?_;show th F v::pN F r=_;rw[FX v y e,DK r o e2]
end
theorem FY:∀(l:af V)(ns:af Int),q7 l=some ns->pN F l=l:=by
 intro l
 induction l with
 |nil=>intro _ _;rfl
 |cons v r ih =>
  intro ns h;cases v using V.casesOn with
  |int i=>exact aD (V.int i::·) ((Option.map_eq_some_iff.mp h).elim λo e=>ih o e.1)
  |_=>exact(nS h).elim
end
section
variable(F:FI)
noncomputable def Lp:pq->pq
 |.val v=>.val (th F v)
 |.own l=>.own (pN F l)
 |.no=>.no
noncomputable def xa(ρ:af (Str×pq)):af (Str×pq):=ρ.map λp=>(p.1,Lp F p.2)
noncomputable def uI(c:Cell):Cell:=c.map λp=>(p.1,th F p.2)
noncomputable def tC:af Cell->af Cell
 |[]=>[]
 |c::r=>F.pre.set F.p (uI F c)++r.map (uI F)
noncomputable def qR(s:St):St:=⟨xa F s.ρ,tC F s.σ⟩
noncomputable def RR{α:Type}(g:α->α)(r o:R α):Prop:=match r with
 |.ok a s=>b7 s.σ.length/\o=.ok (g a) (qR F s)
 |.rQ w p σ=>b7 σ.length/\o=.rQ (th F w) (th F p) (tC F σ)
 |.stuck=>fh
noncomputable def RF{α:Type}(g:α->α)(f o:St->R α):Prop:=∀(s:St) [b7 s.σ.length],RR F g (f s) (o (qR F s))
variable{F:FI}
theorem zz:∀{σ:af Cell} {i:Nat},(tC F σ)[F.pi i]?=(σ[i]?).map (uI F)
 |[],_=>rfl
 |c::r,0=>by
  refine(?_:(F.pre.set F.p (uI F c)++r.map (uI F))[F.p]?=some (uI F c));exact rg (bW (rg (cG ..) F.hp)) (rg (j5 F.hp) rfl)
 |c::r,i+1=>by
  refine(?_:(F.pre.set F.p (uI F c)++r.map (uI F))[i+F.pre.length]?=(r[i]?).map (uI F));exact rg (df (rg (cG ..) (cq ..))) (rg (cG ..) (rg (fH ..) (rg (ei) rfl)))
theorem UO{x:Cell}:∀{σ:af Cell} {i:Nat},tC F (σ.set i x)=(tC F σ).set (F.pi i) (uI F x)
 |[],_=>rfl
 |c::r,0=>by
  refine(?_:F.pre.set F.p (uI F x)++r.map (uI F)=(F.pre.set F.p (uI F c)++r.map (uI F)).set F.p (uI F x));exact rg (List.set_append_left _ _ (rg (cG ..) F.hp)) (rg (List.set_set ..) rfl)
 |c::r,i+1=>by
  refine(?_:F.pre.set F.p (uI F c)++(r.set i x).map (uI F)=(F.pre.set F.p (uI F c)++r.map (uI F)).set (i+F.pre.length) (uI F x));exact rg (kz _ _ (rg (cG ..) (cq ..))) (rg (cG ..) (rg (fH ..) (rg (List.map_set ..) rfl)))
theorem UP{x:Cell}:∀{σ:af Cell} [b7 σ.length],tC F (σ++[x])=tC F σ++[uI F x]
 |[],h=>(h.out rfl).elim
 |c::r,_=>by
  refine(?_:_++(r++[x]).map (uI F)=(_++r.map (uI F))++_);simp only[bw,a8];rfl
theorem N4:∀{σ:af Cell} [b7 σ.length],(tC F σ).length=F.pi σ.length
 |[],h=>(h.out rfl).elim
 |c::r,_=>by
  refine(?_:(F.pre.set F.p (uI F c)++r.map (uI F)).length=r.length+F.pre.length);simp only[av,cG,aK,kx]
theorem Jd{n:Nat}[h:b7 n]:∀{σ:af Cell},(tC F σ).take (F.pi n)=tC F (σ.take n)
 |[]=>by rw[m7];exact m7
 |c::r=>by
  cases n with
  |zero=>exact(h.out rfl).elim
  |succ n =>
   refine(?_:(F.pre.set F.p (uI F c)++r.map (uI F)).take (n+F.pre.length)=F.pre.set F.p (uI F c)++(r.take n).map (uI F));exact rg List.take_append (rg (cJ (rg (cG ..) (cq ..))) (rg (cG ..) (rg (fH ..) (rg (jP ..) rfl))))
section
variable{α β:Type}{g:α->α}{h:β->β}{s:St}
theorem RR.ok{a:α}[e:b7 s.σ.length]:RR F g (.ok a s) (.ok (g a) (qR F s)):=⟨e,rfl⟩
theorem RR.bind{r o:R α}{f y:α->St->R β}(h1:RR F g r o)(h2:∀a (s:St) [b7 s.σ.length],RR F h (f a s) (y (g a) (qR F s))):RR F h (r.bind f) (o.bind y):=by
 induction r using R.casesOn with
 |ok a s=>obtain⟨_,h1⟩:=h1;subst h1;exact h2 a s
 |rQ=>obtain⟨e,h1⟩:=h1;subst h1;exact⟨e,rfl⟩
 |stuck=>trivial
theorem RR.ite{P:Prop}[fR P]{r o q q':R α}(h:RR F g r o)(h':RR F g q q'):RR F g (if P then r else q) (if P then o else q'):=by
 by_cases e:P
 ·exact rg (aO e) (rg (aO e) h)
 ·exact rg (aT e) (rg (aT e) h')
theorem RR.opt[b7 s.σ.length]{o y:au α}(e:o=none\/y=o.map g):RR F g (R.opt o s) (R.opt y (qR F s)):=by
 rcases e with rfl|rfl
 ·trivial
 ·induction o using cT
  ·trivial
  ·exact RR.ok
theorem RR.UQ[b7 s.σ.length]{o y:au β}{f:β->α}(e:o=none\/y=o)(hf:∀a,g (f a)=f a):RR F g (R.opt (o.map f) s) (R.opt (y.map f) (qR F s)):=by
 rcases e with e|e
 ·refine rg (e ..) ?_;trivial
 ·refine rg (e ..) ?_
  induction o using cT with
  |none=>trivial
  |some a=>show RR F g (.ok (f a) s) (.ok (f a) (qR F s));simp only[show R.ok (f a) (qR F s)=R.ok (g (f a)) (qR F s)from by rw[hf]];exact RR.ok
end
theorem qY(l:af V):(pN F l).length=l.length:=rg (pX ..) (rg (aK ..) rfl)
theorem wa(l l':af V):pN F (l++l')=pN F l++pN F l':=rg (pX ..) (rg (pX ..) (rg (pX ..) (rg (bw ..) rfl)))
theorem DL(l:af V):RF F (th F) (vg l) (vg (pN F l)):=λs u_=>by
 unfold vg;exact rg (qY ..) (RR.ite RR.ok trivial)
theorem Je(l:af V):RF F (th F) (wg l) (wg (pN F l)):=λs u_=>by
 unfold wg;exact rg (qY ..) (RR.ite RR.ok trivial)
theorem SN{a b:V}:vt a b=none\/vt (th F a) (th F b)=vt a b:=by
 cases e:a.toPy with
 |none=>exact .inl (by unfold vt;rw[e])
 |some x =>
  cases e2:b.toPy with
  |none=>exact .inl (by unfold vt;rw[e,e2])
  |some y=>exact rg (FX F a x e) (rg (FX F b y e2) (.inr rfl))
theorem SO{x:V}{l:af V}:zc x l=none\/zc (th F x) (pN F l)=zc x l:=by
 cases e:x.toPy with
 |none=>exact .inl (by unfold zc;rw[e])
 |some y =>
  cases e2:V.qv l with
  |none=>exact .inl (by unfold zc;rw[e,e2])
  |some ys=>exact rg (FX F x y e) (rg (DK F l ys e2) (.inr rfl))
theorem xW{β o:Type}{k:Str}{g:β->o}:∀c:af (Str×β),(c.map λp=>(p.1,g p.2)).lookup k=(c.lookup k).map g
 |[]=>rfl
 |(y,v)::r=>by
  show(match k==y with|true=>some (g v)|false=>(r.map λp=>(p.1,g p.2)).lookup k)=(match k==y with|true=>some v|false=>r.lookup k).map g
  cases k==y
  ·exact xW r
  ·rfl
theorem Jf{k:Str}(c:Cell):(uI F c).lookup k=(c.lookup k).map (th F):=xW c
theorem Jg{x c:V}{σ:af Cell}:wy x c σ=none\/wy (th F x) (th F c) (tC F σ)=wy x c σ:=by
 cases c using V.casesOn with
 |tup l=>exact SO
 |lst l=>exact SO
 |ptr i =>
  cases x using V.casesOn with
  |str k =>
   have e:∀(i:Nat)(σ:af Cell),wy (.str k) (.ptr i) σ=(σ[i]?).map λc=>(c.lookup k).isSome:=λi σ=>by
    unfold wy;dsimp only;cases σ[i]?<;>rfl
   have e2:wy (th F (.str k)) (th F (.ptr i)) (tC F σ)=wy (.str k) (.ptr (F.pi i)) (tC F σ):=rfl;simp only[e2,e,e,zz];cases σ[i]? with
   |none=>exact .inl rfl
   |some c=>refine .inr ?_;show some (gM k (uI F c)).isSome=_;simp only[Jf,Option.isSome_map];rfl
  |_=>exact .inl rfl
 |_=>exact .inl rfl
theorem UR(l:af V):∀l':af V,rR l l'=none\/rR (pN F l) (pN F l')=rR l l':=by
 induction l with
 |nil =>
  intro l';cases l' with
  |nil=>exact .inr rfl
  |cons w t=>cases w using V.casesOn with
   |int=>exact .inr rfl
   |_=>exact .inl rfl
 |cons v r ih =>
  intro l';cases v using V.casesOn with
  |int a =>
   cases l' with
   |nil=>exact .inr rfl
   |cons w t=>cases w using V.casesOn with
    |int b =>
     refine(?_:(if a=b then rR r t else some (decide (a<b)))=none\/(if a=b then rR (pN F r) (pN F t)else some (decide (a<b)))=if a=b then rR r t else some (decide (a<b)))
     by_cases h:a=b
     ·exact rg (aO h) (rg (aO h) (ih t))
     ·exact .inr (rg (aT h) (rg (aT h) rfl))
    |_=>exact .inl rfl
  |_=>exact .inl (by induction l' using bN<;>rfl)
theorem XI{a b:V}:JD a b=none\/JD (th F a) (th F b)=JD a b:=by
 cases a using V.casesOn with
 |int=>cases b using V.casesOn with
  |int|bool=>exact .inr rfl
  |_=>exact .inl rfl
 |bool=>cases b using V.casesOn with
  |int|bool=>exact .inr rfl
  |_=>exact .inl rfl
 |tup l=>cases b using V.casesOn with
  |tup l'=>exact UR l l'
  |_=>exact .inl rfl
 |_=>exact .inl rfl
theorem XJ{a b:V}:Pm a b=none\/Pm (th F a) (th F b)=Pm a b:=by
 cases a using V.casesOn with
 |int=>cases b using V.casesOn with
  |int=>exact .inr rfl
  |_=>exact .inl rfl
 |_=>exact .inl rfl
theorem SP{a:V}:isNone a=none\/isNone (th F a)=isNone a:=by
 cases a using V.casesOn with
 |we|rO|typ=>exact .inl rfl
 |_=>exact .inr rfl
theorem HZ{α β:Type}{o y:au α}{f:α->β}(h:o=none\/y=o):o.map f=none\/y.map f=o.map f:=h.imp (λe=>aD _ (e)) λe=>by exact rg (e ..) rfl
theorem N5(op:fv){a b:V}{σ:af Cell}:sX op a b σ=none\/sX op (th F a) (th F b) (tC F σ)=sX op a b σ:=by
 cases op with
 |Eq=>exact SN
 |NotEq=>exact HZ SN
 |Lt=>exact XI
 |LtE=>exact XJ
 |In=>exact Jg
 |NotIn=>exact HZ Jg
 |Is=>cases b using V.casesOn with
  |none=>exact SP
  |_=>exact .inl rfl
 |IsNot=>cases b using V.casesOn with
  |none=>exact HZ SP
  |_=>exact .inl rfl
 |Gt|GtE=>cases a using V.casesOn with
  |int=>cases b using V.casesOn with
   |int=>exact .inr rfl
   |_=>exact .inl rfl
  |_=>exact .inl rfl
theorem Rb(op:fv)(a b:V):RF F (th F) (td op a b) (td op (th F a) (th F b)):=λs u_=>RR.UQ (N5 op) λu_=>rfl
theorem Rc(l:af V)(i:Int):itemAt (pN F l) i=(itemAt l i).map (th F):=by
 unfold itemAt;refine rg (qY ..) ?_;refine rg (pX ..) ?_;by_cases h:0<=i
 ·exact rg (aO h) (rg (aO h) (rg (ei) rfl))
 ·refine rg (aT h) ?_;refine rg (aT h) ?_;by_cases h:-(l.length:Int)<=i
  ·exact rg (aO h) (rg (aO h) (rg (ei) rfl))
  ·refine rg (aT h) ?_;refine rg (aT h) ?_;rfl
theorem Jh(o i:V):RF F (th F) (pW o i) (pW (th F o) (th F i)):=λs u_=>by
 cases o using V.casesOn with
 |tup l|lst l=>cases i using V.casesOn with
  |int k=>exact RR.opt (.inr (Rc l k))
  |_=>trivial
 |ptr n=>cases i using V.casesOn with
  |str k =>
   refine(?_:RR F (th F) (match s.σ[n]? with|some c=>R.opt (c.lookup k) s|none=>.stuck) (match(tC F s.σ)[F.pi n]? with|some c=>R.opt (c.lookup k) (qR F s)|none=>.stuck))
   refine(zz).symm▸?_;cases s.σ[n]? with
   |none=>trivial
   |some c=>exact RR.opt (.inr (Jf c))
  |_=>trivial
 |_=>induction i using V.casesOn<;>trivial
theorem Rd(a b:V):RF F (th F) (Ee a b) (Ee (th F a) (th F b)):=λs u_=>by
 cases a using V.casesOn with
 |int=>cases b using V.casesOn with
  |int=>exact RR.ok
  |_=>trivial
 |tup l=>cases b using V.casesOn with
  |tup l'=>show RR F _ (vg (l++l') s) (vg (pN F l++pN F l') (qR F s));exact rl (wa ..) (DL _ s)
  |_=>trivial
 |lst l=>cases b using V.casesOn with
  |lst l'=>show RR F _ (wg (l++l') s) (wg (pN F l++pN F l') (qR F s));exact rl (wa ..) (Je _ s)
  |_=>trivial
 |_=>trivial
theorem N6(l:af V):∀n,wd (pN F l) n=pN F (wd l n)
 |0=>rfl
 |n+1=>by rw[BO,BO,wa,N6 l n]
theorem Rf(a b:V):RF F (th F) (Ef a b) (Ef (th F a) (th F b)):=λs u_=>by
 cases a using V.casesOn with
 |int=>cases b using V.casesOn with
  |int=>exact RR.ite RR.ok trivial
  |_=>trivial
 |lst l=>cases b using V.casesOn with
  |int n=>show RR F _ (if 0<=n/\n<=8/\l.length<=100 then R.ok (V.lst (wd l n.toNat)) s else .stuck) (if 0<=n/\n<=8/\(pN F l).length<=100 then R.ok (V.lst (wd (pN F l) n.toNat)) (qR F s)else .stuck);simp only[qY,N6];exact RR.ite RR.ok trivial
  |_=>trivial
 |_=>trivial
theorem Rg(op:fu)(a b:Int):RF F (th F) (intOp op a b) (intOp op a b):=λs u_=>by
 induction op using fk with
 |Sub=>exact RR.ok
 |FloorDiv|Pow=>exact RR.ite RR.ok trivial
 |Mod=>exact RR.ite trivial RR.ok
 |_=>trivial
theorem Rh(op:fu)(a b:V):RF F (th F) (sy op a b) (sy op (th F a) (th F b)):=λs u_=>by
 have h:RR F (th F) (match a,b with|.int a,.int b=>intOp op a b s|_,_=>.stuck) (match th F a,th F b with|.int a,.int b=>intOp op a b (qR F s)|_,_=>.stuck):=by
  cases a using V.casesOn with
  |int x=>cases b using V.casesOn with
   |int y=>exact Rg op x y s
   |_=>trivial
  |_=>trivial
 induction op using fk with
 |Add=>exact Rd a b s
 |Mult=>exact Rf a b s
 |_=>exact h
theorem US(op:nu)(v:V):RF F (th F) (Lw op v) (Lw op (th F v)):=λs u_=>by
 cases op with
 |Not=>cases v using V.casesOn with
  |bool=>exact RR.ok
  |_=>trivial
 |USub=>cases v using V.casesOn with
  |int=>exact RR.ok
  |_=>trivial
 |_=>trivial
theorem N7(o:V)(a:Str):RF F (th F) (wz o a) (wz (th F o) a):=λs u_=>by
 cases o using V.casesOn with
 |ev v=>exact RR.ite RR.ok trivial
 |wx w p=>exact RR.ite RR.ok (RR.ite RR.ok trivial)
 |_=>trivial
theorem FZ(l:af V)(n:Nat):pN F (l.take n)=(pN F l).take n:=rg (pX ..) (rg (pX ..) (rg (jP ..) rfl))
theorem N8(l:af V)(n:Nat):pN F (l.drop n)=(pN F l).drop n:=rg (pX ..) (rg (pX ..) (rg (List.map_drop ..) rfl))
theorem KQ(o:V)(a b:Nat):RF F (th F) (sP o a b) (sP (th F o) a b):=λs u_=>by
 cases o using V.casesOn with
 |tup l =>
  refine(?_:RR F _ (if 1<=a/\a<=b/\b<=l.length then R.ok (V.tup ((l.drop a).take (b-a))) s else .stuck) (if 1<=a/\a<=b/\b<=(pN F l).length then R.ok (V.tup (((pN F l).drop a).take (b-a))) (qR F s)else .stuck))
  exact rg (qY ..) (rl (N8 ..) (rl (FZ ..) (RR.ite RR.ok trivial)))
 |lst l =>
  refine(?_:RR F _ (if a=0 then R.ok (V.lst (l.take b)) s else .stuck) (if a=0 then R.ok (V.lst ((pN F l).take b)) (qR F s)else .stuck))
  exact rl (FZ ..) (RR.ite RR.ok trivial)
 |_=>trivial
theorem UT(v:V):vu v=none\/vu (th F v)=vu v:=by
 cases v using V.casesOn with
 |str|int=>exact .inr rfl
 |_=>exact .inl rfl
theorem Ji(v:V):RF F (th F) (R.opt ((vu v).map .str)) (R.opt ((vu (th F v)).map .str)):=λs u_=>RR.UQ (UT v) λu_=>rfl
theorem N9{k:Str}{v:V}:∀c:Cell,uI F (pv c k v)=pv (uI F c) k (th F v)
 |[]=>rfl
 |(y,w)::r=>by
  show uI F (if y==k then(y,v)::r else(y,w)::pv r k v)=if y==k then(y,th F v)::uI F r else(y,th F w)::pv (uI F r) k (th F v)
  by_cases h:(y==k)=true
  ·rw[aO h,aO h];rfl
  ·rw[aT h,aT h,<-N9 r];rfl
theorem Oa(o:Fills F):∀c:Cell,(uI F c).all (λp=>p.2.oQ)=c.all λp=>p.2.oQ
 |[]=>rfl
 |(y,w)::r=>by show((th F w).oQ&&_)=(w.oQ&&_);rw[vO F o,<-Oa o r];rfl
theorem Jj(c:Cell):(uI F c).length=c.length:=aK ..
theorem Jk(o:Fills F)(c:Cell):RF F (th F) (rk c) (rk (uI F c)):=λs u_=>by
 unfold rk;simp only[Oa o,Jj];refine RR.ite ⟨⟨by rw[av];exact iQ _⟩,?_⟩ trivial
 show R.ok (V.ptr (tC F s.σ).length) (St.mk _ _)=R.ok (V.ptr (F.pi s.σ.length)) (St.mk _ (tC F _));simp only[UP,N4];rfl
theorem DM{k:Str}{b:pq}:∀ρ:af (Str×pq),xa F (oZ ρ k b)=oZ (xa F ρ) k (Lp F b)
 |[]=>rfl
 |(y,w)::r=>by
  show xa F (if y==k then(y,b)::r else(y,w)::oZ r k b)=if y==k then(y,Lp F b)::xa F r else(y,Lp F w)::oZ (xa F r) k (Lp F b)
  by_cases h:(y==k)=true
  ·rw[aO h,aO h];rfl
  ·rw[aT h,aT h,<-DM r];rfl
theorem RR.env{α:Type}{g:α->α}{a:α}{s:St}{x:Str}{b:pq}[b7 s.σ.length]:RR F g (.ok a ⟨oZ s.ρ x b,s.σ⟩) (.ok (g a) ⟨oZ (xa F s.ρ) x (Lp F b),tC F s.σ⟩):=by
 exact rl (DM ..) (RR.ok (s:=⟨oZ s.ρ x b,s.σ⟩))
theorem Ri(x:Str)(l:af V)(m:Str)(vs:af V):RF F (th F) (sA x l m vs) (sA x (pN F l) m (pN F vs)):=λs u_=>by
 refine RR.ite ?_ (RR.ite ?_ ?_)
 ·cases vs with
  |nil=>trivial
  |cons v r=>cases r with
   |cons _ _=>trivial
   |nil =>
    refine(?_:RR F _ (if l.length<qf then R.ok V.none (St.mk (oZ s.ρ x (.own (l++[v]))) s.σ)else .stuck) (if(pN F l).length<qf then R.ok V.none (St.mk (oZ (qR F s).ρ x (.own (pN F l++[th F v]))) (qR F s).σ)else .stuck))
    refine rg (qY ..) ?_;refine rg (show pN F l++[th F v]=pN F (l++[v])from(wa l [v]).symm) ?_;exact RR.ite RR.env trivial
 ·cases vs with
  |nil=>trivial
  |cons v r=>cases r with
   |cons _ _=>trivial
   |nil =>
    cases v using V.casesOn with
    |lst k =>
     refine(?_:RR F _ (if l.length+k.length<=qf then R.ok V.none (St.mk (oZ s.ρ x (.own (l++k))) s.σ)else .stuck) (if(pN F l).length+(pN F k).length<=qf then R.ok V.none (St.mk (oZ (qR F s).ρ x (.own (pN F l++pN F k))) (qR F s).σ)else .stuck))
     refine rg (qY ..) ?_;refine rg (qY ..) ?_;refine rl (wa ..) ?_;exact RR.ite RR.env trivial
    |_=>trivial
 ·cases vs with
  |cons _ _=>trivial
  |nil =>
   have e:(pN F l).getLast?=(l.getLast?).map (th F):=rg (pX ..) (rg (List.getLast?_map) rfl);have e2:(pN F l).dropLast=pN F l.dropLast:=rg (pX ..) (rg (pX ..) (rg (List.map_dropLast ..) rfl));refine(?_:RR F _ (vv l.getLast? λv=>R.ok v (St.mk (oZ s.ρ x (.own l.dropLast)) s.σ)) (vv (pN F l).getLast? λv=>R.ok v (St.mk (oZ (qR F s).ρ x (.own (pN F l).dropLast)) (qR F s).σ)));refine rg (e) ?_;refine rg (e2) ?_;cases l.getLast? with
   |none=>trivial
   |some v=>exact RR.env
end
section
variable{F:FI}
theorem F4(v:V):truthy v=none\/truthy (th F v)=truthy v:=by
 cases v using V.casesOn with
 |bool=>exact .inr rfl
 |_=>exact .inl rfl
theorem Ob(a b:Int):pN F (qG a b)=qG a b:=by
 unfold qG;simp only[pX,dE];rfl
theorem A5(v:V):pR v=none\/pR (th F v)=(pR v).map (pN F):=by
 cases v using V.casesOn with
 |tup|lst=>exact .inr rfl
 |we a b=>exact .inr (aD some (Ob a b).symm)
 |_=>exact .inl rfl
theorem Rj(v:V)(T:cR):Gw v T=none\/Gw (th F v) T=Gw v T:=by
 cases v using V.casesOn with
 |typ=>exact .inl (ite_self _)
 |_=>exact .inr rfl
theorem tT{f:af V->St->R V}{s:St}(h0:f [] s=.stuck)(h2:∀a b r,f (a::b::r) s=.stuck)(h1:∀v,RR F (th F) (f [v] s) (f [th F v] (qR F s)))(vs:af V):RR F (th F) (f vs s) (f (pN F vs) (qR F s)):=match vs with
 |[]=>by rw[h0];trivial
 |[v]=>h1 v
 |a::b::r=>by rw[h2];trivial
theorem DN{f:af V->St->R V}{s:St}(h0:f [] s=.stuck)(o:∀a b c r,f (a::b::c::r) s=.stuck)(h1:∀v,RR F (th F) (f [v] s) (f [th F v] (qR F s)))(h2:∀v w,RR F (th F) (f [v,w] s) (f [th F v,th F w] (qR F s)))(vs:af V):RR F (th F) (f vs s) (f (pN F vs) (qR F s)):=match vs with
 |[]=>by rw[h0];trivial
 |[v]=>h1 v
 |[v,w]=>h2 v w
 |a::b::c::r=>by rw[o];trivial
theorem UU{s:St}[b7 s.σ.length]:∀(vs:af V),RR F (th F) (BQ vs s) (BQ (pN F vs) (qR F s)) :=
 tT (f:=BQ) rfl (λu_ u_ u_=>rfl) λv=>by cases v using V.casesOn<;>first|trivial|exact RR.ok
theorem UW{s:St}[b7 s.σ.length]:∀(vs:af V),RR F (th F) (BP vs s) (BP (pN F vs) (qR F s)) :=
 tT (f:=BP) rfl (λu_ u_ u_=>rfl) λv=>by
  cases v using V.casesOn with
  |tup l|lst l=>show RR F (th F) (R.ok (V.int l.length) s) (R.ok (V.int (pN F l).length) (qR F s));exact rg (qY ..) RR.ok
  |_=>trivial
theorem BK{s:St}[b7 s.σ.length]:∀(vs:af V),RR F (th F) (rm vs s) (rm (pN F vs) (qR F s)) :=
 DN (f:=rm) rfl (λu_ u_ u_ u_=>rfl) (λv=>trivial) λv w=>by
  cases w using V.casesOn with
  |typ T =>
   refine(?_:RR F (th F) (R.opt ((Gw v T).map .bool) s) _);cases e:qM.contains T with
   |false=>refine rg (show Gw v T=none from aT (by rw[e];decide)) ?_;trivial
   |true =>
    have e2:th F (.typ T)=.typ T:=by
     show(match !qM.contains T with|true=>F.f T|false=>V.typ T)=_
     refine rg (e) ?_;rfl
    refine rg (e2) ?_;exact RR.UQ (Rj v T) λu_=>rfl
  |_=>trivial
theorem Rk{s:St}[b7 s.σ.length]:∀(vs:af V),RR F (th F) (yg vs s) (yg (pN F vs) (qR F s)) :=
 tT (f:=yg) rfl (λu_ u_ u_=>rfl) λv=>by cases v using V.casesOn<;>first|trivial|exact RR.ok
theorem Oc{s:St}[b7 s.σ.length]:∀(vs:af V),RR F (th F) (vT vs s) (vT (pN F vs) (qR F s)) :=
 tT (f:=vT) rfl (λu_ u_ u_=>rfl) λv=>by
  cases v using V.casesOn with
  |lst=>exact RR.ok
  |we a b =>
   have:=DL (F:=F) (qG a b) s;rw[Ob]at this;exact this
  |_=>trivial
theorem Od{s:St}[b7 s.σ.length]:∀(vs:af V),RR F (th F) (uM vs s) (uM (pN F vs) (qR F s)) :=
 DN (f:=uM) rfl (λu_ u_ u_ u_=>rfl) (λv=>by
  cases v using V.casesOn with
  |int=>exact RR.ite RR.ok trivial
  |_=>trivial) λv w=>by
  cases v using V.casesOn with
  |int=>cases w using V.casesOn with
   |int=>exact RR.ite RR.ok trivial
   |_=>trivial
  |_=>trivial
theorem UX{s:St}[b7 s.σ.length]:∀(vs:af V),RR F (th F) (zG vs s) (zG (pN F vs) (qR F s)) :=
 tT (f:=zG) rfl (λu_ u_ u_=>rfl) λv=>by
  cases v using V.casesOn with
  |lst l =>
   refine(?_:RR F (th F) (vv (q7 l) λns=>R.ok (V.int ns.sum) s) (vv (q7 (pN F l)) λns=>R.ok (V.int ns.sum) (qR F s)));cases e:q7 l with
   |none=>trivial
   |some ns=>simp only[FY F l ns e,e];exact RR.ok
  |_=>trivial
theorem UY{s:St}[b7 s.σ.length]:∀(vs:af V),RR F (th F) (BR vs s) (BR (pN F vs) (qR F s)) :=
 DN (f:=BR) rfl (λu_ u_ u_ u_=>rfl) (λv=>by cases v using V.casesOn<;>trivial) λv w=>by
  cases v using V.casesOn with
  |int=>cases w using V.casesOn<;>first|trivial|exact RR.ok
  |_=>trivial
theorem UZ{s:St}[b7 s.σ.length]:∀(vs:af V),RR F (th F) (BS vs s) (BS (pN F vs) (qR F s)) :=
 tT (f:=BS) rfl (λu_ u_ u_=>rfl) λv=>by cases v using V.casesOn<;>first|trivial|exact RR.ok
theorem U0{s:St}[b7 s.σ.length]:∀(vs:af V),RR F (th F) (BV vs s) (BV (pN F vs) (qR F s)) :=
 tT (f:=BV) rfl (λu_ u_ u_=>rfl) λv=>by
  cases v using V.casesOn with
  |int i=>exact Ji (F:=F) (.int i) s
  |_=>trivial
theorem U1{s:St}[b7 s.σ.length]:∀(vs:af V),RR F (th F) (zH vs s) (zH (pN F vs) (qR F s)) :=
 tT (f:=zH) rfl (λu_ u_ u_=>rfl) λv=>by
  cases v using V.casesOn with
  |lst l =>
   refine(?_:RR F (th F) (vv (q7 l) λns=>if l.length<=4 then R.ok (V.rO (qj ns)) s else .stuck) (vv (q7 (pN F l)) λns=>if(pN F l).length<=4 then R.ok (V.rO (qj ns)) (qR F s)else .stuck))
   cases e:q7 l with
   |none=>trivial
   |some ns=>refine rg (FY F l ns e) ?_;refine rg (e) ?_;exact RR.ite RR.ok trivial
  |_=>trivial
theorem KR{s:St}[b7 s.σ.length]:∀(vs:af V),RR F (th F) (tL vs s) (tL (pN F vs) (qR F s)) :=
 tT (f:=tL) rfl (λu_ u_ u_=>rfl) λv=>by
  cases v using V.casesOn with
  |rO l =>
   refine RR.ite ?_ trivial
   have e:R.ok (V.lst (l.map .int)) (qR F s)=R.ok (th F (V.lst (l.map .int))) (qR F s):=by
    show _=R.ok (V.lst (pN F (l.map .int))) _;exact rg (pX ..) (rg (dE ..) rfl)
   simp only[e];exact RR.ok
  |_=>trivial
theorem Rl(o:Fills F){s:St}[b7 s.σ.length]:∀(vs:af V),RR F (th F) (vw vs s) (vw (pN F vs) (qR F s)) :=
 tT (f:=vw) rfl (λu_ u_ u_=>rfl) λv=>by
  cases v using V.casesOn with
  |ptr n =>
   refine(?_:RR F (th F) (vv s.σ[n]? λc=>rk c s) (vv (tC F s.σ)[F.pi n]? λc=>rk c (qR F s)));refine rg (zz) ?_;cases s.σ[n]? with
   |none=>trivial
   |some c=>exact Jk o c s
  |_=>trivial
theorem H0(o:Fills F){s:St}[b7 s.σ.length]{f:Str}(vs:af V):RR F (th F) (sZ f vs s) (sZ f (pN F vs) (qR F s)) :=
 (UW vs).ite <|(BK vs).ite <|(UU vs).ite <|(Rk vs).ite <|(Oc vs).ite <|(Od vs).ite <|(UX vs).ite <|(UY vs).ite <|(UZ vs).ite <|(U0 vs).ite <|(U1 vs).ite <|(KR vs).ite <|(Rl o vs).ite trivial
theorem XK{s:St}[b7 s.σ.length]:∀(vs:af V),RR F (th F) (wC vs s) (wC (pN F vs) (qR F s)) :=
 tT (f:=wC) rfl (λu_ u_ u_=>rfl) λv=>by cases v using V.casesOn<;>first|trivial|exact RR.ok
theorem XM(o:Fills F){s:St}[b7 s.σ.length]:∀(vs:af V),RR F (th F) (uN vs s) (uN (pN F vs) (qR F s)) :=
 DN (f:=uN) rfl (λa b c r=>rfl) (λv=>trivial) λv w=>by
  refine(?_:RR F (th F) (if(v.oQ&&w.oQ)=true then _ else _) (if((th F v).oQ&&(th F w).oQ)=true then _ else _))
  simp only[vO F o,vO F o];exact RR.ite RR.ok trivial
end
theorem KS:(constsOf pD).all (λp=>p.2.toPy.isSome)=true:=by kernel_rfl!
section
variable{F:FI}
theorem F5{ρ:af (Str×pq)}{x:Str}:(xa F ρ).lookup x=(ρ.lookup x).map (Lp F):=xW ρ
theorem Oe{x:Str}{v:V}(h:oP.consts x=some v):th F v=v:=by
 refine(let C:Prop:=_;(?_:C))
 have h:(if x==aa "__name__" then none else(constsOf pD).lookup x)=some v:=h
 by_cases e:(x==aa "__name__")=true
 ·rw[aO e]at h;exact(nS h).elim
 ·rw[aT e]at h;refine tW (List.lookup_eq_some_iff.mp h) λl r e1 u_=>?_;have:=List.all_eq_true.mp KS (x,v) (by rw[e1];exact gG _ (.head _))
  cases e2:v.toPy with
  |none=>replace this:=(e2)▸this;exact(nF this).elim
  |some y=>exact FX F v y e2
theorem DO{x:Str}{v:V}(h:rj x=some v):th F v=v:=by
 unfold rj at h;cases e:qM.find? λt=>x==aa t with
 |none=>rw[e]at h;exact(nS h).elim
 |some T =>
  rw[e]at h;obtain rfl:=ai h;refine(?_:(match !qM.contains T with|true=>F.f T|false=>V.typ T)=_)
  refine(List.contains_iff_mem.mpr (dk e)).symm▸?_;rfl
variable(F)in
noncomputable def ur(K:sY)(c:MC):MC:=⟨c.g,K,c.wf,c.names,c.free.map λp=>(p.1,th F p.2)⟩
variable{K:sY}{c:MC}
theorem Rm(o:c.g=oP){x:Str}{s:St}[b7 s.σ.length]:RR F (th F) (tZ c x s) (tZ (ur F K c) x (qR F s)):=by
 refine RR.ite ?_ (RR.ite (RR.opt (.inr (xW c.free))) (RR.ite ?_ trivial))
 ·show RR F (th F) (match s.ρ.lookup x with|some (.val v)=>.ok v s|some (.own l)=>.ok (.lst l) {s with ρ:=oZ s.ρ x (.val (.lst l))} |_=>.stuck) (match(xa F s.ρ).lookup x with|some (.val v)=>.ok v (qR F s)|some (.own l)=>.ok (.lst l) (St.mk (oZ (xa F s.ρ) x (.val (.lst l))) (tC F s.σ))|_=>.stuck)
  rw[F5];cases s.ρ.lookup x with
  |none=>trivial
  |some b =>
   cases b with
   |val v=>exact RR.ok
   |own l=>exact RR.env
   |no=>trivial
 ·show RR F (th F) (match c.g.consts x with|some v=>.ok v s|none=>R.opt (rj x) s) (match c.g.consts x with|some v=>.ok v (qR F s)|none=>R.opt (rj x) (qR F s))
  rw[o];cases e:oP.consts x with
  |some v=>refine⟨gw,?_⟩;show R.ok v _=R.ok (th F v) _;rw[Oe e]
  |none =>
   cases e2:rj x with
   |some v=>refine⟨gw,?_⟩;show R.ok v _=R.ok (th F v) _;rw[DO e2]
   |none=>trivial
theorem w8{x:Str}{b:pq}{s:St}[b7 s.σ.length]:RR F id (qs c x b s) (qs (ur F K c) x (Lp F b) (qR F s)):=RR.ite RR.env trivial
theorem A6{e:aI}{s:St}:owned (ur F K c) e (qR F s)=(owned c e s).map (λp=>(p.1,pN F p.2)):=by
 cases e with
 |Name x _ =>
  show(if pQ c x=true then(match(xa F s.ρ).lookup x with|some (.own l)=>some (x,l)|_=>none)else none)=(if pQ c x=true then(match s.ρ.lookup x with|some (.own l)=>some (x,l)|_=>none)else none).map _
  by_cases h:pQ c x=true
  ·rw[aO h,aO h,F5];cases s.ρ.lookup x with
   |none=>rfl
   |some b=>cases b<;>rfl
  ·rw[aT h,aT h];rfl
 |_=>rfl
theorem Rn{f:Str}{o:af aI}{s:St}:tF (ur F K c) f o (qR F s)=tF c f o s:=match o with
 |[e]=>by
  show(if f==aa "len" then(owned (ur F K c) e (qR F s)).map (·.2.length)else none)=if f==aa "len" then(owned c e s).map (·.2.length)else none
  rw[A6];cases owned c e s with
  |none=>rfl
  |some p=>show(if _ then some (pN F p.2).length else none)=if _ then some p.2.length else none;rw[qY]
 |[]|_::_::_=>rfl
noncomputable def LR{o:Type}(P:o->o->Prop):af o->af o->Prop
 |[],l=>l=[]
 |a::r,l=>∃b t,l=b::t/\P a b/\LR P r t
theorem tU:∀{fs o:af (St->R V)} (h:LR (RF F (th F)) fs o),RF F (pN F) (pC fs) (pC o):=by
 intro fs
 induction fs with
 |nil=>intro o h s _;cases h;exact RR.ok
 |cons f r ih =>
  intro o h s _;obtain⟨y,t,e,h1,h2⟩:=h;subst e;exact(h1 s).bind λv s=>(ih h2 s).bind λvs s=>RR.ok
theorem Of{b:aN}:∀{fs o:af (St->R V)} (h:LR (RF F (th F)) fs o),RF F (th F) (wA b fs) (wA b o):=by
 intro fs
 induction fs with
 |nil=>intro o h s _;trivial
 |cons f r ih =>
  intro o h s _;obtain⟨y,t,e,h1,h2⟩:=h;subst e;cases r with
  |nil=>cases h2;exact h1 s
  |cons g r =>
   have h:=ih h2;obtain⟨g',t',e,_⟩:=h2;subst e;refine(h1 s).bind λv s u_=>?_;rcases F4 (F:=F) v with e|e
   ·refine rg (e ..) ?_;trivial
   ·refine rg (e ..) ?_;cases truthy v with
    |none=>trivial
    |some t=>exact RR.ite (h s) RR.ok
theorem Jl{r o:R V}(h:RR F (th F) r o):RR F id (tu r) (tu o):=h.bind λv s=>RR.opt ((F4 v).imp id λe=>by rw[e];cases truthy v<;>rfl)
theorem Ro:∀{o:af fv} {a:V} {fs y:af (St->R V)} (h:LR (RF F (th F)) fs y),RF F (th F) (q8 a o fs) (q8 (th F a) o y):=by
 intro o
 induction o with
 |nil=>intro a fs y h s _;cases fs<;>trivial
 |cons op o ih =>
  intro a fs y h s _;cases fs with
  |nil=>cases o<;>trivial
  |cons f r =>
   obtain⟨z,t,e,h1,h2⟩:=h;subst e;cases o with
   |nil=>cases r with
    |nil=>cases h2;exact(h1 s).bind λv s=>Rb op a v s
    |cons=>trivial
   |cons R8 o=>cases r with
    |nil=>trivial
    |cons g r =>
     have h:=λv=>ih (a:=v) h2;obtain⟨g',t',e,_⟩:=h2;subst e;refine(h1 s).bind λv s u_=>?_;show RR F (th F) (match sX op a v s.σ with|some true=>_|some false=>R.ok (.bool false) s|none=>.stuck) (match sX op (th F a) (th F v) (tC F s.σ)with|some true=>_|some false=>R.ok (.bool false) (qR F s)|none=>.stuck)
     rcases N5 (F:=F) op (a:=a) (b:=v) (σ:=s.σ)with e|e
     ·refine rg (e ..) ?_;trivial
     ·refine rg (e ..) ?_;cases sX op a v s.σ with
      |none=>trivial
      |some t =>
       cases t
       ·exact RR.ok
       ·exact h v s
theorem Rp:∀{fs o:af (St->R V)} {acc:Str} (h:LR (RF F (th F)) fs o),RF F (th F) (wB acc fs) (wB acc o):=by
 intro fs
 induction fs with
 |nil=>intro o acc h s _;cases h;exact RR.ok
 |cons f r ih =>
  intro o acc h s _;obtain⟨y,t,e,h1,h2⟩:=h;subst e;refine(h1 s).bind λv s u_=>?_;cases v using V.casesOn with
  |str x=>exact RR.ite (ih h2 s) trivial
  |_=>trivial
theorem H3:∀{y o:af (V->St->R cV)} {l:af V} (h:LR (λf z=>∀v,RF F id (f v) (z (th F v))) y o),RF F id (r9 y l) (r9 o (pN F l)):=by
 intro y
 induction y with
 |nil=>intro o l h s _;cases l with
  |nil=>cases h;exact RR.ok
  |cons=>trivial
 |cons f r ih=>intro o l h s _;cases l with
  |nil=>trivial
  |cons v l=>obtain⟨z,t,e,h1,h2⟩:=h;subst e;exact(h1 v s).bind λu_ s=>ih h2 s
theorem U2{o:Type}{P:o->o->Prop}:∀{l l':af o}(h:LR P l l'),l'.length=l.length:=by
 intro l
 induction l with
 |nil=>intro l' h;cases h;rfl
 |cons a r ih=>intro l' h;obtain⟨b,t,e,_,h⟩:=h;subst e;exact aD (· + 1) (ih h)
theorem H4{y o:af (V->St->R cV)}(h:LR (λf z=>∀v,RF F id (f v) (z (th F v))) y o)(v:V):RF F id (vU y v) (vU o (th F v)):=λs u_=>by
 cases v using V.casesOn with
 |tup l|lst l =>
  refine(?_:RR F id (if y.length=l.length then r9 y l s else .stuck) (if o.length=(pN F l).length then r9 o (pN F l) (qR F s)else .stuck))
  simp only[U2 h,qY];exact RR.ite (H3 h s) trivial
 |_=>trivial
variable(F)in
noncomputable def Og:Fl->Fl
 |.next=>.next
 |.ret v=>.ret (th F v)
theorem Oh{g g':V->St->R cV}{b o:St->R Fl}(h1:∀v,RF F id (g v) (g' (th F v)))(h2:RF F (Og F) b o):∀l:af V,RF F (Og F) (vh g b l) (vh g' o (pN F l))
 |[],s,_=>RR.ok
 |v::r,s,_=>(h1 v s).bind λu_ s=>(h2 s).bind λf s u_=>by
  cases f with
  |next=>exact Oh h1 h2 r s
  |ret v=>exact RR.ok
theorem F6{g g':St->R aN}{b o:St->R Fl}(h1:RF F id g g')(h2:RF F (Og F) b o):∀n:Nat,RF F (Og F) (t5 g b n) (t5 g' o n)
 |0,s,_=>trivial
 |n+1,s,_=>(h1 s).bind λt s=>RR.ite ((h2 s).bind λf s u_=>by
  cases f with
  |next=>exact F6 h1 h2 n s
  |ret v=>exact RR.ok) RR.ok
theorem DP{g g':V->af V->St->R (af V)}(h:∀v acc,RF F (pN F) (g v acc) (g' (th F v) (pN F acc))):∀(l acc:af V),RF F (pN F) (rS g l acc) (rS g' (pN F l) (pN F acc))
 |[],acc,s,_=>RR.ok
 |v::r,acc,s,_=>(h v acc s).bind λacc s=>DP h r acc s
variable(hK:∀f vs σ [b7 σ.length],RR F (th F) (c.call f vs σ) (K f (pN F vs) (tC F σ)))
include hK
theorem Jm{f:Str}{vs:af V}{s:St}[b7 s.σ.length]:RR F (th F) (uv s (c.call f vs s.σ)) (uv (qR F s) (K f (pN F vs) (tC F s.σ))):=by
 have:=hK f vs s.σ;generalize c.call f vs s.σ=r at this ⊢;cases r with
 |ok v o|rQ=>obtain⟨e,this⟩:=this;rw[this];exact⟨e,rfl⟩
 |stuck=>trivial
theorem Oi(o:Fills F){f:Str}{vs:af V}{s:St}[b7 s.σ.length]:RR F (th F) (qO c f vs s) (qO (ur F K c) f (pN F vs) (qR F s)):=by
 show RR F (th F) (match c.g.fns f with|some _=>_|none=>_) (match c.g.fns f with|some _=>_|none=>_)
 cases c.g.fns f with
 |some _=>exact Jm hK
 |none=>exact(XK vs).ite <|(XM o vs).ite <|H0 o vs
end
section
variable{F:FI}{K:sY}
theorem Cu:∀(ns:af (Str×bM)) (ρ:af (Str×pq)),pB ns (xa F ρ)=xa F (pB ns ρ)
 |[],ρ=>rfl
 |(n,k)::r,ρ=>by
  show pB r (Ls k ((xa F ρ).lookup n) (xa F ρ) n)=xa F (pB r (Ls k (ρ.lookup n) ρ n));rw[<-Cu r,F5]
  congr 1
  cases k with
  |free =>
   cases ρ.lookup n with
   |none=>rfl
   |some b=>cases b with
    |own l=>show _=xa F (oZ ρ n (.val (.lst l)));rw[DM];rfl
    |_=>rfl
  |_=>rfl
theorem A7:∀(ns:af (Str×bM)) (ρ:af (Str×pq)),qg ns (xa F ρ)=(qg ns ρ).map λl=>l.map λp=>(p.1,th F p.2)
 |[],ρ=>rfl
 |(n,k)::r,ρ=>by
  cases k with
  |free =>
   show((Pn ((xa F ρ).lookup n)).bind λv=>(qg r (xa F ρ)).map λl=>(n,v)::l)=((Pn (ρ.lookup n)).bind λv=>(qg r ρ).map λl=>(n,v)::l).map _;rw[A7 r,F5];cases ρ.lookup n with
   |none=>rfl
   |some b=>cases b with
    |val v=>cases qg r ρ<;>rfl
    |_=>rfl
  |_=>exact A7 r ρ
theorem DQ(ps:af Str)(ns:af (Str×bM)):xa F (qF ps ns)=qF ps ns:=by
 delta xa qF;simp only[dE];rfl
theorem U3(hF:Fills F){d j v:V}{s:St}[b7 s.σ.length]:RR F id (putAt d j v s) (putAt (th F d) (th F j) (th F v) (qR F s)):=by
 cases d using V.casesOn with
 |ptr n=>cases j using V.casesOn with
  |str k =>
   refine(?_:RR F id (match s.σ[n]? with|some cell=>if v.oQ&&decide (cell.length<qf)then .ok () {s with σ:=s.σ.set n (pv cell k v)}else .stuck|none=>.stuck) (match(tC F s.σ)[F.pi n]? with|some cell=>if(th F v).oQ&&decide (cell.length<qf)then .ok () (St.mk (xa F s.ρ) ((tC F s.σ).set (F.pi n) (pv cell k (th F v))))else .stuck|none=>.stuck))
   refine(zz).symm▸?_;cases s.σ[n]? with
   |none=>trivial
   |some c =>
    dsimp only[eV];rw[vO F hF,Jj,<-N9,<-UO];exact RR.ite ⟨⟨by rw[cG];exact NeZero.out⟩,rfl⟩ trivial
  |_=>trivial
 |_=>induction j using V.casesOn<;>trivial
theorem Oj:∀l l':af V,pN F (Ei l l')=Ei (pN F l) (pN F l')
 |a::r,b::t=>aD (V.tup [th F a,th F b]::·) (Oj r t)
 |[],_=>rfl
 |_::_,[]=>rfl
section
variable{c:MC}(hg:c.g=oP)(hF:Fills F)(hK:∀f vs σ [b7 σ.length],RR F (th F) (c.call f vs σ) (K f (pN F vs) (tC F σ)))
include hK hF
theorem Ol{func:aI}{y:af aI}{p A:St->R V}{fs z:af (St->R V)}(h1:RF F (th F) p A)(h:LR (RF F (th F)) fs z):RF F (th F) (s7 c func y p fs) (s7 (ur F K c) func y A z):=λs u_=>by
 cases func with
 |Name f _ =>
  refine RR.ite ?_ trivial;rw[Rn];cases tF c f y s with
  |some n=>exact RR.ok
  |none=>exact(tU h s).bind λvs s=>Oi hK hF
 |Attribute o m _ =>
  show RR F (th F) (match owned c o s with|some (x,_)=>ownCall x m fs s|none=>uw c m p fs s) (match owned (ur F K c) o (qR F s)with|some (x,_)=>ownCall x m z (qR F s)|none=>uw (ur F K c) m A z (qR F s))
  rw[A6];cases owned c o s with
  |some q =>
   refine RR.ite ((tU h s).bind λvs s u_=>?_) trivial;rw[show(qR F s).ρ=xa F s.ρ from rfl,F5];cases s.ρ.lookup q.1 with
   |none=>trivial
   |some b=>cases b with
    |own l=>exact Ri q.1 l m vs s
    |_=>trivial
  |none =>
   refine(h1 s).bind λv s u_=>?_;cases v using V.casesOn with
   |ev v =>
    show RR F (th F) (match c.g.fns (oU m)with|some _=>_|none=>_) (match c.g.fns (oU m)with|some _=>_|none=>_)
    cases c.g.fns (oU m)with
    |some _=>exact(tU h s).bind λvs s=>Jm hK (vs:=.ev v::vs)
    |none=>trivial
   |_=>trivial
 |_=>trivial
end
section
variable{c:MC}
theorem Rq{o i:aI}{p y q q':St->R V}(h1:RF F (th F) p y)(h2:RF F (th F) q q'):RF F (th F) (vV c o i p q) (vV (ur F K c) o i y q'):=λs u_=>by
 have h:RR F (th F) ((p s).bind λv s=>(q s).bind λk s=>pW v k s) ((y (qR F s)).bind λv s=>(q' s).bind λk s=>pW v k s):=(h1 s).bind λv s=>(h2 s).bind λk s=>Jh v k s;unfold vV;cases ue i with
 |some z=>exact(h1 s).bind λv s=>KQ v z.1 z.2 s
 |none =>
  dsimp only;refine rg (A6) ?_;cases owned c o s with
  |none=>exact h
  |some x=>cases zI i with
   |none=>exact h
   |some n=>exact Jh (.lst x.2) (.int n) s
theorem Om(hF:Fills F){z:af (au aI)}{n:Nat}{fs y:af (St->R V)}(h:LR (RF F (th F)) fs y):RF F (th F) (s8 z n fs) (s8 z n y):=λs u_=>by
 unfold s8;cases uf z with
 |none=>trivial
 |some o =>
  refine(let C:Prop:=_;(?_:C))
  refine RR.ite ((tU h s).bind λvs s u_=>?_) trivial;have e:o.zip (pN F vs)=uI F (o.zip vs):=rg (pX ..) (rg (hX ..) rfl);exact(e)▸(Jk hF _ s)
theorem Oo {ns:af (Str×bM)} {scope:ft} {gens:af aR} {p z:St->R V} {g g':af (Str×V)->af V->St->R (af V)} (h1:RF F (th F) p z)
  (h2:∀o items,RF F (pN F) (g o items) (g' (o.map λp=>(p.1,th F p.2)) (pN F items))):RF F (th F) (vx ns scope gens p g) (vx ns scope gens z g'):=λs u_=>by
 refine RR.ite ((h1 s).bind λv s u_=>?_) trivial;rcases A5 (F:=F) v with e|e
 ·refine rg (e ..) ?_;trivial
 ·refine rg (e ..) ?_;cases pR v with
  |none=>trivial
  |some items =>
   dsimp only[eV];refine rg (show(qR F s).ρ=xa F s.ρ from rfl) ?_;refine rg (Cu ..) ?_;refine rg (A7 ..) ?_;cases qg scope.names (pB scope.names s.ρ)with
   |none=>trivial
   |some o =>
    have:RR F _ _ _:=h2 o items ⟨qF [] scope.names,s.σ⟩;refine(?_:RR F (th F) (match g o items ⟨qF [] scope.names,s.σ⟩with|.ok l y=>R.ok (V.lst l) (St.mk (pB scope.names s.ρ) y.σ)|.rQ w p σ=>.rQ w p σ|.stuck=>.stuck) (match g' (o.map λp=>(p.1,th F p.2)) (pN F items) ⟨qF [] scope.names,tC F s.σ⟩with|.ok l y=>R.ok (V.lst l) (St.mk (xa F (pB scope.names s.ρ)) y.σ)|.rQ w p σ=>.rQ w p σ|.stuck=>.stuck))
    rw[show qR F ⟨qF [] scope.names,s.σ⟩=⟨qF [] scope.names,tC F s.σ⟩from aD (λρ=>St.mk ρ _) (DQ _ _)]at this;generalize g o items ⟨qF [] scope.names,s.σ⟩=r at this ⊢
    induction r using R.casesOn with
    |stuck=>trivial
    |ok l y|rQ w p σ=>obtain⟨e,this⟩:=this;simp only[this];exact⟨e,rfl⟩
end
end
section
variable{F:FI}{K:sY}
variable(F K)in
noncomputable def CC(c:MC):Prop:=c.g=oP/\∀f vs σ [b7 σ.length],RR F (th F) (c.call f vs σ) (K f (pN F vs) (tC F σ))
theorem Oq{k:nE}:RF F (th F) (yh k) (yh k):=λs u_=>by
 cases k with
 |none|bool|int=>exact RR.ok
 |str=>exact RR.ite RR.ok trivial
 |_=>trivial
theorem U4{x o:St->R V}(h:RF F (th F) x o):RF F (th F) (λs=>(x s).bind λv s=>R.opt ((vu v).map .str) s) (λs=>(o s).bind λv s=>R.opt ((vu v).map .str) s):=λs=>(h s).bind λv s=>Ji v s
variable(hF:Fills F)
include hF
mutual
theorem o9(c:MC)(h:CC F K c)(e:aI):RF F (th F) (oO c e) (oO (ur F K c) e):=match e with
 |.Constant _ _ _=>Oq
 |.Name _ _=>λs=>Rm h.1
 |.BoolOp _ vs _=>Of (ru c h vs)
 |.BinOp l op r _=>λs=>(o9 c h l s).bind λa s=>(o9 c h r s).bind λb s=>Rh op a b s
 |.UnaryOp op y _=>λs=>(o9 c h y s).bind λa s=>US op a s
 |.IfExp t a b _=>λs=>(tj c h t _ _ (o9 c h t) s).bind λq s=>RR.ite (o9 c h a s) (o9 c h b s)
 |.Compare l _ cs _=>λs=>(o9 c h l s).bind λa s=>Ro (ru c h cs) s
 |.Tuple es _ _=>λs=>(tU (ru c h es) s).bind λvs s=>DL vs s
 |.List es _=>λs=>(tU (ru c h es) s).bind λvs s=>Je vs s
 |.Dict ks vs _=>Om hF (ru c h vs)
 |.JoinedStr vs _=>Rp (ru c h vs)
 |.FormattedValue x conv spec _=>λs=>RR.ite (U4 (o9 c h x) s) trivial
 |.Attribute o a _=>λs=>RR.ite ((o9 c h o s).bind λv s=>N7 v a s) trivial
 |.Subscript o i _=>Rq (o9 c h o) (o9 c h i)
 |.ListComp elt gens scope _=>Oo (DR c h gens) λz items=>DS (under c scope.names z) h gens _ _ (o9 (under c scope.names z) h elt) items
 |.Call func args R9 p=>λs=>RR.ite (Ol hF h.2 (Ot c h func) (ru c h args) s) trivial
 |.NamedExpr .. |.Lambda .. |.Set .. |.SetComp .. |.DictComp .. |.GeneratorExp .. |.Await .. |.Yield .. |.YieldFrom .. |.Starred .. |.Slice ..=>λu_=>trivial
termination_by structural e
theorem Ot(c:MC)(h:CC F K c)(e:aI):RF F (th F) (zJ c e) (zJ (ur F K c) e):=match e with
 |.Attribute o _ _=>o9 c h o
 |.BoolOp .. |.NamedExpr .. |.BinOp .. |.UnaryOp .. |.Lambda .. |.IfExp .. |.Dict .. |.Set .. |.ListComp .. |.SetComp .. |.DictComp .. |.GeneratorExp .. |.Await .. |.Yield .. |.YieldFrom .. |.Compare .. |.Call .. |.FormattedValue .. |.JoinedStr .. |.Constant .. |.Subscript .. |.Starred .. |.Name .. |.List .. |.Tuple .. |.Slice ..=>λu_=>trivial
termination_by structural e
theorem ru(c:MC)(h:CC F K c)(es:af aI):LR (RF F (th F)) (pk c es) (pk (ur F K c) es):=match es with
 |[]=>rfl
 |e::r=>⟨_,_,rfl,o9 c h e,ru c h r⟩
termination_by structural es
theorem tj(c:MC)(h:CC F K c)(e:aI)(w w':St->R V)(hw:RF F (th F) w w'):RF F id (s9 c e w) (s9 (ur F K c) e w'):=match e with
 |.UnaryOp op x _=>match op with
  |.Not=>λs=>(tj c h x _ _ (o9 c h x) s).bind λb s=>RR.ok
  |.Invert|.UAdd|.USub=>λs=>Jl (hw s)
 |.BoolOp op vs _=>wb c h (op==.And) vs
 |.IfExp t a b _=>λs=>(tj c h t _ _ (o9 c h t) s).bind λq s=>RR.ite (tj c h a _ _ (o9 c h a) s) (tj c h b _ _ (o9 c h b) s)
 |.NamedExpr .. |.BinOp .. |.Lambda .. |.Dict .. |.Set .. |.ListComp .. |.SetComp .. |.DictComp .. |.GeneratorExp .. |.Await .. |.Yield .. |.YieldFrom .. |.Compare .. |.Call .. |.FormattedValue .. |.JoinedStr .. |.Constant .. |.Attribute .. |.Subscript .. |.Starred .. |.Name .. |.List .. |.Tuple .. |.Slice ..=>λs=>Jl (hw s)
termination_by structural e
theorem wb(c:MC)(h:CC F K c)(b:aN)(es:af aI):RF F id (q9 c b es) (q9 (ur F K c) b es):=match es with
 |[]=>λu_=>RR.ok
 |e::r=>λs=>(tj c h e _ _ (o9 c h e) s).bind λt s=>RR.ite (wb c h b r s) RR.ok
termination_by structural es
theorem DR(c:MC)(h:CC F K c)(gs:af aR):RF F (th F) (firstIter c gs) (firstIter (ur F K c) gs):=match gs with
 |[]=>λu_=>trivial
 |⟨_,it,_,_⟩::_=>o9 c h it
termination_by structural gs
theorem DS(c:MC)(h:CC F K c)(gs:af aR)(w w':St->R V)(hw:RF F (th F) w w')(items:af V):RF F (pN F) (rX c gs w items) (rX (ur F K c) gs w' (pN F items)):=match gs with
 |[]=>λu_=>trivial
 |⟨t,_,ifs,_⟩::gs=>DP (F:=F) (g:=λv acc s=>(o4 c t v s).bind λu_ s=>(q9 c true ifs s).bind λk s=>if k then qy c gs w acc s else .ok acc s) (g':=λv acc s=>(o4 (ur F K c) t v s).bind λu_ s=>(q9 (ur F K c) true ifs s).bind λk s=>if k then qy (ur F K c) gs w' acc s else .ok acc s) (λv acc s=>(tV c h t v s).bind λu_ s=>(wb c h true ifs s).bind λq s=>RR.ite (y5 c h gs w w' hw acc s) RR.ok) items []
termination_by structural gs
theorem y5(c:MC)(h:CC F K c)(gs:af aR)(w w':St->R V)(hw:RF F (th F) w w')(acc:af V):RF F (pN F) (qy c gs w acc) (qy (ur F K c) gs w' (pN F acc)):=match gs with
 |[]=>λs=>(hw s).bind λv s u_=>by
  rw[qY,show pN F acc++[th F v]=pN F (acc++[v])from(wa acc [v]).symm];exact RR.ite RR.ok trivial
 |⟨t,it,ifs,_⟩::gs=>λs=>(o9 c h it s).bind λv s u_=>by
  have hh:=λitems=>DP (F:=F) (g:=λv acc s=>(o4 c t v s).bind λu_ s=>(q9 c true ifs s).bind λk s=>if k then qy c gs w acc s else .ok acc s) (g':=λv acc s=>(o4 (ur F K c) t v s).bind λu_ s=>(q9 (ur F K c) true ifs s).bind λk s=>if k then qy (ur F K c) gs w' acc s else .ok acc s) (λv acc s=>(tV c h t v s).bind λu_ s=>(wb c h true ifs s).bind λq s=>RR.ite (y5 c h gs w w' hw acc s) RR.ok) items acc s
  rcases A5 (F:=F) v with e|e
  ·rw[e];trivial
  ·rw[e];cases pR v with
   |none=>trivial
   |some items=>exact hh items
termination_by structural gs
theorem tV(c:MC)(h:CC F K c)(e:aI)(v:V):RF F id (o4 c e v) (o4 (ur F K c) e (th F v)):=match e with
 |.Name x _=>λs=>w8
 |.Tuple ts _ _=>λs=>RR.ite (H4 (y6 c h ts) v s) trivial
 |.Subscript o i _=>λs=>(o9 c h o s).bind λd s=>(o9 c h i s).bind λj s=>U3 hF
 |.BoolOp .. |.NamedExpr .. |.BinOp .. |.UnaryOp .. |.Lambda .. |.IfExp .. |.Dict .. |.Set .. |.ListComp .. |.SetComp .. |.DictComp .. |.GeneratorExp .. |.Await .. |.Yield .. |.YieldFrom .. |.Compare .. |.Call .. |.FormattedValue .. |.JoinedStr .. |.Constant .. |.Attribute .. |.Starred .. |.List .. |.Slice ..=>λu_=>trivial
termination_by structural e
theorem y6(c:MC)(h:CC F K c)(es:af aI):LR (λf o=>∀v,RF F id (f v) (o (th F v))) (sd c es) (sd (ur F K c) es):=match es with
 |[]=>rfl
 |e::r=>⟨_,_,rfl,tV c h e,y6 c h r⟩
termination_by structural es
end
end
section
variable{F:FI}{K:sY}
variable(hF:Fills F){c:MC}(h:CC F K c)
theorem Ou(v:V):RF F (pN F) (R.opt (pR v)) (R.opt (pR (th F v))):=λs=>RR.opt (A5 v)
include hF h
theorem U5(t e:aI):RF F (pN F) (rG c t e) (rG (ur F K c) t e):=λs u_=>by
 show RR F (pN F) (match xe c e with|some (a,b)=>_|none=>(match xf c e with|some a=>_|none=>_)) (match xe c e with|some (a,b)=>_|none=>(match xf c e with|some a=>_|none=>_))
 cases xe c e with
 |some p =>
  refine RR.ite ((o9 hF c h p.1 s).bind λx s=>(o9 hF c h p.2 s).bind λy s u_=>?_) trivial;cases x using V.casesOn with
  |tup l=>cases y using V.casesOn with
   |lst m=>refine⟨gw,?_⟩;show R.ok _ _=R.ok (pN F (Ei l m)) _;rw[Oj]
   |_=>trivial
  |_=>trivial
 |none=>cases xf c e with
  |some a =>
   refine(o9 hF c h a s).bind λx s u_=>?_;cases x using V.casesOn with
   |tup l=>refine⟨gw,?_⟩;show R.ok (pN F l).reverse _=R.ok (pN F l.reverse) _;rw[pX,pX,ct]
   |_=>trivial
  |none=>exact(o9 hF c h e s).bind λv s=>Ou v s
theorem F7(e:aI):RF F (Lp F) (vy c e) (vy (ur F K c) e):=λs u_=>by
 have hd:RR F (Lp F) ((oO c e s).bind λv s=>.ok (.val v) s) ((oO (ur F K c) e (qR F s)).bind λv s=>.ok (.val v) s):=(o9 hF c h e s).bind λv s=>RR.ok;cases e with
 |List es _=>exact(tU (ru hF c h es) s).bind λvs s u_=>by rw[qY];exact RR.ite RR.ok trivial
 |_=>exact hd
theorem Cv:∀es:af aI,RF F (List.map (Lp F)) (rB c es) (rB (ur F K c) es)
 |[],s,_=>RR.ok
 |[e],s,_=>(F7 hF h e s).bind λb s=>RR.ok
 |e::e'::r,s,_=>(o9 hF c h e s).bind λv s=>(Cv (e'::r) s).bind λbs s=>RR.ok
omit hF h in
theorem Jn:∀(xs:af Str)(bs:af pq),RF F id (pY c xs bs) (pY (ur F K c) xs (bs.map (Lp F)))
 |[],[],s,_=>RR.ok
 |x::xs,b::bs,s,_=>(w8 (F:=F)).bind λu_ s=>Jn xs bs s
 |[],_::_,s,_=>trivial
 |_::_,[],s,_=>trivial
theorem U6(t e:aI):RF F (Og F) (rT c t e) (rT (ur F K c) t e):=λs u_=>by
 have hd:RR F (Og F) (match rH t e with
  |some (xs,vs)=>if se xs vs then(rB c vs s).bind λbs s=>(pY c xs bs s).bind λu_ s=>.ok .next s else .stuck
  |none=>(oO c e s).bind λv s=>(o4 c t v s).bind λu_ s=>.ok .next s) (match rH t e with
  |some (xs,vs)=>if se xs vs then(rB (ur F K c) vs (qR F s)).bind λbs s=>(pY (ur F K c) xs bs s).bind λu_ s=>.ok .next s else .stuck
  |none=>(oO (ur F K c) e (qR F s)).bind λv s=>(o4 (ur F K c) t v s).bind λu_ s=>.ok .next s):=by
  cases rH t e with
  |none=>exact(o9 hF c h e s).bind λv s=>(tV hF c h t v s).bind λu_ s=>RR.ok
  |some p=>exact RR.ite ((Cv hF h p.2 s).bind λbs s=>(Jn p.1 bs s).bind λu_ s=>RR.ok) trivial
 cases t with
 |Name x _=>exact(F7 hF h e s).bind λb s=>(w8 (F:=F)).bind λu_ s=>RR.ok
 |Tuple|Subscript=>exact hd
 |_=>trivial
omit hF h in
theorem Rr(hs:af ee):qP (ur F K c) hs=qP c hs:=by
 have e:ux (ur F K c)=ux c:=aD (_&&·) List.isEmpty_map
 have:Lx (ur F K c)=Lx c:=funext λx=>by
  cases x with
  |ExceptHandler t x body _ =>
   show(t.bind λt=>(wi t).bind λk=>x.bind λx=>if(k==aa "EvalFault"&&qw c k&&c.names.lookup x==some .local&&ux (ur F K c))=true then BX x body else none)=_
   refine rg (e ..) ?_;rfl
 unfold qP;exact rg (this ..) rfl
omit hF h in
theorem U7{r y:R Fl}{o:au Str}(h:RR F (Og F) r y):RR F (Og F) (BY r o) (BY y o):=by
 cases r with
 |ok=>obtain⟨e,h⟩:=h;subst h;exact⟨e,rfl⟩
 |stuck=>trivial
 |rQ=>obtain⟨e,h⟩:=h;subst h;cases o<;>first|trivial|exact⟨e,rfl⟩
end
section
variable{F:FI}{K:sY}
variable(hF:Fills F)
include hF
mutual
theorem Ov(c:MC)(h:CC F K c)(st:cW):RF F (Og F) (vz c st) (vz (ur F K c) st):=match st with
 |.Return v _=>match v with
  |some e=>λs=>(o9 hF c h e s).bind λv s=>RR.ok
  |none=>λs=>RR.ok
 |.Assign ts e _=>match ts with
  |[t]=>U6 hF h t e
  |[]|_::_::_=>λu_=>trivial
 |.If t b o _=>λs=>(tj hF c h t _ _ (o9 hF c h t) s).bind λq s=>RR.ite (sN c h b s) (sN c h o s)
 |.For t it b o _=>λs=>RR.ite ((U5 hF h t it s).bind λitems s=>Oh (tV hF c h t) (sN c h b) items s) trivial
 |.While t b o _=>λs=>RR.ite (F6 (tj hF c h t _ _ (o9 hF c h t)) (sN c h b) c.wf s) trivial
 |.Raise e cause _=>match e,cause with
  |some e,none=>λs=>RR.ite ((o9 hF c h e s).bind λv s u_=>by cases v using V.casesOn<;>first|trivial|exact⟨gw,rfl⟩) trivial
  |none,_=>λu_=>trivial
  |some _,some _=>λu_=>trivial
 |.Expr e _=>λs=>RR.ite ((o9 hF c h e s).bind λv s=>RR.ok) trivial
 |.Try body hs orelse final _=>λs u_=>by
  have hb:=sN c h body;refine RR.ite ?_ trivial;rw[Rr];cases qP c hs with
  |none=>trivial
  |some k=>exact U7 (hb s)
 |.FunctionDef .. |.AsyncFunctionDef .. |.ClassDef .. |.Delete .. |.TypeAlias .. |.AugAssign .. |.AnnAssign .. |.AsyncFor .. |.With .. |.AsyncWith .. |.Match .. |.TryStar .. |.Assert .. |.Import .. |.ImportFrom .. |.Global .. |.Nonlocal .. |.Pass .. |.Break .. |.Continue ..=>λu_=>trivial
termination_by structural st
theorem sN(c:MC)(h:CC F K c)(o:af cW):RF F (Og F) (o7 c o) (o7 (ur F K c) o):=match o with
 |[]=>λu_=>RR.ok
 |st::r=>λs=>(Ov c h st s).bind λf s u_=>by
  have hr:=sN c h r;cases f with
  |next=>exact hr s
  |ret v=>exact RR.ok
termination_by structural o
end
end
theorem F8{wf:Nat}:∀{n:Nat} {f:Str} {vs:af V} {σ:af Cell} {v:V} {s:St},o6 oP wf n f vs σ=.ok v s->s.ρ=[]
 |0,_,_,_,_,_,h=>nomatch h
 |n+1,f,vs,σ,v,s,h=>by
  have h:(match oP.fns f with|none=>R.stuck|some fn=>if fn.params.length=vs.length then pS σ.length (o7 ⟨oP,o6 oP wf n,wf,fn.names,[]⟩ fn.body ⟨qd fn.params vs++qF fn.params fn.names,σ⟩)else .stuck)=_:=h
  refine(let C:Prop:=_;(?_:C))
  cases e:oP.fns f with
  |none=>simp only[e]at h;exact nomatch h
  |some fn =>
   replace h:=(e)▸h;dsimp only at h;by_cases e2:fn.params.length=vs.length
   ·replace h:=(aO e2)▸h;generalize o7 _ _ _=r at h;cases r with
    |ok f o =>
     have hi:∀{b:aN} {a:V} {x y:af Cell},(if b=true then R.ok a (St.mk [] x)else R.ok a (St.mk [] y))=R.ok v s->s.ρ=[]:=λ{b _ _ _} h=>by induction b using aJ<;>cases h<;>rfl
     induction f using Fl.casesOn with
     |next=>exact hi (b:=V.oQ .none) (a:=.none) (x:=o.σ.take σ.length) (y:=o.σ) h
     |ret v=>exact hi (b:=v.oQ) (a:=v) h
    |rQ w p σ' =>
     have h:(if _ then R.rQ _ _ _ else .stuck)=_:=h
     split at h<;>cases h
    |stuck=>exact nomatch h
   ·replace h:=(aT e2)▸h;exact nomatch h
section
variable{F:FI}{wf:Nat}
noncomputable def F9(F:FI)(wf:Nat):Prop:=∀T m σ,uZ (.typ T)=true->CW (o6 oP wf (m+1) (S "is_array") [F.f T] σ) (λv σ'=>v=.bool false/\σ'=σ) λu_ u_ u_=>eu
theorem Rt(o:Fills F){n:Nat}[b7 n]{r y:R Fl}(h:RR F (Og F) r y):RR F (th F) (pS n r) (pS (F.pi n) y):=by
 have hz:∀{σ:af Cell},b7 σ.length->b7 (σ.take n).length:=λ{σ} h=>⟨by
  have h1:=h.out;have h2:=NeZero.ne n;rw[dZ];lia⟩
 cases r with
 |stuck=>trivial
 |rQ w p σ =>
  obtain⟨e,h⟩:=h;subst h;refine(?_:RR F (th F) (if(w.oQ&&p.oQ)=true then _ else _) (if((th F w).oQ&&(th F p).oQ)=true then R.rQ _ _ ((tC F σ).take (F.pi n))else _))
  simp only[vO F o,vO F o,Jd];exact RR.ite ⟨hz e,rfl⟩ trivial
 |ok f s =>
  obtain⟨e,h⟩:=h;subst h
  have hv:∀v:V,RR F (th F) (if v.oQ=true then R.ok v ⟨[],s.σ.take n⟩else R.ok v ⟨[],s.σ⟩) (if(th F v).oQ=true then R.ok (th F v) ⟨[],(tC F s.σ).take (F.pi n)⟩else R.ok (th F v) ⟨[],tC F s.σ⟩):=λv=>by
   simp only[vO F o,Jd];exact RR.ite ⟨hz e,rfl⟩ ⟨e,rfl⟩
  induction f using Fl.casesOn with
  |next=>exact hv .none
  |ret v=>exact hv v
theorem Ru(ps:af Str)(vs:af V):xa F (qd ps vs)=qd ps (pN F vs):=by
 delta xa qd;simp only[pX,dE,hX,hX,dE];rfl
theorem Jo(o:Fills F)(y:F9 F wf):∀(n:Nat)(f:Str)(vs:af V)(σ:af Cell) [b7 σ.length],RR F (th F) (oY wf n f vs σ) (o6 oP wf n f (pN F vs) (tC F σ))
 |0,_,_,_,_=>trivial
 |n+1,f,vs,σ,hz=>by
  have ih:=Jo o y n;show RR F (th F) (if qK f vs=true then R.ok (.bool false) ⟨[],σ⟩else match oP.fns f with|none=>.stuck|some fn=>if fn.params.length=vs.length then pS σ.length (o7 ⟨oP,oY wf n,wf,fn.names,[]⟩ fn.body ⟨qd fn.params vs++qF fn.params fn.names,σ⟩)else .stuck) _
  by_cases h:qK f vs=true
  ·rw[aO h]
   match vs,h with
   |[v],h =>
    have h:(uZ v&&f==S "is_array")=true:=h;rw[aw,fg]at h;obtain⟨h1,h2⟩:=h;subst h2;cases v using V.casesOn with
    |typ T =>
     have:=y T n (tC F σ) h1;refine⟨hz,?_⟩;show o6 oP wf (n+1) (S "is_array") [match uZ (.typ T)with|true=>F.f T|false=>.typ T] (tC F σ)=R.ok (.bool false) ⟨[],tC F σ⟩
     rw[h1];dsimp only;rw[xF]at this;cases e:o6 oP wf (n+1) (S "is_array") [F.f T] (tC F σ)with
     |stuck=>rw[e]at this;exact this.elim
     |rQ=>rw[e]at this;exact this.elim
     |ok v s =>
      rw[e]at this;obtain⟨h1,h2⟩:=this;subst h1;have:=F8 e;cases s;cases h2;cases this;rfl
    |_=>cases h1
  ·rw[aT h];show RR F (th F) _ (match oP.fns f with|none=>.stuck|some fn=>if fn.params.length=(pN F vs).length then pS (tC F σ).length (o7 ⟨oP,o6 oP wf n,wf,fn.names,[]⟩ fn.body ⟨qd fn.params (pN F vs)++qF fn.params fn.names,tC F σ⟩)else .stuck)
   cases oP.fns f with
   |none=>trivial
   |some fn =>
    dsimp only;rw[qY,N4,<-Ru,<-DQ (F:=F) fn.params fn.names];refine RR.ite (Rt o ?_) trivial;have:RR F _ _ _:=sN o (K:=o6 oP wf n) ⟨oP,oY wf n,wf,fn.names,[]⟩ ⟨rfl,ih⟩ fn.body ⟨qd fn.params vs++qF fn.params fn.names,σ⟩;have e:qR F ⟨qd fn.params vs++qF fn.params fn.names,σ⟩=⟨xa F (qd fn.params vs)++xa F (qF fn.params fn.names),tC F σ⟩:=aD (λρ=>St.mk ρ _) bw;rw[e]at this;rw[DQ]at this ⊢;exact this
theorem XN(o:Fills F)(y:F9 F wf){n:Nat}{f:Str}{vs:af V}{σ:af Cell}[b7 σ.length]:match oY wf n f vs σ with
 |.ok v s=>o6 oP wf n f (pN F vs) (tC F σ)=.ok (th F v) (qR F s)
 |.rQ w p τ=>o6 oP wf n f (pN F vs) (tC F σ)=.rQ (th F w) (th F p) (tC F τ)
 |.stuck=>fh:=by
 have:=Jo o y n f vs σ;cases e:oY wf n f vs σ with
 |stuck=>trivial
 |_=>rw[e]at this;exact this.2
end
noncomputable def Ga(i:Nat)(vs:af V)(b:aN):Prop:=∀(K:sY)(wf:Nat)(σ:af Cell),to 4 0 (HG (defAt i) K wf vs σ)=.ret (.bool b) σ
section
variable{wf m:Nat}{σ:af Cell}{Q:V->af Cell->Prop}{X:XT}{v:V}{a b:aN}
theorem yI{i:Nat}{f:Str}{vs:af V}(h:Ga i vs b)(hf:oP.fns f=some (defAt i))(hn:bH (defAt i).params.length vs.length=true)(z:Q (.bool b) σ):CW (o6 oP wf (m+1) f vs σ) Q X:=by
 refine qk hf hn ?_;intro φ p;exact oJ (tI z) (h _ _ _)
theorem xX(h1:Ga 15 [v] false)(h2:Ga 46 [v,msg "sum"] a)(o:Ga 46 [v,msg "bit"] b):tS wf (m+2) v (!a&&!b):=λσ {Q X} z=>by
 refine qk wR (by kernel_rfl!) ?_
 intro φ p;refine oG (yI (σ:=σ) h1 qr (by kernel_rfl!) ?_)<;>intro p
 refine oG (yI (σ:=σ) h2 Cg (by kernel_rfl!) ?_)<;>intro p
 cases a
 ·refine oG (yI (σ:=σ) o Cg (by kernel_rfl!) ?_)<;>intro p
  cases b
  ·exact oJ (tI (b:=true) z)
  ·exact oJ (tI (b:=false) z)
 ·exact oJ (tI (b:=false) z)
theorem wc{i:Int}:tS wf (m+2) (.int i) true:=xX (a:=false) (b:=false) (λu_ u_ u_=>by kernel_rfl!) (λu_ u_ u_=>by kernel_rfl!) (λu_ u_ u_=>by kernel_rfl!)
theorem H5{i:aN}:tS wf (m+2) (.bool i) true:=xX (a:=false) (b:=false) (λu_ u_ u_=>by kernel_rfl!) (λu_ u_ u_=>by kernel_rfl!) (λu_ u_ u_=>by kernel_rfl!)
noncomputable def yJ(i j:Int):V:=.tup [msg "sum", .tup [.tup [.int 4,.int i]],.int j]
noncomputable def KU:V:=.tup [msg "bit", .int 5,.bool false]
theorem Cw{i j:Int}:tS wf (m+2) (yJ i j) false:=xX (a:=true) (b:=false) (λu_ u_ u_=>by kernel_rfl!) (λu_ u_ u_=>by kernel_rfl!) (λu_ u_ u_=>by kernel_rfl!)
theorem KV:tS wf (m+2) KU false:=xX (a:=false) (b:=true) (λu_ u_ u_=>by kernel_rfl!) (λu_ u_ u_=>by kernel_rfl!) (λu_ u_ u_=>by kernel_rfl!)
theorem Cx{lo hi i j:Int}:tS wf (m+3) (rC lo hi [.int i,.int j]) true:=λσ {Q X} z=>by
 refine qk wR (by kernel_rfl!) ?_
 intro φ p;refine oG (yI (b:=true) (vs:=[rC lo hi [.int i,.int j]]) (σ:=σ) (λu_ u_ u_=>by kernel_rfl!) qr (by kernel_rfl!) ?_)<;>intro p
 refine oG (wc (i:=i) σ ?_)<;>intro p;refine oG (wc (i:=j) σ ?_)<;>intro p;exact oJ (tI (b:=true) z)
theorem H6{lo hi i j k:Int}:tS wf (m+3) (rC lo hi [.int i,yJ j k]) false:=λσ {Q X} z=>by
 refine qk wR (by kernel_rfl!) ?_
 intro φ p;refine oG (yI (b:=true) (vs:=[rC lo hi [.int i,yJ j k]]) (σ:=σ) (λu_ u_ u_=>by kernel_rfl!) qr (by kernel_rfl!) ?_)<;>intro p
 refine oG (wc (i:=i) σ ?_)<;>intro p;refine oG (Cw (i:=j) (j:=k) σ ?_)<;>intro p;exact oJ (tI (b:=false) z)
end
section
variable{wf m n M d:Nat}{c:Cell}{T:sL}{F:FI}{Q:V->af Cell->Prop}{X:XT}{σ:af Cell}
theorem U8(l:af Int):pN F (l.map .int)=l.map .int:=by rw[pX,dE];rfl
theorem GN.th{v:V}(h:GN d v):th F v=v:=by
 induction h with
 |int|bool=>rfl
 |@set d l=>show V.tup (pN F (l.map .int))=_;rw[U8]
 |@arr d lo hi l _ _ ih =>
  show V.tup [.tup [.tup [.int lo,.int hi]],.lst (pN F l)]=_;rw[pX,kU ih,nA]
theorem rz(l:qe):th F l.toV=l.toV:=by cases l<;>rfl
theorem H7(t:Ec):th F t.toV=t.toV:=by
 refine(?_:V.tup [msg "bin", .int t.p,.str _,th F t.l.toV,th F t.r.toV]=_);simp only[rz,rz];rfl
theorem Jp{p q:Int}{i:Fin 3}{l:qe}:th F (yC p q i l)=yC p q i l:=by
 refine(?_:V.tup [msg "range", .int p,th F (qe.int q i).toV,th F l.toV]=_);rw[rz,rz];rfl
theorem U9(s:Bj):th F s.toV=s.toV:=by
 cases s with
 |leaf l=>exact rz l
 |pair q a l r =>
  refine(?_:V.tup [.str _,.int q,.tup [th F l.toV,th F r.toV]]=_);rw[rz,rz];rfl
 |_=>exact Jp
theorem DT{o:Type}{f:o->V}(h:∀a,th F (f a)=f a)(l:af o):pN F (l.map f)=l.map f:=by rw[pX,dE];exact kU λa u_=>h a
theorem XQ(w:Wh):th F w.toV=w.toV:=by
 cases w with
 |none=>rfl
 |rF t=>exact H7 t
theorem Ow(i:Item):th F i.toV=i.toV:=by
 cases i with
 |con p t=>show V.tup [msg "constraint", .int p,th F t.toV]=_;rw[H7];rfl
 |decl p var b x l =>
  have:th F b.toV=b.toV:=by
   cases b with
   |none=>rfl
   |_=>exact Jp
  refine(?_:V.tup [msg "decl", .int p,.tup [msg "int", .bool var,.tup [],th F b.toV],.str x.s,th F l.toV]=_);rw[this,rz];rfl
theorem Va(g:Gen):th F g.toV=g.toV:=by
 refine(?_:V.tup [.tup (pN F ((vo g.names).map .str)),th F g.src.toV]=_);rw[DT (λu_=>rfl),U9];rfl
theorem vd:∀T:sL,th F T.toV=T.toV
 |.leaf l=>rz l
 |.bin p eq a l=>by show V.tup [msg "bin", .int p,.str _,th F a.toV,th F l.toV]=_;rw[vd a,rz];rfl
 |.index p b i=>by show V.tup [msg "index", .int p,th F b.toV,.tup [th F i.toV]]=_;rw[vd i,rz];rfl
 |.cond p t a l=>by show V.tup [msg "if", .int p,.tup [.tup [th F t.toV,th F a.toV]],th F l.toV]=_;rw[H7,vd a,rz];rfl
 |.call p f q a l=>by show V.tup [msg "call", .int p,.str f.word,.tup [.tup [msg "array", .int q,.tup [th F a.toV,th F l.toV]]]]=_;rw[vd a,rz];rfl
 |.BI p items a=>by show V.tup [msg "let", .int p,.tup (pN F (items.l.map Item.toV)),th F a.toV]=_;rw[DT Ow,vd a];rfl
 |.tX p k gens wh a=>by show V.tup [.str k.op,.int p,.str k.word,.tup (pN F (gens.l.map Gen.toV)),th F wh.toV,th F a.toV]=_;rw[DT Va,XQ,vd a];rfl
theorem Ox(hd:T.deep<=3)(hs:Sc c n T.asks)(hn:n+2*T.deep<=800)(hb:sr∉T.asks)(z:12+12*T.deep<=M) :
  (∃v,GN (1+T.deep) v/\∀F:FI,Fills F->F9 F wf->o6 oP wf M VO [.ev (.ptr F.p),T.toV] (tC F [c])=.ok v ⟨[],tC F [c]⟩) \/
  ∃(x:Str)(q:Int),∀F:FI,Fills F->F9 F wf->o6 oP wf M VO [.ev (.ptr F.p),T.toV] (tC F [c])=.rQ (.str x) (.int q) (tC F [c]):=by
 refine(let C:Prop:=_;(?_:C))
 have h:=Ra (wf:=wf) T hd hs hn hb z [c] 0 (Q:=λv σ=>GN (1+T.deep) v/\σ=[c]) (X:=λw p σ=>(∃(x:Str)(q:Int),w=.str x/\p=.int q)/\σ=[c]) rfl (λx q=>⟨(uL x q rfl rfl),rfl⟩) λv hv=>⟨hv,rfl⟩;have t:∀(F:FI)(o:Fills F)(y:F9 F wf),_:=λF o y=>XN o y (n:=M) (f:=VO) (vs:=[.ev (.ptr 0),T.toV]) (σ:=[c]);have tv:∀F:FI,pN F [.ev (.ptr 0),T.toV]=[.ev (.ptr F.p),T.toV]:=λF=>aD (λv=>[V.ev (.ptr F.p),v]) (vd T);simp only[xF]at h;cases e:oY wf M VO [.ev (.ptr 0),T.toV] [c]with
 |stuck=>replace h:=(e)▸h;exact h.elim
 |ok v s =>
  rw[e]at h t;obtain⟨hv,hs⟩:=h;refine .inl (o5 v hv (λF o y=>?_));have t:=t F o y;dsimp only at t;rw[tv,hv.th]at t;refine(t).symm▸?_;have A:qR F s=⟨(qR F s).ρ,tC F s.σ⟩:=rfl;rw[A,F8 t,hs]
 |rQ w q D =>
  rw[e]at h t;obtain⟨⟨x,q,rfl,rfl⟩,rfl⟩:=h;refine .inr (zD x q (λF o y=>?_));have t:=t F o y;simp only[tv]at t;exact t
end
noncomputable def Self(n:Nat)(v:V):Prop:=∃y,v.toPy=some y/\y.depth<=n/\a9 y y=true
noncomputable def sE(n:Nat)(l:af V):Prop:=∃ys,V.qv l=some ys/\d3 ys<=n/\jq ys ys=true
section
variable{n d:Nat}{v w:V}{l:af V}
theorem Self.le{k:Nat}(h:Self n v)(hk:n<=k):Self k v:=h.imp λu_ h=>(qB h.1 (aB h.2.1 hk) h.2.2)
theorem sE.cons(h:Self n v)(h':sE n l):sE n (v::l):=by
 refine(let C:Prop:=_;(?_:C))
 refine tq (h) λy h1 h2 o=>?_;refine tq (h') λys h4 z A=>?_;exact qZ (y::ys) (by show BN _ _=_;rw[h1,h4];rfl) (Nat.max_le.mpr ⟨h2,z⟩) (by show(a9 y y&&jq ys ys)=true;rw[o,A];rfl)
theorem sE.nil:sE n []:=(qZ ([]) rfl (bL _) rfl)
theorem sE.all:∀{l:af V},(∀v∈l,Self n v)->sE n l
 |[],_=>.nil
 |v::r,h=>.cons (h v (.head _)) (.all λv hv=>h v (.tail _ hv))
theorem sE.tup(h:sE n l):Self (n+1) (.tup l):=by
 refine tq (h) λys h1 h2 o=>?_;exact qZ (.tuple ys) (by show(V.qv l).map jO=_;rw[h1];rfl) (ax h2) o
theorem sE.lst(h:sE n l):Self (n+1) (.lst l):=by
 refine tq (h) λys h1 h2 o=>?_;exact qZ (.list ys) (by show(V.qv l).map d5=_;rw[h1];rfl) (ax h2) o
theorem vP{i:Int}:Self n (.int i):=(qZ (.int i) rfl (bL _) (by simp[a9]))
theorem A8{i:Str}:Self n (.str i):=(qZ (.str i) rfl (bL _) (by simp[a9]))
theorem KW{i:aN}:Self n (.bool i):=(qZ (.bool i) rfl (bL _) (by simp[a9]))
theorem GN.self(h:GN d v):Self (2*d+2) v:=by
 induction h with
 |int=>exact vP
 |bool=>exact KW
 |set=>exact(sE.all λv hv=>by refine o8 (List.mem_map.mp hv) λi u_ o=>?_;subst o;exact vP).tup
 |@arr d lo hi l hl h ih=>exact(sE.cons (sE.cons (sE.cons vP (.cons vP .nil)).tup .nil).tup (.cons (sE.all ih).lst .nil)).tup
theorem SQ(h:Self 500 v)(s:St):td .NotEq v v s=.ok (.bool false) s:=by
 refine(let C:Prop:=_;(?_:C))
 refine tq (h) λy h1 h2 o=>?_;refine(?_:R.opt (((vt v v).map (!·)).map V.bool) s=_);unfold vt;refine rg (h1) ?_;dsimp only;refine rg (aO (aB (ji ..) h2)) ?_;refine rg (o) ?_;rfl
end
section
variable{wf m p:Nat}{T:sL}{Q:V->af Cell->Prop}{X:XT}{σ:af Cell}{v:V}
theorem Jq(hv:v.oQ=true)(e:o6 oP wf m VO [.ev (.ptr p),T.toV] σ=.ok v ⟨[],σ⟩)(z:Q (.tup [msg "ok", v]) σ):CW (o6 oP wf (m+1) (S "_law_heard") [T.toV,.ptr p] σ) Q X:=by
 refine qk y2 (by kernel_rfl!) ?_
 intro φ o;refine Xv ?_;refine oG (f:=VO) (vs:=[.ev (.ptr p),T.toV]) (σ:=σ) ?_;refine rg (xF ..) ?_;refine rg (e ..) ?_;show let q:=kc (trB o) v σ;pL _ _ q
 intro o;exact oJ (oT (v:=.tup [msg "ok", v]) (by show(v.oQ&&true)=true;rw[hv];rfl) z)
theorem Jr{x:Str}{q:Int}(e:o6 oP wf m VO [.ev (.ptr p),T.toV] σ=.rQ (.str x) (.int q) σ)(z:Q (.tup [msg "bad", .str x,.int q]) σ):CW (o6 oP wf (m+1) (S "_law_heard") [T.toV,.ptr p] σ) Q X:=by
 refine qk y2 (by kernel_rfl!) ?_
 intro φ o;refine Xv ?_;refine oG (f:=VO) (vs:=[.ev (.ptr p),T.toV]) (σ:=σ) ?_;simp only[xF,e];exact oJ (oT (v:=.tup [msg "bad", .str x,.int q]) rfl z)
end
noncomputable abbrev pf(cs:af V)(a:Nat):Cell:=[(S "cells", .lst cs),(S "at", .int a)]
structure RI(σ:af Cell)(cs:af V)(n a:Nat):Prop where
 c:∀v∈cs,∃i,v=.int i
 b:a+n<=10000
section
variable{wf m n:Nat}{σ:af Cell}{Q:V->af Cell->Prop}{X:XT}{cs:af V}{a b:Nat}
theorem RI.le(k:Nat)(h:RI σ cs (n+k) a):RI σ cs n a:=⟨h.c,aB (dy (bJ n k) a) h.b⟩
theorem RI.to{k:Nat}(h:RI σ cs k a)(hk:n<=k):RI σ cs n a:=⟨h.c,aB (dy hk a) h.b⟩
theorem RI.up(h:RI σ cs (n+1) a):RI σ cs n (a+1):=⟨h.c,by have:=h.b;exact pZ (.a .x (.a .y (.n 1))) (.n 10000) (.a (.a .x (.n 1)) .y) (.n 10000) rfl this⟩
theorem pA{v:V}(h:Q v (pf cs b::σ)):HB (σ.length+1) Q v (pf cs b::σ):=by
 unfold HB;cases v.oQ
 ·exact h
 ·dsimp only;exact rg (cJ (by simp)) h
theorem Gb{i:Int}(h:-(2^29)<=i)(h':i<=2^29):small i=true:=by unfold small;exact rg (b5 h) (rg (b5 h') rfl)
theorem H8{i j:Int}{s:St}(hi:small i=true)(hj:small j=true):sy .Mult (.int i) (.int j) s=.ok (.int (i*j)) s:=by
 show(if(small i&&small j)=true then R.ok (V.int (i*j)) s else .stuck)=_
 exact rg (hi ..) (rg (hj ..) rfl)
theorem Js{i j:Int}{s:St}(hj:j≠0):sy .Mod (.int i) (.int j) s=.ok (.int (kY i j)) s:=by
 show(if j=0 then R.stuck else R.ok (V.int (kY i j)) s)=_
 exact rg (aT hj) rfl
theorem Rv{i j:Int}{s:St}(h:j≠0)(hi:small i=true)(hj:small j=true):sy .FloorDiv (.int i) (.int j) s=.ok (.int (jF i j)) s:=by
 show(if j≠0/\small i=true/\small j=true then R.ok (V.int (jF i j)) s else .stuck)=_
 exact rg (aO ⟨h,hi,hj⟩) rfl
theorem Rw{l:af V}{i:Int}{v:V}{s:St}(h:itemAt l i=some v):pW (.lst l) (.int i) s=.ok v s:=by
 show R.opt (itemAt l i) s=_;exact rg (h ..) rfl
theorem sW{k:Int}(B:RI σ cs (n+1) a)(hk:0<k)(h:∀r:Int,0<=r->r<k->Q (.int r) (pf cs (a+1)::σ)) :
  CW (o6 oP wf (m+1) (S "_law_pick") [.ptr 0,.int k] (pf cs a::σ)) Q X:=by
 refine qk Hs (by kernel_rfl!) ?_
 intro φ p;have fin:∀z:Int,Q (.int (kY z k)) (pf cs (a+1)::σ):=λz=>h _ (Int.fmod_nonneg_of_pos _ hk) (Int.fmod_lt_of_pos _ hk);have hk0:k≠0:=gE hk;have hb:=B.b;refine qV 0 (b:=decide ((a:Int)<cs.length)) (λe=>?_) (λe=>?_)<;>intro p
 ·have:∃i,itemAt cs a=some (.int i):=by
   unfold itemAt;refine rg (aO (bq a)) ?_;have ug:a<cs.length:=eo.1 (bR e);obtain⟨i,hi⟩:=B.c _ (iI ug);exact⟨i,rg (en ..) (rg (aW ug) (rg (hi ..) rfl))⟩
  refine this.elim λi hi=>?_;refine oW 1 (v:=.int i) (f:=pW (.lst cs) (.int a)) (λs=>Rw hi) ?_<;>intro p;refine oW 0 (f:=sy .Mod (.int i) (.int k)) (λs=>Js hk0) ?_<;>intro p;exact oJ (pA (fin i))
 ·have ha:(a:Int)<=(10000:Nat):=b9.2 (aB (bJ a (n+1)) hb);have o:small a=true:=Gb (by exact vf (.n 0) .x (.g 536870911) .x rfl (bq _)) (bO ha (by decide))
  have y:small (5*a)=true:=Gb (bO (by decide) (Int.mul_nonneg (by decide) (bq a))) (bO (eX ha (by decide)) (by decide))
  refine oW 0 (f:=sy .Mult (.int 5) (.int a)) (λs=>H8 rfl o) ?_<;>intro p;refine oW 0 (f:=sy .Mult (.int (5*a)) (.int a)) (λs=>H8 y o) ?_<;>intro p;refine oW 0 (f:=sy .Mult (.int 3) (.int a)) (λs=>H8 rfl o) ?_<;>intro p;refine oW 1 (f:=sy .FloorDiv (.int a) (.int 4)) (λs=>Rv (by decide) o rfl) ?_<;>intro p
  refine oW 2 (f:=sy .Mod (.int (5*a*a+3*a+jF a 4+1)) (.int k)) (λs=>Js hk0) ?_<;>intro p;exact oJ (pA (fin (5*a*a+3*a+jF a 4+1)))
theorem vQ(B:RI σ cs (n+1) a)(h0:Q (.int 0) (pf cs (a+1)::σ))(h1:Q (.int 1) (pf cs (a+1)::σ)):CW (o6 oP wf (m+1) (S "_law_pick") [.ptr 0,.int 2] (pf cs a::σ)) Q X :=
 sW B (by decide) λr h h'=>below (P:=λr=>Q (.int r) (pf cs (a+1)::σ)) 2 r h h' (fs (fs fz h0) h1)
theorem A9(B:RI σ cs (n+1) a)(h0:Q (.int 0) (pf cs (a+1)::σ))(h1:Q (.int 1) (pf cs (a+1)::σ))(h2:Q (.int 2) (pf cs (a+1)::σ)):CW (o6 oP wf (m+1) (S "_law_pick") [.ptr 0,.int 3] (pf cs a::σ)) Q X :=
 sW B (by decide) λr h h'=>below (P:=λr=>Q (.int r) (pf cs (a+1)::σ)) 3 r h h' (fs (fs (fs fz h0) h1) h2)
theorem XR(B:RI σ cs (n+1) a)(h0:Q (.int 0) (pf cs (a+1)::σ))(h1:Q (.int 1) (pf cs (a+1)::σ))(h2:Q (.int 2) (pf cs (a+1)::σ))(o:Q (.int 3) (pf cs (a+1)::σ)):CW (o6 oP wf (m+1) (S "_law_pick") [.ptr 0,.int 4] (pf cs a::σ)) Q X :=
 sW B (by decide) λr h h'=>below (P:=λr=>Q (.int r) (pf cs (a+1)::σ)) 4 r h h' (fs (fs (fs (fs fz h0) h1) h2) o)
theorem XS(B:RI σ cs (n+1) a)(h0:Q (.int 0) (pf cs (a+1)::σ))(h1:Q (.int 1) (pf cs (a+1)::σ))(h2:Q (.int 2) (pf cs (a+1)::σ))(o:Q (.int 3) (pf cs (a+1)::σ))(h4:Q (.int 4) (pf cs (a+1)::σ))(y:Q (.int 5) (pf cs (a+1)::σ)):CW (o6 oP wf (m+1) (S "_law_pick") [.ptr 0,.int 6] (pf cs a::σ)) Q X :=
 sW B (by decide) λr h h'=>below (P:=λr=>Q (.int r) (pf cs (a+1)::σ)) 6 r h h' (fs (fs (fs (fs (fs (fs fz h0) h1) h2) o) h4) y)
theorem XU(B:RI σ cs (n+1) a)(h0:Q (.int 0) (pf cs (a+1)::σ))(h1:Q (.int 1) (pf cs (a+1)::σ))(h2:Q (.int 2) (pf cs (a+1)::σ))(o:Q (.int 3) (pf cs (a+1)::σ))(h4:Q (.int 4) (pf cs (a+1)::σ))(y:Q (.int 5) (pf cs (a+1)::σ))(z:Q (.int 6) (pf cs (a+1)::σ))(A:Q (.int 7) (pf cs (a+1)::σ)):CW (o6 oP wf (m+1) (S "_law_pick") [.ptr 0,.int 8] (pf cs a::σ)) Q X :=
 sW B (by decide) λr h h'=>below (P:=λr=>Q (.int r) (pf cs (a+1)::σ)) 8 r h h' (fs (fs (fs (fs (fs (fs (fs (fs fz h0) h1) h2) o) h4) y) z) A)
theorem Vb(B:RI σ cs (n+1) a)(h0:Q (.int 0) (pf cs (a+1)::σ))(h1:Q (.int 1) (pf cs (a+1)::σ))(h2:Q (.int 2) (pf cs (a+1)::σ))(z:Q (.int 3) (pf cs (a+1)::σ))(h4:Q (.int 4) (pf cs (a+1)::σ))(A:Q (.int 5) (pf cs (a+1)::σ))(C:Q (.int 6) (pf cs (a+1)::σ))(D:Q (.int 7) (pf cs (a+1)::σ))(H:Q (.int 8) (pf cs (a+1)::σ))(M:Q (.int 9) (pf cs (a+1)::σ))(o:Q (.int 10) (pf cs (a+1)::σ))(y:Q (.int 11) (pf cs (a+1)::σ)):CW (o6 oP wf (m+1) (S "_law_pick") [.ptr 0,.int 12] (pf cs a::σ)) Q X :=
 sW B (by decide) λr h h'=>below (P:=λr=>Q (.int r) (pf cs (a+1)::σ)) 12 r h h' (fs (fs (fs (fs (fs (fs (fs (fs (fs (fs (fs (fs fz h0) h1) h2) z) h4) A) C) D) H) M) o) y)
theorem Jt{k:Nat}(hk:(0:Int)<k)(B:RI σ cs (n+1) a)(h:∀i:Fin k,Q (.int i.val) (pf cs (a+1)::σ)):CW (o6 oP wf (m+1) (S "_law_pick") [.ptr 0,.int k] (pf cs a::σ)) Q X :=
 sW B hk λr h0 h'=>by
  obtain⟨j,rfl⟩:=gk h0;exact h ⟨j,eo.1 h'⟩
theorem pH(B:RI σ cs (n+2) a)(h:∀(l:qe)(b:Nat),RI σ cs n b->Q l.toV (pf cs b::σ)):CW (o6 oP wf (m+2) (S "_law_leaf") [.ptr 0] (pf cs a::σ)) Q X:=by
 refine qk Ht (by kernel_rfl!) ?_
 intro φ p;refine oG (Vb B ?_ ?_ ?_ ?_ ?_ ?_ ?_ ?_ ?_ ?_ ?_ ?_)<;>intro p
 ·exact oJ (pA (h (qe.int (a+1) 0) _ (B.up.le 1)))
 ·exact oJ (pA (h (qe.int (a+1) 1) _ (B.up.le 1)))
 ·exact oJ (pA (h (qe.int (a+1) 2) _ (B.up.le 1)))
 ·exact oJ (pA (h (qe.name (a+1) .n) _ (B.up.le 1)))
 ·exact oJ (pA (h (qe.name (a+1) .x) _ (B.up.le 1)))
 ·exact oJ (pA (h (qe.name (a+1) .k) _ (B.up.le 1)))
 ·exact oJ (pA (h (qe.name (a+1) .x) _ (B.up.le 1)))
 ·exact oJ (pA (h (qe.name (a+1) .b) _ (B.up.le 1)))
 ·exact oJ (pA (h (qe.name (a+1) .r) _ (B.up.le 1)))
 ·exact oJ (pA (h (qe.name (a+1) .v) _ (B.up.le 1)))
 ·refine oG (A9 B.up ?_ ?_ ?_)<;>intro p
  ·exact oJ (pA (h (qe.size (a+1) false (a+1) .v) _ B.up.up))
  ·exact oJ (pA (h (qe.size (a+1) false (a+1) .x) _ B.up.up))
  ·exact oJ (pA (h (qe.size (a+1) false (a+1) .r) _ B.up.up))
 ·refine oG (A9 B.up ?_ ?_ ?_)<;>intro p
  ·exact oJ (pA (h (qe.size (a+1) true (a+1) .v) _ B.up.up))
  ·exact oJ (pA (h (qe.size (a+1) true (a+1) .x) _ B.up.up))
  ·exact oJ (pA (h (qe.size (a+1) true (a+1) .r) _ B.up.up))
theorem xY(B:RI σ cs (n+5) a)(h:∀(t:Ec)(b:Nat),RI σ cs n b->Q t.toV (pf cs b::σ)):CW (o6 oP wf (m+3) (S "_law_test") [.ptr 0] (pf cs a::σ)) Q X:=by
 refine qk Hu (by kernel_rfl!) ?_
 intro φ p;refine oG (vQ B ?_ ?_)<;>intro p
 ·refine oG (pH B.up λl b o=>?_)<;>intro p;refine oG (pH o λr c y=>?_)<;>intro p;exact oJ (pA (h (Ec.mk a false l r) _ y))
 ·refine oG (pH B.up λl b o=>?_)<;>intro p;refine oG (pH o λr c y=>?_)<;>intro p;exact oJ (pA (h (Ec.mk a true l r) _ y))
theorem Cy(B:RI σ cs (n+5) a)(h:∀(t:Bj)(b:Nat),RI σ cs n b->Q t.toV (pf cs b::σ)):CW (o6 oP wf (m+3) (S "_law_source") [.ptr 0] (pf cs a::σ)) Q X:=by
 refine qk Ds (by kernel_rfl!) ?_
 intro φ p;refine oG (XR B ?_ ?_ ?_ ?_)<;>intro p
 all_goals(refine oG (pH B.up λl b o=>?_)<;>intro p)
 ·exact oJ (pA (h (Bj.range (a+1) (a+1) l) _ (o.le 2)))
 ·refine oG (pH o λr c y=>?_)<;>intro p;exact oJ (pA (h (Bj.pair (a+1) false l r) _ y))
 ·refine oG (pH o λr c y=>?_)<;>intro p;exact oJ (pA (h (Bj.pair (a+1) true l r) _ y))
 ·exact oJ (pA (h (Bj.leaf l) _ (o.le 2)))
theorem qU{d:Nat}(s:St):sy .Sub (.int (d+1)) (.int 1) s=.ok (.int d) s:=aD (λi=>R.ok (V.int i) s) (Int.add_sub_cancel _ _)
theorem Oy:∀(i:Fin 4)(s:St),pW (.tup [.str (S "x"),.str (S "n"),.str (S "b"),.str (S "k")]) (.int i.val) s=.ok (.str (rD i).s) s :=
 Xw (λu_=>rfl) (λu_=>rfl) (λu_=>rfl) (λu_=>rfl)
theorem DU(B:RI σ cs (n+7) a)(h:∀(t:Item)(b:Nat),RI σ cs n b->Q t.toV (pf cs b::σ)):CW (o6 oP wf (m+4) (S "_law_item") [.ptr 0] (pf cs a::σ)) Q X:=by
 refine qk Hv (by kernel_rfl!) ?_
 intro φ p;refine oG (XS B ?_ ?_ ?_ ?_ ?_ ?_)<;>intro p
 all_goals(refine oG (Jt (k:=4) (by decide) B.up λi=>?_)<;>intro p)
 all_goals(refine oW 0 (Oy i) ?_<;>intro p)
 ·refine oG (pH (n:=n+3) B.up.up λl b o=>?_)<;>intro p;exact oJ (pA (h (.decl (a+1) false .none (rD i) l) _ (o.le 3)))
 ·refine oG (pH (n:=n+3) B.up.up λl b o=>?_)<;>intro p;exact oJ (pA (h (.decl (a+1) false .none (rD i) l) _ (o.le 3)))
 ·refine oG (pH (n:=n+3) B.up.up λl b o=>?_)<;>intro p;exact oJ (pA (h (.decl (a+1) false .none (rD i) l) _ (o.le 3)))
 ·refine oG (pH B.up.up λl b o=>?_)<;>intro p;refine oG (pH o λr c y=>?_)<;>intro p;exact oJ (pA (h (.decl (a+1) false (.xK (a+1) (a+1) l) (rD i) r) _ (y.le 1)))
 ·refine oG (pH B.up.up λl b o=>?_)<;>intro p;refine oG (pH o λr c y=>?_)<;>intro p;exact oJ (pA (h (.decl (a+1) true (.xK (a+1) (a+1) l) (rD i) r) _ (y.le 1)))
 ·refine oG (xY B.up.up λt b z=>?_)<;>intro p;exact oJ (pA (h (.con (a+1) t) _ z))
noncomputable def kb(i:Fin 4):aN:=match i with
 |1=>true
 |_=>false
theorem xZ:∀(i:Fin 4)(s:St),decide ((i.val:Int)<2)=true->pW (.tup [.str (S "array"),.str (S "set")]) (.int i.val) s=.ok (.str (Kind.comp (kb i)).word) s :=
 Xw (λu_ u_=>rfl) (λu_ u_=>rfl) (λu_ h=>absurd h (by decide)) (λu_ h=>absurd h (by decide))
noncomputable def y7(wf M d o:Nat):Prop:=∀{n:Nat} {σ:af Cell} {Q:V->af Cell->Prop} {X:XT} {cs:af V} {a:Nat},RI σ cs (n+o) a->(∀(T:sL)(b:Nat),T.deep<=d->RI σ cs n b->Q T.toV (pf cs b::σ))->CW (o6 oP wf M (S "_law_node") [.ptr 0,.int d] (pf cs a::σ)) Q X
theorem H9{d z:Nat}(ih:y7 wf (m+3) d z)(B:RI σ cs (n+z+21) a)(h:∀(t:sL)(b:Nat),t.deep<=d+1->RI σ cs n b->Q t.toV (pf cs b::σ)):CW (o6 oP wf (m+4) (S "_law_through") [.ptr 0,.int (d+1)] (pf cs a::σ)) Q X:=by
 refine qk BH (by kernel_rfl!) ?_
 intro φ p;refine oG (Jt (k:=4) (by decide) B λi=>?_)<;>intro p
 refine oG (A9 B.up ?_ ?_ ?_)<;>intro p
 all_goals(refine oG (Jt (k:=4) (by decide) B.up.up λx=>?_)<;>intro p)
 all_goals(refine oW 0 (Oy x) ?_<;>intro p)
 all_goals(refine oG (Jt (k:=4) (by decide) B.up.up.up λy=>?_)<;>intro p)
 all_goals(refine oW 0 (Oy y) ?_<;>intro p)
 all_goals(refine oG (Cy (n:=n+z+12) B.up.up.up.up λs b C=>?_)<;>intro p)
 ·refine oG (A9 (RI.le (n:=n+z+7) 5 C) ?_ ?_ ?_)<;>intro p
  ·refine oG (xY (n:=n+z+1) (RI.up (RI.le (n:=n+z+7) 5 C)) λt c H=>?_)<;>intro p;refine oW 0 (qU (d:=d)) ?_<;>intro p;refine oG (ih (n:=n+1) (H.to (by exact xb  (.a (.a .x (.n 1)) .y) (.a (.a .x .y) (.n 1)) rfl )) λT e hT o=>?_)<;>intro p
   refine qV 0 (b:=decide ((i.val:Int)<2)) (λq=>?_) (λq=>?_)<;>intro p
   ·refine oW 1 (λs=>xZ i s q) ?_<;>intro p;exact oJ (pA (h (.tX (a+1+1) (.comp (kb i)) (.one (rD x) s) (.rF t) T) _ (ax hT) (o.le 1)))
   ·refine qV 0 (b:=(i.val:Int)==2) (λq=>?_) (λq=>?_)<;>intro p
    ·exact oJ (pA (h (.tX (a+1+1) .sum (.one (rD x) s) (.rF t) T) _ (ax hT) (o.le 1)))
    ·refine oG (vQ o ?_ ?_)<;>intro p
     ·exact oJ (pA (h (.tX (a+1+1) .forall (.one (rD x) s) (.rF t) T) _ (ax hT) o.up))
     ·exact oJ (pA (h (.tX (a+1+1) .p (.one (rD x) s) (.rF t) T) _ (ax hT) o.up))
  ·refine oW 1 (qU (d:=d)) ?_<;>intro p;refine oG (ih (n:=n+1) ((RI.up (RI.le (n:=n+z+7) 5 C)).to (by exact xb  (.a (.a .x (.n 1)) .y) (.a (.a .x .y) (.n 6)) rfl )) λT e hT o=>?_)<;>intro p
   refine qV 0 (b:=decide ((i.val:Int)<2)) (λq=>?_) (λq=>?_)<;>intro p
   ·refine oW 1 (λs=>xZ i s q) ?_<;>intro p;exact oJ (pA (h (.tX (a+1+1) (.comp (kb i)) (.one (rD x) s) .none T) _ (ax hT) (o.le 1)))
   ·refine qV 0 (b:=(i.val:Int)==2) (λq=>?_) (λq=>?_)<;>intro p
    ·exact oJ (pA (h (.tX (a+1+1) .sum (.one (rD x) s) .none T) _ (ax hT) (o.le 1)))
    ·refine oG (vQ o ?_ ?_)<;>intro p
     ·exact oJ (pA (h (.tX (a+1+1) .forall (.one (rD x) s) .none T) _ (ax hT) o.up))
     ·exact oJ (pA (h (.tX (a+1+1) .p (.one (rD x) s) .none T) _ (ax hT) o.up))
  ·refine oW 1 (qU (d:=d)) ?_<;>intro p;refine oG (ih (n:=n+1) ((RI.up (RI.le (n:=n+z+7) 5 C)).to (by exact xb  (.a (.a .x (.n 1)) .y) (.a (.a .x .y) (.n 6)) rfl )) λT e hT o=>?_)<;>intro p
   refine qV 0 (b:=decide ((i.val:Int)<2)) (λq=>?_) (λq=>?_)<;>intro p
   ·refine oW 1 (λs=>xZ i s q) ?_<;>intro p;exact oJ (pA (h (.tX (a+1+1) (.comp (kb i)) (.one (rD x) s) .none T) _ (ax hT) (o.le 1)))
   ·refine qV 0 (b:=(i.val:Int)==2) (λq=>?_) (λq=>?_)<;>intro p
    ·exact oJ (pA (h (.tX (a+1+1) .sum (.one (rD x) s) .none T) _ (ax hT) (o.le 1)))
    ·refine oG (vQ o ?_ ?_)<;>intro p
     ·exact oJ (pA (h (.tX (a+1+1) .forall (.one (rD x) s) .none T) _ (ax hT) o.up))
     ·exact oJ (pA (h (.tX (a+1+1) .p (.one (rD x) s) .none T) _ (ax hT) o.up))
 ·refine oG (A9 (RI.le (n:=n+z+7) 5 C) ?_ ?_ ?_)<;>intro p
  ·refine oG (xY (n:=n+z+1) (RI.up (RI.le (n:=n+z+7) 5 C)) λt c H=>?_)<;>intro p;refine oW 0 (qU (d:=d)) ?_<;>intro p;refine oG (ih (n:=n+1) (H.to (by exact xb  (.a (.a .x (.n 1)) .y) (.a (.a .x .y) (.n 1)) rfl )) λT e hT o=>?_)<;>intro p
   refine qV 0 (b:=decide ((i.val:Int)<2)) (λq=>?_) (λq=>?_)<;>intro p
   ·refine oW 1 (λs=>xZ i s q) ?_<;>intro p;exact oJ (pA (h (.tX (a+1+1) (.comp (kb i)) (.two (rD x) (rD y) s) (.rF t) T) _ (ax hT) (o.le 1)))
   ·refine qV 0 (b:=(i.val:Int)==2) (λq=>?_) (λq=>?_)<;>intro p
    ·exact oJ (pA (h (.tX (a+1+1) .sum (.two (rD x) (rD y) s) (.rF t) T) _ (ax hT) (o.le 1)))
    ·refine oG (vQ o ?_ ?_)<;>intro p
     ·exact oJ (pA (h (.tX (a+1+1) .forall (.two (rD x) (rD y) s) (.rF t) T) _ (ax hT) o.up))
     ·exact oJ (pA (h (.tX (a+1+1) .p (.two (rD x) (rD y) s) (.rF t) T) _ (ax hT) o.up))
  ·refine oW 1 (qU (d:=d)) ?_<;>intro p;refine oG (ih (n:=n+1) ((RI.up (RI.le (n:=n+z+7) 5 C)).to (by exact xb  (.a (.a .x (.n 1)) .y) (.a (.a .x .y) (.n 6)) rfl )) λT e hT o=>?_)<;>intro p
   refine qV 0 (b:=decide ((i.val:Int)<2)) (λq=>?_) (λq=>?_)<;>intro p
   ·refine oW 1 (λs=>xZ i s q) ?_<;>intro p;exact oJ (pA (h (.tX (a+1+1) (.comp (kb i)) (.two (rD x) (rD y) s) .none T) _ (ax hT) (o.le 1)))
   ·refine qV 0 (b:=(i.val:Int)==2) (λq=>?_) (λq=>?_)<;>intro p
    ·exact oJ (pA (h (.tX (a+1+1) .sum (.two (rD x) (rD y) s) .none T) _ (ax hT) (o.le 1)))
    ·refine oG (vQ o ?_ ?_)<;>intro p
     ·exact oJ (pA (h (.tX (a+1+1) .forall (.two (rD x) (rD y) s) .none T) _ (ax hT) o.up))
     ·exact oJ (pA (h (.tX (a+1+1) .p (.two (rD x) (rD y) s) .none T) _ (ax hT) o.up))
  ·refine oW 1 (qU (d:=d)) ?_<;>intro p;refine oG (ih (n:=n+1) ((RI.up (RI.le (n:=n+z+7) 5 C)).to (by exact xb  (.a (.a .x (.n 1)) .y) (.a (.a .x .y) (.n 6)) rfl )) λT e hT o=>?_)<;>intro p
   refine qV 0 (b:=decide ((i.val:Int)<2)) (λq=>?_) (λq=>?_)<;>intro p
   ·refine oW 1 (λs=>xZ i s q) ?_<;>intro p;exact oJ (pA (h (.tX (a+1+1) (.comp (kb i)) (.two (rD x) (rD y) s) .none T) _ (ax hT) (o.le 1)))
   ·refine qV 0 (b:=(i.val:Int)==2) (λq=>?_) (λq=>?_)<;>intro p
    ·exact oJ (pA (h (.tX (a+1+1) .sum (.two (rD x) (rD y) s) .none T) _ (ax hT) (o.le 1)))
    ·refine oG (vQ o ?_ ?_)<;>intro p
     ·exact oJ (pA (h (.tX (a+1+1) .forall (.two (rD x) (rD y) s) .none T) _ (ax hT) o.up))
     ·exact oJ (pA (h (.tX (a+1+1) .p (.two (rD x) (rD y) s) .none T) _ (ax hT) o.up))
 ·refine oG (Cy (n:=n+z+7) C λA M D=>?_)<;>intro p;refine oG (A9 (D) ?_ ?_ ?_)<;>intro p
  ·refine oG (xY (n:=n+z+1) (RI.up (D)) λt c H=>?_)<;>intro p;refine oW 0 (qU (d:=d)) ?_<;>intro p;refine oG (ih (n:=n+1) (H.to (by exact xb  (.a (.a .x (.n 1)) .y) (.a (.a .x .y) (.n 1)) rfl )) λT e hT o=>?_)<;>intro p
   refine qV 0 (b:=decide ((i.val:Int)<2)) (λq=>?_) (λq=>?_)<;>intro p
   ·refine oW 1 (λs=>xZ i s q) ?_<;>intro p;exact oJ (pA (h (.tX (a+1+1) (.comp (kb i)) (.both (rD x) s (rD y) A) (.rF t) T) _ (ax hT) (o.le 1)))
   ·refine qV 0 (b:=(i.val:Int)==2) (λq=>?_) (λq=>?_)<;>intro p
    ·exact oJ (pA (h (.tX (a+1+1) .sum (.both (rD x) s (rD y) A) (.rF t) T) _ (ax hT) (o.le 1)))
    ·refine oG (vQ o ?_ ?_)<;>intro p
     ·exact oJ (pA (h (.tX (a+1+1) .forall (.both (rD x) s (rD y) A) (.rF t) T) _ (ax hT) o.up))
     ·exact oJ (pA (h (.tX (a+1+1) .p (.both (rD x) s (rD y) A) (.rF t) T) _ (ax hT) o.up))
  ·refine oW 1 (qU (d:=d)) ?_<;>intro p;refine oG (ih (n:=n+1) ((RI.up (D)).to (by exact xb  (.a (.a .x (.n 1)) .y) (.a (.a .x .y) (.n 6)) rfl )) λT e hT o=>?_)<;>intro p
   refine qV 0 (b:=decide ((i.val:Int)<2)) (λq=>?_) (λq=>?_)<;>intro p
   ·refine oW 1 (λs=>xZ i s q) ?_<;>intro p;exact oJ (pA (h (.tX (a+1+1) (.comp (kb i)) (.both (rD x) s (rD y) A) .none T) _ (ax hT) (o.le 1)))
   ·refine qV 0 (b:=(i.val:Int)==2) (λq=>?_) (λq=>?_)<;>intro p
    ·exact oJ (pA (h (.tX (a+1+1) .sum (.both (rD x) s (rD y) A) .none T) _ (ax hT) (o.le 1)))
    ·refine oG (vQ o ?_ ?_)<;>intro p
     ·exact oJ (pA (h (.tX (a+1+1) .forall (.both (rD x) s (rD y) A) .none T) _ (ax hT) o.up))
     ·exact oJ (pA (h (.tX (a+1+1) .p (.both (rD x) s (rD y) A) .none T) _ (ax hT) o.up))
  ·refine oW 1 (qU (d:=d)) ?_<;>intro p;refine oG (ih (n:=n+1) ((RI.up (D)).to (by exact xb  (.a (.a .x (.n 1)) .y) (.a (.a .x .y) (.n 6)) rfl )) λT e hT o=>?_)<;>intro p
   refine qV 0 (b:=decide ((i.val:Int)<2)) (λq=>?_) (λq=>?_)<;>intro p
   ·refine oW 1 (λs=>xZ i s q) ?_<;>intro p;exact oJ (pA (h (.tX (a+1+1) (.comp (kb i)) (.both (rD x) s (rD y) A) .none T) _ (ax hT) (o.le 1)))
   ·refine qV 0 (b:=(i.val:Int)==2) (λq=>?_) (λq=>?_)<;>intro p
    ·exact oJ (pA (h (.tX (a+1+1) .sum (.both (rD x) s (rD y) A) .none T) _ (ax hT) (o.le 1)))
    ·refine oG (vQ o ?_ ?_)<;>intro p
     ·exact oJ (pA (h (.tX (a+1+1) .forall (.both (rD x) s (rD y) A) .none T) _ (ax hT) o.up))
     ·exact oJ (pA (h (.tX (a+1+1) .p (.both (rD x) s (rD y) A) .none T) _ (ax hT) o.up))
theorem XW{d:Nat}:(((d:Int)+1)==0)=false:=beq_eq_false_iff_ne.mpr (by exact gE (vf (.n 0) .x (.a (.n 0) (.n 1)) (.a .x (.n 1)) rfl (bq _)))
theorem Cz:y7 wf (m+3) 0 2:=λ{n σ Q X cs a} B h=>by
 refine qk Az (by kernel_rfl!) ?_
 intro φ p;refine oG (pH B λl b o=>?_)<;>intro p;exact oJ (pA (h (.leaf l) _ (aL _) o))
theorem yK{d z:Nat}(C:y7 wf (m+3) d z)(ih:y7 wf (m+4) d z):y7 wf (m+5) (d+1) (z+22):=λ{n σ Q X cs a} B h=>by
 refine qk (vs:=[.ptr 0,.int (d+1)]) Az (by kernel_rfl!) ?_
 intro φ p;refine Bi 0 (XW (d:=d)) ?_<;>intro p;refine oG (XU B ?_ ?_ ?_ ?_ ?_ ?_ ?_ ?_)<;>intro p
 ·refine oG (vQ B.up ?_ ?_)<;>intro p
  ·refine oW 1 (qU (d:=d)) ?_<;>intro p;refine oG (ih (n:=n+2) (B.up.up.to (by exact xb (x:=n) (y:=z) (.a (.a .x (.n 2)) .y) (.a .x (.a .y (.n 20))) rfl)) λT e hT o=>?_)<;>intro p
   refine oG (pH o λl b A=>?_)<;>intro p;exact oJ (pA (h (.bin (a+1) false T l) _ (ax hT) A))
  ·refine oW 1 (qU (d:=d)) ?_<;>intro p;refine oG (ih (n:=n+2) (B.up.up.to (by exact xb (x:=n) (y:=z) (.a (.a .x (.n 2)) .y) (.a .x (.a .y (.n 20))) rfl)) λT e hT o=>?_)<;>intro p
   refine oG (pH o λl b A=>?_)<;>intro p;exact oJ (pA (h (.bin (a+1) true T l) _ (ax hT) A))
 ·refine oG (pH (n:=n+z) (B.up.to (by exact xb (x:=n) (y:=z) (.a (.a .x .y) (.n 2)) (.a .x (.a .y (.n 21))) rfl)) λl b A=>?_)<;>intro p
  refine oW 0 (qU (d:=d)) ?_<;>intro p;refine oG (ih A λT e hT o=>?_)<;>intro p;exact oJ (pA (h (.index (a+1) l T) _ (ax hT) o))
 ·refine oG (xY (n:=n+2+z) (B.up.to (by exact xb (x:=n) (y:=z) (.a (.a (.a .x (.n 2)) .y) (.n 5)) (.a .x (.a .y (.n 21))) rfl)) λt b H=>?_)<;>intro p
  refine oW 0 (qU (d:=d)) ?_<;>intro p;refine oG (ih H λT e hT o=>?_)<;>intro p;refine oG (pH o λl b A=>?_)<;>intro p;exact oJ (pA (h (.cond (a+1) t T l) _ (ax hT) A))
 ·refine oG (A9 B.up ?_ ?_ ?_)<;>intro p
  ·refine oW 1 (qU (d:=d)) ?_<;>intro p;refine oG (ih (n:=n+2) (B.up.up.to (by exact xb (x:=n) (y:=z) (.a (.a .x (.n 2)) .y) (.a .x (.a .y (.n 20))) rfl)) λT e hT o=>?_)<;>intro p
   refine oG (pH o λl b A=>?_)<;>intro p;exact oJ (pA (h (.call (a+1) .sum (a+1) T l) _ (ax hT) A))
  ·refine oW 1 (qU (d:=d)) ?_<;>intro p;refine oG (ih (n:=n+2) (B.up.up.to (by exact xb (x:=n) (y:=z) (.a (.a .x (.n 2)) .y) (.a .x (.a .y (.n 20))) rfl)) λT e hT o=>?_)<;>intro p
   refine oG (pH o λl b A=>?_)<;>intro p;exact oJ (pA (h (.call (a+1) .length (a+1) T l) _ (ax hT) A))
  ·refine oW 1 (qU (d:=d)) ?_<;>intro p;refine oG (ih (n:=n+2) (B.up.up.to (by exact xb (x:=n) (y:=z) (.a (.a .x (.n 2)) .y) (.a .x (.a .y (.n 20))) rfl)) λT e hT o=>?_)<;>intro p
   refine oG (pH o λl b A=>?_)<;>intro p;exact oJ (pA (h (.call (a+1) .p (a+1) T l) _ (ax hT) A))
 ·refine oG (DU (n:=n+z+7) (B.up.to (by exact xb (x:=n) (y:=z) (.a (.a (.a .x .y) (.n 7)) (.n 7)) (.a .x (.a .y (.n 21))) rfl)) λi b D=>?_)<;>intro p
  refine oG (DU D λj c M=>?_)<;>intro p;refine oW 1 (qU (d:=d)) ?_<;>intro p;refine oG (ih M λT e hT o=>?_)<;>intro p;exact oJ (pA (h (.BI (a+1) (.two i j) T) _ (ax hT) o))
 ·refine oG (DU (n:=n+z) (B.up.to (by exact xb (x:=n) (y:=z) (.a (.a .x .y) (.n 7)) (.a .x (.a .y (.n 21))) rfl)) λi b D=>?_)<;>intro p
  refine oW 1 (qU (d:=d)) ?_<;>intro p;refine oG (ih D λT e hT o=>?_)<;>intro p;exact oJ (pA (h (.BI (a+1) (.one i) T) _ (ax hT) o))
 all_goals refine oG (H9 (n:=n) C (B.up.to (by exact xb (x:=n) (y:=z) (.a (.a .x .y) (.n 21)) (.a .x (.a .y (.n 21))) rfl)) λT e hT o=>?_)<;>intro p
 all_goals exact oJ (pA (h T _ hT o))
theorem Gd:y7 wf (m+5) 1 24:=yK Cz Cz
theorem Ba:y7 wf (m+7) 2 46:=yK (m:=m+2) Gd Gd
theorem Ia:y7 wf (m+9) 3 68:=yK (m:=m+4) Ba Ba
end
noncomputable def x8(x b v:V):Cell:=[(S "n", .int 2),(S "r", rC 1 2 [.int 2,.int 1]),(S "x", x),(S "b", b),(S "v", rC 0 1 [.int 1,v])]
noncomputable def VW(h:aN)(a b:V):V:=match h with
 |true=>a
 |false=>b
noncomputable def XX(hb hv:aN):Cell:=x8 (yJ 1 0) (VW hb KU (.bool true)) (VW hv (yJ (-1) 2) (.int 2))
noncomputable def YH(hb hv:aN):Cell:=x8 (.int 1) (VW hb (.bool false) (.bool true)) (VW hv (.int 0) (.int 2))
noncomputable def poC(hb hv:aN):Cell:=x8 (.typ "hx") (VW hb (.typ "hb") (.bool true)) (VW hv (.typ "hv") (.int 2))
noncomputable def r7(cs:af Int)(a:Nat)(hb hv:aN):af Cell:=[pf (cs.map .int) a,XX hb hv,YH hb hv,NX]
noncomputable def hL(hb hv:aN):af Str:=S "x"::((match hb with|true=>[S "b"]|false=>[])++(match hv with|true=>[S "v"]|false=>[]))
noncomputable def Oz(hb hv:aN)(y:Str):aN:=pz (sr::hL hb hv) y
noncomputable def fF(a b c:V)(T:cR):V:=cond (T=="hx") a (cond (T=="hb") b c)
section
variable{wf m n:Nat}{hb hv:aN}{L:af Str}{v:V}{b b':aN}{σ:af Cell}{Q:V->af Cell->Prop}{X:XT}
theorem Ib{P:V->Prop}{x y z:V}(hx:P x)(hy:P y)(hz:P z)(T:cR):P (fF x y z T):=by
 unfold fF;cases T=="hx"
 ·cases T=="hb"
  ·exact hz
  ·exact hy
 ·exact hx
theorem CA{x y z:V}{pre:af Cell}{p:Nat}{hp:p<pre.length}(hx:Ga 15 [x] false)(hy:Ga 15 [y] false)(hz:Ga 15 [z] false):F9 ⟨fF x y z,pre,p,hp⟩ wf:=λT m σ u_ =>
 yI (Ib (P:=λv=>Ga 15 [v] false) hx hy hz T) qr rfl ⟨rfl,rfl⟩
theorem tS.cast(h:tS wf m v b)(e:b'=b):tS wf m v b':=e▸h
theorem KY{X:XT}{T:sL}{cs:af Int}{a:Nat}:w0 ⟨wf,m+3,T.toV,1,3,r7 cs a hb hv,Q,X,XX hb hv,Oz hb hv⟩ where
 hs:=rfl
 hb:=rfl
 hk:=λx=>by
  cases x with
  |n=>exact .inr (o5 (.int 2) rfl (wc.cast (by cases hb<;>cases hv<;>kernel_rfl!)))
  |x=>exact .inr (o5 (yJ 1 0) rfl (Cw.cast (by cases hb<;>cases hv<;>kernel_rfl!)))
  |k=>exact .inl ⟨rfl,by cases hb<;>cases hv<;>kernel_rfl!⟩
  |r=>exact .inr (o5 (rC 1 2 [.int 2,.int 1]) rfl (Cx.cast (by cases hb<;>cases hv<;>kernel_rfl!)))
  |b =>
   cases hb
   ·exact .inr (o5 (.bool true) rfl (H5.cast (by cases hv<;>kernel_rfl!)))
   ·exact .inr (o5 KU rfl (KV.cast (by cases hv<;>kernel_rfl!)))
  |v =>
   induction hv using aJ
   ·exact .inr (o5 (rC 0 1 [.int 1,.int 2]) rfl (Cx.cast (by induction hb using aJ<;>kernel_rfl!)))
   ·exact .inr (o5 (rC 0 1 [.int 1,yJ (-1) 2]) rfl (H6.cast (by induction hb using aJ<;>kernel_rfl!)))
 kb:=by induction hb using aJ<;>induction hv using aJ<;>kernel_rfl!
theorem Ge{x b w:V}{P:Str->V->Prop}(h1:P (S "n") (.int 2))(h2:P (S "r") (rC 1 2 [.int 2,.int 1]))(o:P (S "x") x)(h4:P (S "b") b)(z:P (S "v") (rC 0 1 [.int 1,w])){y:Str}{u:V}(h:(x8 x b w).lookup y=some u):P y u:=by
 refine tW (List.lookup_eq_some_iff.mp h) λl r e u_=>?_;have hm:(y,u)∈x8 x b w:=e▸gG _ (.head _);refine(let C:Prop:=_;(?_:C))
 cases hm with
 |head=>exact h1
 |tail _ hm=>cases hm with
  |head=>exact h2
  |tail _ hm=>cases hm with
   |head=>exact o
   |tail _ hm=>cases hm with
    |head=>exact h4
    |tail _ hm=>cases hm with
     |head=>exact z
     |tail _ hm=>exact(nM hm).elim
theorem Vc(h:L.all (Oz hb hv)=true):Sc (poC hb hv) 5 L where
 sz:=λx v e=>by
  refine Ge (P:=λu_ v=>SZ v/\v.oQ=true) ⟨.no .int,rfl⟩ ⟨.arr (lo:=1) (.inr rfl) rfl,rfl⟩ ⟨.no (.hole rfl),rfl⟩ ?_ ?_ e
  ·induction hb using aJ
   ·exact⟨.no .bool,rfl⟩
   ·exact⟨.no (.hole rfl),rfl⟩
  ·induction hv using aJ
   ·exact⟨.arr (lo:=0) (.inl rfl) rfl,rfl⟩
   ·exact⟨.arr (lo:=0) (.inl rfl) rfl,rfl⟩
 g0:=λx hx v e=>by
  have hk:=List.all_eq_true.mp h x hx;refine Ge (P:=λy v=>Oz hb hv y=true->G0 v) (λu_=>.int (.inr (.inr rfl))) (λu_=>.arr (lo:=1) (.inr rfl) (.inr (.inr rfl)) (.inr (.inl rfl))) (λk=>?_) (λk=>?_) (λk=>?_) e hk
  ·have:Oz hb hv (S "x")=false:=by cases hb<;>induction hv using aJ<;>kernel_rfl!
   exact(nF k).elim
  ·cases hb
   ·exact .bool
   ·have:Oz true hv (S "b")=false:=by induction hv using aJ<;>kernel_rfl!
    exact(nF k).elim
  ·refine(let C:Prop:=_;(?_:C))
   induction hv using aJ
   ·exact .arr (lo:=0) (.inl rfl) (.inr (.inl rfl)) (.inr (.inr rfl))
   ·have:Oz hb true (S "v")=false:=by induction hb using aJ<;>kernel_rfl!
    rw[this]at k;exact(nF k).elim
 np:=by induction hb using aJ<;>induction hv using aJ<;>rfl
 ln:=aL 5
theorem CB(x:Str)(l:af Str)(y:Str):pz (x::l) y=(!a9 (.str x) (.str y)&&pz l y):=oh ..
noncomputable def KZ(hb hv:aN)(L:af Str):aN:=pz L sr&&(L.filter λy=>!pz (hL hb hv) y).isEmpty
theorem Ic:∀L:af Str,KZ hb hv L=L.all (Oz hb hv)
 |[]=>rfl
 |x::r=>by
  have ih:=Ic r;have e:a9 (.str x) (.str sr)=a9 (.str sr) (.str x):=by show(x==sr)=(sr==x);exact BEq.comm
  unfold KZ at ih ⊢;rw[CB,fY,e,eQ,<-ih,show Oz hb hv x=(!a9 (.str sr) (.str x)&&pz (hL hb hv) x)from CB ..];cases a9 (.str sr) (.str x)<;>cases pz (hL hb hv) x<;>cases pz r sr<;>rfl
theorem Rx(h:L.all (Oz hb hv)=true):sr∉L:=λhm=>by
 have:=List.all_eq_true.mp h _ hm;exact(nF this).elim
theorem K0{T:sL}{cs:af Int}{a:Nat}(hd:T.deep<=3)(hk:T.asks.all (Oz hb hv)=true)(z:48<=m) :
  (∃v,GN (1+T.deep) v/\o6 oP wf m VO [.ev (.ptr 1),T.toV] (r7 cs a hb hv)=.ok v ⟨[],r7 cs a hb hv⟩/\o6 oP wf m VO [.ev (.ptr 2),T.toV] (r7 cs a hb hv)=.ok v ⟨[],r7 cs a hb hv⟩) \/
  ∃(x:Str)(q:Int),o6 oP wf m VO [.ev (.ptr 1),T.toV] (r7 cs a hb hv)=.rQ (.str x) (.int q) (r7 cs a hb hv)/\o6 oP wf m VO [.ev (.ptr 2),T.toV] (r7 cs a hb hv)=.rQ (.str x) (.int q) (r7 cs a hb hv):=by
 have c1:tC ⟨fF (yJ 1 0) KU (yJ (-1) 2),r7 cs a hb hv,1,show 1<4 by decide⟩ [poC hb hv]=r7 cs a hb hv:=by induction hb using aJ<;>induction hv using aJ<;>kernel_rfl!
 have c2:tC ⟨fF (.int 1) (.bool false) (.int 0),r7 cs a hb hv,2,show 2<4 by decide⟩ [poC hb hv]=r7 cs a hb hv:=by induction hb using aJ<;>induction hv using aJ<;>kernel_rfl!
 have f1:Fills ⟨fF (yJ 1 0) KU (yJ (-1) 2),r7 cs a hb hv,1,show 1<4 by decide⟩:=Ib (P:=λv=>v.oQ=true) rfl rfl rfl
 have f2:Fills ⟨fF (.int 1) (.bool false) (.int 0),r7 cs a hb hv,2,show 2<4 by decide⟩:=Ib (P:=λv=>v.oQ=true) rfl rfl rfl
 refine(let C:Prop:=_;(?_:C))
 have a1:F9 ⟨fF (yJ 1 0) KU (yJ (-1) 2),r7 cs a hb hv,1,show 1<4 by decide⟩ wf:=CA (λu_ u_ u_=>by kernel_rfl!) (λu_ u_ u_=>by kernel_rfl!) (λu_ u_ u_=>by kernel_rfl!)
 have a2:F9 ⟨fF (.int 1) (.bool false) (.int 0),r7 cs a hb hv,2,show 2<4 by decide⟩ wf:=CA (λu_ u_ u_=>by kernel_rfl!) (λu_ u_ u_=>by kernel_rfl!) (λu_ u_ u_=>by kernel_rfl!)
 have e:∀{P:af Cell->Prop} {c o:af Cell},c=o->P c->P o:=λh=>h▸id;rcases Ox hd (Vc hk) (by exact vS .x (.n 3) .x (.n 3) (y:=0) (.a (.n 5) (.m 2 .x)) (.n 800) rfl hd hd) (Rx hk) (aB (by lia) z)with⟨v,g,r⟩|⟨x,q,r⟩
 ·exact .inl (qZ v g (e (P:=λc=>o6 oP wf m VO [.ev (.ptr 1),T.toV] c=.ok v ⟨[],c⟩) c1 (r _ f1 a1)) (e (P:=λc=>o6 oP wf m VO [.ev (.ptr 2),T.toV] c=.ok v ⟨[],c⟩) c2 (r _ f2 a2)))
 ·exact .inr (uL x q (e (P:=λc=>o6 oP wf m VO [.ev (.ptr 1),T.toV] c=.rQ (.str x) (.int q) c) c1 (r _ f1 a1)) (e (P:=λc=>o6 oP wf m VO [.ev (.ptr 2),T.toV] c=.rQ (.str x) (.int q) c) c2 (r _ f2 a2)))
end
theorem Ry{l:af Int}{n:Nat}(s:St):sP (.lst (l.map .int)) 0 n s=.ok (.lst ((l.take n).map .int)) s:=by
 exact rg (jP ..) rfl
theorem K1{u:Str}{ns:af Str}(s:St):td .NotIn (.str u) (.lst (sv ns)) s=.ok (.bool (pz ns u)) s:=uB s
theorem Vd{u:Str}{ns:af Str}(s:St):td .In (.str u) (.lst (sv ns)) s=.ok (.bool (!pz ns u)) s:=by
 have e:∀o:au aN,R.opt ((o.map (!·)).map V.bool) s=R.ok (V.bool (pz ns u)) s->R.opt (o.map V.bool) s=.ok (.bool (!pz ns u)) s:=λo h=>by
  cases o with
  |none=>cases h
  |some b=>cases b<;>cases e:pz ns u<;>rw[e]at h<;>first|rfl|cases h
 exact e (zc (.str u) (sv ns)) (uB s)
structure LJ where
 a:Nat
 h:pq
 d:pq
 n:pq
 k:pq
 u:pq
noncomputable def x9(is:af Int)(hb hv:aN)(j:LJ):St:=⟨[(S "script", .val (.lst (is.map .int))),(S "reel", .val (.ptr 0)),(S "scope", .val (.ptr 1)),(S "other", .val (.ptr 2)),(S "hangs", j.h),(S "barred", .val (.ptr 3)),(S "deep", j.d),(S "node", j.n),(S "asked", j.k),(S "due", j.u)],r7 (is.take 60) j.a hb hv⟩
noncomputable def Ie(wf m:Nat):Tr :=
 let c:=r7 [] 2 false false
 let p:=HG (defAt 62) (o6 oP (wf+900) (m+149)) (wf+900) [.lst []] []
 let p:=kc p (.int 0) (c.take 3)
 kc p (.int 0) (c.take 3)
section
variable{wf m:Nat}{is:af Int}{hb hv:aN}
noncomputable def LI(hb hv:aN)(r:af Nat)(j:LJ):Prop:=j.a+68*r.length<=1000/\(∀d∈r,d=3\/d=2)/\(j.h=.own (sv (hL hb hv))\/j.h=.val (.lst (sv (hL hb hv))))
noncomputable def Rz:cW->af cW
 |.For _ _ b _ _=>b
 |_=>[]
noncomputable def Ju(wf m:Nat)(s:St):Tr:=uX ⟨oP,o6 oP (wf+900) (m+149),wf+900,(defAt 62).names,[]⟩ ((Rz (qq (defAt 62).body 7)).drop 3) s (λs=>.nx true [] s)
theorem Ve{b:aN}(s:St):td .NotEq (.bool b) (.bool b) s=.ok (.bool false) s:=by cases b<;>rfl
variable{φ:FR}
theorem OA{T:sL}(hT:T.deep<=3){x:aN}(hx:KZ hb hv T.asks=x){j:LJ}(hn:j.n=.val T.toV)(hu:j.u=.val (.bool x))(o:φ.Q=λv u_=>v=.bool true)(z:φ.N true [] (x9 is hb hv j)):pL (o6 oP (wf+900) (m+149)) φ (to 4 0 (Ju wf m (x9 is hb hv j))):=by
 obtain⟨a,h,d,n,k,u⟩:=j;dsimp only at hn hu;subst hn hu
 have st:∀{Q:V->af Cell->Prop} {X:XT},Q (.bool x) (r7 (is.take 60) a hb hv)->CW (o6 oP (wf+900) (m+149) (S "is_settled") [T.toV,.ptr 1,.ptr 3] (r7 (is.take 60) a hb hv)) Q X:=λ{Q X} z =>
  HV (wf:=wf) (m:=m+148) (a:=1) (b:=3) (KY (hb:=hb) (hv:=hv) (wf:=wf+900) (m:=m+145) (T:=T) (cs:=is.take 60) (a:=a)) (by exact qu .x (.n 3) .x (.n 9) rfl hT) (by rw[show uF (Oz hb hv) [] T.asks=x from(Ic _).symm.trans hx];exact z)
 refine oG (st ?_)<;>intro p;refine oW 0 (f:=td .NotEq (.bool x) (.bool x)) Ve ?_<;>intro p;cases x
 ·exact p9 (b:=true) z
 ·have hk:=(Ic _).symm.trans hx;rcases K0 (wf:=wf+900) (m:=m+148) (cs:=is.take 60) (a:=a) hT hk (by exact sO  (.n 48) (.a .x (.n 148)) rfl )with⟨v,g,r1,r2⟩|⟨x,q,r1,r2⟩
  ·have g2:Self 499 v:=g.self.le (by exact vS .x (.n 3) .x (.n 3) (y:=0) (.a (.m 2 (.a (.n 1) .x)) (.n 2)) (.n 499) rfl hT hT)
   refine oG (Jq (m:=m+148) g.np r1 ?_)<;>intro p;refine oG (Jq (m:=m+148) g.np r2 ?_)<;>intro p;refine oW 0 (f:=td .NotEq (.tup [msg "ok", v]) (.tup [msg "ok", v])) (SQ (sE.tup (.cons A8 (.cons g2 .nil)))) ?_<;>intro p;exact p9 (b:=true) z
  ·refine oG (Jr (m:=m+148) r1 ?_)<;>intro p;refine oG (Jr (m:=m+148) r2 ?_)<;>intro p;refine oW 0 (f:=td .NotEq (.tup [msg "bad", .str x,.int q]) (.tup [msg "bad", .str x,.int q])) (SQ (sE.tup (n:=499) (.cons A8 (.cons A8 (.cons vP .nil))))) ?_<;>intro p;exact p9 (b:=true) z
end
section
variable{wf m:Nat}{is:af Int}{hb hv:aN}{φ:FR}
theorem OB{d a:Nat}{cs:af Int}(hd:d=3\/d=2)(ha:a<=932){Q:V->af Cell->Prop}{X:XT}(z:∀(T:sL)(b:Nat),T.deep<=3->b<=a+68->Q T.toV (r7 cs b hb hv)):CW (o6 oP wf (m+149) (S "_law_node") [.ptr 0,.int d] (r7 cs a hb hv)) Q X:=by
 have B:RI [XX hb hv,YH hb hv,NX] (cs.map .int) (10000-a) a:=⟨λv hv=>by refine o8 (List.mem_map.mp hv) λi u_ A=>?_;subst A;exact⟨i,rfl⟩,by exact pZ (.a .x .y) (.n 10000) (.a .y .x) (.n 10000) rfl (ak (ck (qu .x (.n 932) .x (.n 10000) rfl ha)))⟩
 have hk:∀k,k<=68->10000-a-k+k=10000-a:=λk h=>ck (Nat.le_sub_of_add_le (vS .x (.n 932) .y (.n 68) (.a .y .x) (.n 10000) rfl ha h))
 have hb:∀k b,k<=68->b+(10000-a-k)<=10000->b<=a+k:=λk b h h'=>by
  have h1:=hk k h;have h2:10000-a+a=10000:=ck (qu .x (.n 932) .x (.n 10000) rfl ha);rw[<-h1]at h2;generalize 10000-a-k=n at h' h2;exact CJ (.a .x .y) (.n 10000) (.n 10000) (.a (.a .y .z) .w) (.n 0) (.n 0) .x (.a .w .z) rfl h' (ak h2.symm) (aL 0)
 rcases hd with rfl|rfl
 ·exact Ia (m:=m+140) (n:=10000-a-68) (B.to (ak (hk 68 (aL _)))) λT b hT o=>z T b hT (hb 68 b (aL _) o.b)
 ·exact Ba (m:=m+142) (n:=10000-a-46) (B.to (ak (hk 46 (by decide)))) λT b hT o=>z T b (fP hT) (aB (hb 46 b (by decide) o.b) (dy (by decide) a))
theorem CD(hs:af Str):∀l:af Str,sv (l.filter λy=>!pz hs y)=l.flatMap λy=>match pz hs y with|true=>[]|false=>[V.str y]
 |[]=>rfl
 |x::r=>by
  rw[dP,<-CD hs r,fY];cases pz hs x<;>rfl
theorem RA(l:af Str)(s:St):td .Eq (.lst (sv l)) (.lst []) s=.ok (.bool l.isEmpty) s:=by
 refine(?_:R.opt (((match(V.qv (sv l)).map d5,some (d5 [])with|some x,some y=>if min x.depth y.depth<=500 then some (a9 x y)else none|_,_=>none)).map V.bool) s=_)
 refine rg (AI ..) ?_;show R.opt ((if min (d5 (l.map .str)).depth (d5 []).depth<=500 then some (jq (l.map .str) [])else none).map V.bool) s=_
 refine rg (aO (aB (dC ..) (by decide))) ?_
 induction l using bN<;>rfl
theorem OC{d a:Nat}{r:af Nat}{h o A D M:pq}(U:φ.Q=λv u_=>v=.bool true)(hI:LI hb hv (d::r) ⟨a,h,o,A,D,M⟩):let q:=HF 0 (Ie wf m) (.int d) [] (x9 is hb hv ⟨a,h,o,A,D,M⟩);pL (o6 oP (wf+900) (m+149)) {φ with N:=λu_ acc s=>∃j,acc=[]/\s=x9 is hb hv j/\LI hb hv r j} q:=by
 intro q;refine y8 (hI) λha hd hh=>?_;have ha:a+68*(r.length+1)<=1000:=ha;refine oG (OB (hb:=hb) (hv:=hv) (m:=m) (cs:=is.take 60) (a:=a) (hd d (.head _)) (by exact pZ (.a .x (.m 68 (.a .y (.n 1)))) (.n 1000) .x (.n 932) rfl ha) λT b hT O=>?_)<;>intro p
 refine oG (sM T (m+146) (by exact vS .x (.n 3) .x (.n 3) (.m 2 .x) (.a .y (.n 146)) rfl hT hT) (by exact qu .x (.n 3) .x (.n 20) rfl hT) (r7 (is.take 60) b hb hv) ?_)<;>intro p
 have hN:∀(x:aN)(h:pq),h=.own (sv (hL hb hv))\/h=.val (.lst (sv (hL hb hv)))->KZ hb hv T.asks=x->pL (o6 oP (wf+900) (m+149)) {φ with N:=λu_ acc s=>∃j,acc=[]/\s=x9 is hb hv j/\LI hb hv r j} (to 4 0 (Ju wf m (x9 is hb hv ⟨b,h,.val (.int d),.val T.toV,.val (.lst (sv T.asks)),.val (.bool x)⟩))):=λx h hh hx =>
  OA hT hx rfl rfl U (zC _ rfl rfl (by show b+_<=1000;exact uJ (.a .x (.m 68 (.a .y (.n 1)))) (.n 1000) .z (.a .x (.n 68)) (.a .z (.m 68 .y)) (.n 1000) rfl ha O) (λd h=>hd d (.tail _ h)) hh)
 unfold pL at hN;refine oW 0 (f:=td .NotIn (.str sr) (.lst (sv T.asks))) (v:=.bool (pz T.asks sr)) K1 ?_<;>intro p;have We:=qX T;cases e:pz T.asks sr
 ·refine Bi 0 (b:=pz T.asks sr==true) (c:=false) (rg (e ..) rfl) ?_<;>intro p;refine(let C:Prop:=_;(?_:C))
  exact tH (k:=4) (i:=0) (q:=to 4 0 (Ju wf m (x9 is hb hv ⟨b,h,.val (.int d),.val T.toV,.val (.lst (sv T.asks)),.val (.bool (pz T.asks sr))⟩))) (by kernel_rfl!) (hN _ h hh (by unfold KZ;rw[e];rfl))
 ·refine Bi 0 (b:=pz T.asks sr==true) (c:=true) (rg (e ..) rfl) ?_<;>intro p
  let Y:pq->Tr:=λh=>kt 0 (kv 0 (kc (kc (HF 0 (Ie wf m) (.int d) [] (x9 is hb hv ⟨a,h,o,A,D,M⟩)) T.toV (r7 (is.take 60) b hb hv)) (.lst (sv T.asks)) (r7 (is.take 60) b hb hv)) (.bool (pz T.asks sr)) (uA 0 (kc (kc (HF 0 (Ie wf m) (.int d) [] (x9 is hb hv ⟨a,h,o,A,D,M⟩)) T.toV (r7 (is.take 60) b hb hv)) (.lst (sv T.asks)) (r7 (is.take 60) b hb hv)))) true
  have H:pL (o6 oP (wf+900) (m+149)) {φ with N:=λu_ acc s=>∃j,acc=[]/\s=x9 is hb hv j/\LI hb hv r j} (to 2 0 (Y (.val (.lst (sv (hL hb hv)))))):=by
   have hR:=aB (kA (λy=>!pz (hL hb hv) y) T.asks) We
   let g1:pq->St:=λz=>⟨[(S ".0", .no),(S "one", z)],r7 (is.take 60) b hb hv⟩
   refine um 0 .str (λy=>match pz (hL hb hv) y with|true=>[]|false=>[V.str y]) g1 T.asks [] .no 1000 (R:=sv (T.asks.filter λy=>!pz (hL hb hv) y)) (CD _ _) (by rw[aK];exact vS .x (.a (.n 1) (.m 9 .y)) (.m 9 .y) (.n 27) .x (.n 1000) rfl hR (bt 9 hT)) (λy l z hl=>?_) (λz=>?_)<;>intro p
   ·refine oW 0 (Vd (u:=y) (ns:=hL hb hv)) ?_<;>intro p;cases e2:pz (hL hb hv) y
    ·refine Bi 0 (b:=(!pz (hL hb hv) y)==true) (c:=true) (rg (e2 ..) rfl) ?_<;>intro p;simp only[e2]at hl;refine oW 0 (v:=.str y) (qD hl) ?_<;>intro p;exact p9 (b:=true) ⟨rfl,.val (.str y),rfl⟩
    ·refine Bi 0 (b:=(!pz (hL hb hv) y)==true) (c:=false) (rg (e2 ..) rfl) ?_<;>intro p;refine Bi 0 (b:=!pz (hL hb hv) y) (c:=false) (aD _ (e2)) ?_<;>intro p;exact p9 (b:=true) (acc:=l) ⟨(aY l).symm,.val (.str y),rfl⟩
   ·refine oW 1 (RA (T.asks.filter λy=>!pz (hL hb hv) y)) ?_<;>intro p;exact tH (k:=4) (i:=0) (q:=to 4 0 (Ju wf m (x9 is hb hv ⟨b,.val (.lst (sv (hL hb hv))),.val (.int d),.val T.toV,.val (.lst (sv T.asks)),.val (.bool (T.asks.filter λy=>!pz (hL hb hv) y).isEmpty)⟩))) (by kernel_rfl!) (hN _ _ (.inr rfl) (by unfold KZ;rw[e];rfl))
  unfold pL at H;refine(let C:Prop:=_;(?_:C))
  rcases hh with hh|hh
  ·obtain rfl:h=.own (sv (hL hb hv)):=hh;exact tH (k:=2) (i:=0) (by kernel_rfl!) H
  ·obtain rfl:h=.val (.lst (sv (hL hb hv))):=hh;exact tH (k:=2) (i:=0) (by kernel_rfl!) H
end
theorem Vf{wf m:Nat}{is:af Int}:CW (o6 oP (wf+900) (m+150) (S "law") [.lst (is.map .int)] []) (λv u_=>v=.bool true) (λu_ u_ u_=>eu):=by
 refine qk Xi (by kernel_rfl!) ?_
 intro φ p
 have L:∀hb hv:aN,pP (o6 oP (wf+900) (m+149)) φ.n φ.Q (.lp [.int 3,.int 2,.int 2] [] (x9 is hb hv ⟨2,.own (sv (hL hb hv)),.no,.no,.no,.no⟩) (HF 0 (Ie wf m)) (Nw 0 (Ie wf m))) φ.N φ.X:=λhb hv =>
  HH (P:=λv acc s N'=>pP (o6 oP (wf+900) (m+149)) φ.n φ.Q (HF 0 (Ie wf m) v acc s) N' φ.X) (λd:Nat=>.int d) (λu_=>[]) (x9 is hb hv) (LI hb hv)
   (λd r j hI=>by
    obtain⟨a,h,d0,n0,k0,u0⟩:=j;have:=OC (wf:=wf) (m:=m) (φ:=φ) (is:=is) rfl hI;dsimp only at this;unfold pL at this;exact this) (λu_ u_ u_ u_ u_ h=>xJ _ h λu_ u_ u_ h=>h) (λj u_=>by
    have:pL (o6 oP (wf+900) (m+149)) φ (Nw 0 (Ie wf m) [] (x9 is hb hv j)):=oJ (v:=.bool true) (σ:=r7 (is.take 60) j.a hb hv) (by unfold HB;rfl)
    unfold pL at this;exact this) [3,2,2] ⟨2,.own (sv (hL hb hv)),.no,.no,.no,.no⟩ ⟨show 2+68*3<=1000 by decide,by decide,.inl rfl⟩
 refine oW 0 (f:=sP (.lst (is.map .int)) 0 60) Ry ?_<;>intro p;have h60:(is.take 60).length<=60:=List.length_take_le ..;refine um 0 .int (λi=>[V.int i]) (λz=>⟨[(S ".0", .no),(S "cell", z)],[]⟩) (is.take 60) [] .no 1000 (R:=(is.take 60).map .int) g9 (by rw[aK];exact qu .x (.n 60) .x (.n 1000) rfl h60) (λi d z hd=>?_) (λz=>?_)<;>intro p
 ·refine oW 1 (v:=.int i) (qD hd) ?_<;>intro p;exact p9 (b:=true) ⟨rfl,.val (.int i),rfl⟩
 have hr:(V.lst ((is.take 60).map .int)).oQ=true:=qn _;refine Ny 0 (σ':=[pf ((is.take 60).map .int) 0]) (v:=.ptr 0) (f:=rk (pf ((is.take 60).map .int) 0)) (ρ:=(uA 0 p).ρ) (σ:=[]) (aO (by show((V.oQ (.lst ((is.take 60).map .int))&&(true&&true))&&decide (2<=qf))=true;rw[hr];rfl)) ?_<;>intro p
 have B:RI [XX false false,YH false false] ((is.take 60).map .int) 2 0:=⟨λv hv=>by obtain⟨i,_,rfl⟩:=List.mem_map.mp hv;exact⟨i,rfl⟩,by decide⟩
 have B2:∀hb,RI [XX hb false,YH hb false] ((is.take 60).map .int) 1 1:=λhb=>⟨B.c,by decide⟩
 refine oG (sW (k:=3) (a:=0) B (by decide) λr u_ u_=>?_)<;>intro p
 refine Dw 0 λb=>?_;intro p;cases b
 ·refine oG (sW (k:=3) (a:=1) (B2 false) (by decide) λr u_ u_=>?_)<;>intro p
  refine Dw 0 λb=>?_;intro p;cases b
  ·exact tH (k:=2) (i:=0) (by kernel_rfl!) (L false false)
  ·exact tH (k:=2) (i:=0) (by kernel_rfl!) (L false true)
 ·refine oG (sW (k:=3) (a:=1) (B2 true) (by decide) λr u_ u_=>?_)<;>intro p
  refine Dw 0 λb=>?_;intro p;cases b
  ·exact tH (k:=2) (i:=0) (by kernel_rfl!) (L true false)
  ·exact tH (k:=2) (i:=0) (by kernel_rfl!) (L true true)
end
section
open PySem PySem.W
noncomputable def Ig(tb:cR->au c0)(p:b0)(w:bQ)(o:Nat)(y:au ag):Nat->fK->lK->au (fK×lK)
 |0,s,t=>some (s,t)
 |n+1,s,t=>match j0 t with
  |true=>none
  |false=>match stepOk o y t with
   |false=>none
   |true=>match stepT (denote tb) p w s t with
    |some (z,A)=>Ig tb p w o y n z A
    |none=>none
theorem OD{tb:cR->au c0}{p:b0}{w:bQ}{o:Nat}{y:au ag}:∀{n:Nat} {s z:fK} {t A:lK},Ig tb p w o y n s t=some (z,A)->topGo tb p w o y n s.abs t=some (z.abs,A)
 |0,_,_,_,_,h=>by cases h;rfl
 |n+1,s,z,t,A,h=>by
  replace h:(match j0 t with|true=>none|false=>match stepOk o y t with|false=>none|true=>match stepT (denote tb) p w s t with|some (z,A)=>Ig tb p w o y n z A|none=>none)=some (z,A):=h
  unfold topGo;cases he:j0 t with
  |true=>rw[he]at h;cases h
  |false =>
   rw[he]at h;cases hk:stepOk o y t with
   |false=>rw[hk]at h;cases h
   |true =>
    rw[hk]at h;cases hs:stepT (denote tb) p w s t with
    |none=>rw[hs]at h;cases h
    |some r=>obtain⟨C,aaM⟩:=r;rw[hs]at h;dsimp only;rw[stepT_spec hs];exact OD h
noncomputable def Bb(P:bB):BT :=
 .node (boot_o_0 P)
  (.node (boot_o_1 P)
   (.node (boot_o_3 P) (.node (boot_o_7 P) .nil .nil) .nil)
   (.node (boot_o_5 P) (.node (boot_o_9 P) .nil .nil) .nil))
  (.node (boot_o_2 P)
   (.node (boot_o_4 P) (.node (boot_o_8 P) .nil .nil) .nil)
   (.node (boot_o_6 P) (.node (boot_o_10 P) .nil .nil) .nil))
theorem boot_abs(P:bB):absHeap (Bb P) 11 (ff P).life=ff P:=by kernel_rfl!
noncomputable def S0(P:bB)(os:eP):fK:=⟨Bb P,11,(ff P).life,#[],kl,ll,os⟩
noncomputable def ya(tb:cR->au c0)(p:b0)(w:bQ)(o:Nat)(y:au ag):Nat->fK->lK->au fK
 |0,_,_=>none
 |n+1,s,t=>match j0 t with
  |true=>some s
  |false=>match jw o y t with
   |false=>none
   |true=>match jl (jk tb) p w s t with
    |some (z,A)=>ya tb p w o y n z A
    |none=>none
theorem DV{tb:cR->au c0}{p:b0}{w:bQ}{o:Nat}{y:au ag}{n:Nat}{s:fK}{t:lK}:ya tb p w o y (n+1) s t=match j0 t with
  |true=>some s
  |false=>match jw o y t with
   |false=>none
   |true=>match jl (jk tb) p w s t with
    |some (z,A)=>ya tb p w o y n z A
    |none=>none:=rfl
theorem CE{p:b0}{w:bQ}{o:Nat}{y:au ag}:∀{n:Nat} {s z:fK} {t:lK},ya jj p w o y n s t=some z->topRun gJ p w o y n s.abs t=some z.abs
 |0,_,_,_,h=>by cases h
 |n+1,s,z,t,h=>by
  rw[DV]at h;rw[<-Fast.te6613529449190102663,<-Fast.te10156331382660048174,<-Fast.te11892475500146522536,<-fo]at h;unfold topRun;cases he:j0 t with
  |true=>rw[he]at h;cases h;rfl
  |false =>
   rw[he]at h;cases hk:stepOk o y t with
   |false=>rw[hk]at h;cases h
   |true =>
    rw[hk]at h;cases hs:stepT (denote gJ) p w s t with
    |none=>rw[hs]at h;cases h
    |some r=>obtain⟨A,aaM⟩:=r;rw[hs]at h;dsimp only at h ⊢;rw[stepT_spec hs];rw[fo]at h ⊢;rw[<-fo];exact CE h
theorem OE {p q:b0} {loose:af Str} {Xt:ah->aN} {O:Type} {T:ah->O} {U:bQ->O} {g0:aN} {N C:Nat} {H:au ag} {o:bB->bP} {y:bx eR} {z:Drawn} {A:Nat}
  {R:bQ->eP->au fK}
  (D:∀w:bQ,(fencedOpening gJ p w N).map (λs=>(s.heap,s.gens,s.drawn,s.toks))=some (o w.params,y,z,A))
  (size:∀w:bQ,((o w.params).isNs bT&&y.size==0,(o w.params).objs.size,(o w.params).nsMap bT "__annotations__")=(true,C,H))
  (run:∀w os s,R w os=some s->topRun gJ p w C H N ⟨o w.params,y,z,A,os⟩ (topStub p)=some s.abs)
  (h:∀(w:bQ)(os:eP),((R w os).map λs=>(staticsOk (gY p.main.body) (o w.params) s.abs.heap&&namesBound p s.abs.heap&&gensDone s.abs&&laidKept (o w.params) s.abs.heap,
   openSeen q loose (gY p.main.body) Xt g0 s.abs,T s.abs))=some (true,openGood q loose,U w)):LeftO p q loose Xt T U N g0:=λw=>by
 refine o8 (Option.map_eq_some_iff.mp (D w)) λM e e'=>?_;obtain⟨hp,gs,d,k,os⟩:=M;obtain⟨rfl,rfl,rfl,rfl⟩:hp=o w.params/\gs=y/\d=z/\k=A:=by simpa using e'
 obtain⟨z1,z2,z3⟩:_/\_/\_:=by simpa only [et]using size w
 refine o8 (Option.map_eq_some_iff.mp (h w os)) λs hs hl=>?_;have r:=run w os s hs;generalize s.abs=G9 at hl r;obtain⟨l1,l2,l3⟩:_/\_/\_:=by simpa only [et]using hl
 have t:topFrom gJ p w N ⟨o w.params,gs,d,k,os⟩=some G9:=by
  unfold topFrom;dsimp only;rw[z1,z2,z3,r];show(match staticsOk (gY p.main.body) (o w.params) G9.heap&&namesBound p G9.heap&&gensDone G9&&laidKept (o w.params) G9.heap with|true=>_|false=>_)=_
  rw[l1]
 unfold openEnds;rw[e];show(topFrom gJ p w N _).map _=_;rw[t];exact aD some (jr l2 l3)
noncomputable abbrev pV:b0:=mZ
noncomputable def aaN(w:bQ)(os:eP):au fK:=ya jj pV w 11 (some (.ref 6)) 3300 (S0 w.params os) (topStub pV)
theorem BL:opening pV=plainProg pV.main.scope.names:=by kernel_rfl
theorem OF(s:ah):fenceModules? pV s=some s:=by kernel_rfl
theorem K2(w:bQ):((ff w.params).isNs bT&&(kG []:bx eR).size==0,(ff w.params).objs.size,(ff w.params).nsMap bT "__annotations__")=(true,11,some (.ref 6)):=by kernel_rfl
theorem Vg(w:bQ)(os:eP):(S0 w.params os).abs=⟨ff w.params,kG [],kl,ll,os⟩:=by
 show nV (absHeap (Bb w.params) 11 (ff w.params).life) _ _ _ _=_;exact aD (λh=>nV h (kG []) kl ll os) (boot_abs w.params)
theorem Vh(w:bQ)(os:eP)(s:fK)(h:aaN w os=some s):topRun gJ pV w 11 (some (.ref 6)) 3300 ⟨ff w.params,kG [],kl,ll,os⟩ (topStub pV)=some s.abs :=
 Vg w os▸CE h
noncomputable def qL:b0:=view pV [62]
noncomputable def Ih:af Str:=(["range_of", "put_behind", "from_values", "next_from", "has", "FdError", "SpotFault", "EvalFault", "LimitFault", "MOST_VALUES", "MOST_POWER", "MOST_SHOWN", "is_array", "is_set", "number_of", "truth_of", "text_of", "set_of", "list_of", "elements_of", "row_of", "span", "quotient", "within_figures", "power", "are_same", "are_compared", "joined_sets", "reckoned", "show_text", "folded", "FOLDING", "scopes_of", "Evaluator", "fitted_one", "called", "alone", "of_value", "indexes_of", "indexed", "united", "SIZES", "is_made", "is_known", "is_settled", "_law_NAMES", "_law_LEAVES", "_law_pick", "_law_leaf", "_law_test", "_law_source", "_law_through", "_law_item", "_law_node", "_law_less", "_law_asks", "_law_heard"]:af cR).map aa
end
section
open PySem PySem.W PySem.Calls PyProof.Rows
noncomputable def XY:ag:=.str (aa "fdsolve.domains") 187
noncomputable def pmE:ag:=.str (aa "fdsolve.errors") 233
noncomputable def uu:ag:=.str (aa "fdsolve.values") 340
noncomputable def pmS:ag:=.str (aa "fdsolve.sums") 730
noncomputable def OG:ag:=.str (aa "law_pq0381_01") 757
noncomputable def YI(st:cW)(q:Str)(pm:ag)(c:ay)(cl:af (Str×ay))(o:ag):Obj:=match st with
 |.FunctionDef nm ps b _ _ _ sc _ _ _=>{cls:=.type "function", data:=.func {name:=nm,qualname:=q,params:=ps,body:=.stmts b,scope:=sc,globals:=3,closure:=cl,defaults:=.none,kwdefaults:=.none,pyModule:=pm,code:=.ref c,closureTuple:=o}}
 |_=>default
structure Row where
 f:Str
 st:cW
 pm:ag
 a:ay
noncomputable def Row.obj(r:Row):Obj:=YI r.st r.f r.pm (r.a-1) [] .none
noncomputable def rows:af Row:=[⟨S "range_of", qq pD 1,XY,21⟩,
 ⟨S "put_behind", qq pD 2,XY,28⟩,
 ⟨S "from_values", qq pD 3,XY,35⟩,
 ⟨S "next_from", qq pD 4,XY,42⟩,
 ⟨S "has", qq pD 5,XY,49⟩,
 ⟨S "is_array", qq pD 15,uu,137⟩,
 ⟨S "is_set", qq pD 16,uu,144⟩,
 ⟨S "number_of", qq pD 17,uu,151⟩,
 ⟨S "truth_of", qq pD 18,uu,158⟩,
 ⟨S "text_of", qq pD 19,uu,165⟩,
 ⟨S "set_of", qq pD 20,uu,172⟩,
 ⟨S "list_of", qq pD 21,uu,179⟩,
 ⟨S "elements_of", qq pD 22,uu,186⟩,
 ⟨S "row_of", qq pD 23,uu,193⟩,
 ⟨S "span", qq pD 24,uu,200⟩,
 ⟨S "quotient", qq pD 25,uu,207⟩,
 ⟨S "within_figures", qq pD 26,uu,214⟩,
 ⟨S "power", qq pD 27,uu,221⟩,
 ⟨S "are_same", qq pD 28,uu,226⟩,
 ⟨S "are_compared", qq pD 29,uu,233⟩,
 ⟨S "joined_sets", qq pD 30,uu,238⟩,
 ⟨S "reckoned", qq pD 31,uu,245⟩,
 ⟨S "show_text", qq pD 32,uu,250⟩,
 ⟨S "folded", qq pD 33,uu,255⟩,
 ⟨S "scopes_of", qq pD 35,uu,261⟩,
 ⟨S "Evaluator.__init__", qq (ql (qq pD 36)) 0,uu,275⟩,
 ⟨S "Evaluator.value_of", qq (ql (qq pD 36)) 1,uu,282⟩,
 ⟨S "Evaluator.values_of", qq (ql (qq pD 36)) 2,uu,287⟩,
 ⟨S "Evaluator.built", qq (ql (qq pD 36)) 3,uu,292⟩,
 ⟨S "Evaluator.gathered", qq (ql (qq pD 36)) 4,uu,299⟩,
 ⟨S "Evaluator.of_one", qq (ql (qq pD 36)) 5,uu,306⟩,
 ⟨S "Evaluator.of_two", qq (ql (qq pD 36)) 6,uu,313⟩,
 ⟨S "Evaluator.element", qq (ql (qq pD 36)) 7,uu,320⟩,
 ⟨S "Evaluator.chosen", qq (ql (qq pD 36)) 8,uu,327⟩,
 ⟨S "Evaluator.asserted", qq (ql (qq pD 36)) 9,uu,334⟩,
 ⟨S "Evaluator.within", qq (ql (qq pD 36)) 10,uu,341⟩,
 ⟨S "Evaluator.ranges_of", qq (ql (qq pD 36)) 11,uu,348⟩,
 ⟨S "Evaluator.domain_of", qq (ql (qq pD 36)) 12,uu,355⟩,
 ⟨S "Evaluator.fitted", qq (ql (qq pD 36)) 13,uu,360⟩,
 ⟨S "fitted_one", qq pD 37,uu,372⟩,
 ⟨S "called", qq pD 38,uu,377⟩,
 ⟨S "alone", qq pD 39,uu,384⟩,
 ⟨S "of_value", qq pD 40,uu,389⟩,
 ⟨S "indexes_of", qq pD 41,uu,396⟩,
 ⟨S "indexed", qq pD 42,uu,401⟩,
 ⟨S "united", qq pD 43,uu,408⟩,
 ⟨S "is_made", qq pD 46,pmS,416⟩,
 ⟨S "is_known", qq pD 47,pmS,421⟩,
 ⟨S "is_settled", qq pD 48,pmS,426⟩,
 ⟨S "_law_pick", qq pD 52,OG,435⟩,
 ⟨S "_law_leaf", qq pD 53,OG,442⟩,
 ⟨S "_law_test", qq pD 54,OG,449⟩,
 ⟨S "_law_source", qq pD 55,OG,456⟩,
 ⟨S "_law_through", qq pD 56,OG,463⟩,
 ⟨S "_law_item", qq pD 57,OG,470⟩,
 ⟨S "_law_node", qq pD 58,OG,477⟩,
 ⟨S "_law_less", qq pD 59,OG,482⟩,
 ⟨S "_law_asks", qq pD 60,OG,487⟩,
 ⟨S "_law_heard", qq pD 61,OG,494⟩,
 ⟨S "law", qq pD 62,OG,499⟩]
noncomputable def KL(P:bB):Frag:=[
 (2,({cls:=cf,data:=iK #[⟨aE P (aa "type.__subclasses__.Exception.0"),aG (aa "type.__subclasses__.Exception.0") 269,cH 75 0⟩,⟨aE P (aa "type.__subclasses__.Exception.n"),aG (aa "type.__subclasses__.Exception.n") 270,cH 1 0⟩] 2}:Obj)),
 (53,({cls:=bC "cell", data:=Data.cell (some (aH 75))}:Obj)),
 (74,({cls:=bC "dict", data:=iK #[⟨aE P (aa "__module__"),aG (aa "__module__") 242,aG (aa "fdsolve.errors") 233⟩,⟨aE P (aa "__firstlineno__"),aG (aa "__firstlineno__") 246,cH 23 245⟩,⟨aE P (aa "__init__"),aG (aa "__init__") 255,aH 65⟩,⟨aE P (aa "told"),aG (aa "told") 262,aH 72⟩,⟨aE P (aa "__static_attributes__"),aG (aa "__static_attributes__") 264,aH 73⟩,⟨aE P (aa "__weakref__"),aG (aa "__weakref__") 267,aH 76⟩,⟨aE P (aa "__doc__"),aG (aa "__doc__") 268,cf⟩] 4}:Obj)),
 (75,({cls:=bC "type", data:=kM {name:=aa "FdError", bases:=[bC "Exception"],mro:=[aH 75,bC "Exception", bC "BaseException", bC "object"],ns:=74,qualname:=aa "FdError", subclasses:=[aH 104,aH 128]},slots:=#[some (aH 50),none,some (aG (aa "FdError") 235),some (aG (aa "FdError") 243),some (cQ "Exception.__new__"),some (ew true)]}:Obj)),
 (82,({cls:=bC "cell", data:=Data.cell (some (aH 104))}:Obj)),
 (103,({cls:=bC "dict", data:=iK #[⟨aE P (aa "__module__"),aG (aa "__module__") 280,aG (aa "fdsolve.errors") 233⟩,⟨aE P (aa "__firstlineno__"),aG (aa "__firstlineno__") 284,cH 31 283⟩,⟨aE P (aa "__init__"),aG (aa "__init__") 294,aH 94⟩,⟨aE P (aa "told"),aG (aa "told") 301,aH 101⟩,⟨aE P (aa "__static_attributes__"),aG (aa "__static_attributes__") 303,aH 102⟩,⟨aE P (aa "__doc__"),aG (aa "__doc__") 305,cf⟩] 3}:Obj)),
 (104,({cls:=bC "type", data:=kM {name:=aa "SpotFault", bases:=[aH 75],mro:=[aH 104,aH 75,bC "Exception", bC "BaseException", bC "object"],ns:=103,qualname:=aa "SpotFault", subclasses:=[aH 116]},slots:=#[some (aH 79),none,some (aG (aa "SpotFault") 273),some (aG (aa "SpotFault") 281),some (cQ "Exception.__new__"),some (ew true)]}:Obj)),
 (115,({cls:=bC "dict", data:=iK #[⟨aE P (aa "__module__"),aG (aa "__module__") 315,aG (aa "fdsolve.errors") 233⟩,⟨aE P (aa "__firstlineno__"),aG (aa "__firstlineno__") 319,cH 39 318⟩,⟨aE P (aa "__static_attributes__"),aG (aa "__static_attributes__") 320,aH 114⟩,⟨aE P (aa "__doc__"),aG (aa "__doc__") 321,cf⟩] 2}:Obj)),
 (116,({cls:=bC "type", data:=kM {name:=aa "EvalFault", bases:=[aH 104],mro:=[aH 116,aH 104,aH 75,bC "Exception", bC "BaseException", bC "object"],ns:=115,qualname:=aa "EvalFault" },slots:=#[some (aH 107),none,some (aG (aa "EvalFault") 308),some (aG (aa "EvalFault") 316),some (cQ "Exception.__new__"),some (ew true)]}:Obj)),
 (274,({cls:=bC "code", data:=Data.fields #[aG (aa "__init__") 524,aG (aa "Evaluator.__init__") 525,aG (aa "/claim/cut.py") 526,cH 188 0,cH 2 0,cH 0 0,cH 0 0,cH 3 0,aH 269,ew true,cH 181 0,aH 270,cf,aH 271,aH 272,aH 273,cH 529 0,cH 188 0,aG (aa "/claim/cut.py") 530]}:Obj)),
 (362,({cls:=bC "dict", data:=iK #[⟨aE P (aa "__module__"),aG (aa "__module__") 519,aG (aa "fdsolve.values") 340⟩,⟨aE P (aa "__firstlineno__"),aG (aa "__firstlineno__") 523,cH 186 522⟩,⟨aE P (aa "__init__"),aG (aa "__init__") 531,aH 275⟩,⟨aE P (aa "value_of"),aG (aa "value_of") 541,aH 282⟩,⟨aE P (aa "values_of"),aG (aa "values_of") 547,aH 287⟩,⟨aE P (aa "built"),aG (aa "built") 553,aH 292⟩,⟨aE P (aa "gathered"),aG (aa "gathered") 565,aH 299⟩,⟨aE P (aa "of_one"),aG (aa "of_one") 576,aH 306⟩,⟨aE P (aa "of_two"),aG (aa "of_two") 591,aH 313⟩,⟨aE P (aa "element"),aG (aa "element") 607,aH 320⟩,⟨aE P (aa "chosen"),aG (aa "chosen") 617,aH 327⟩,⟨aE P (aa "asserted"),aG (aa "asserted") 625,aH 334⟩,⟨aE P (aa "within"),aG (aa "within") 635,aH 341⟩,⟨aE P (aa "ranges_of"),aG (aa "ranges_of") 650,aH 348⟩,⟨aE P (aa "domain_of"),aG (aa "domain_of") 660,aH 355⟩,⟨aE P (aa "fitted"),aG (aa "fitted") 666,aH 360⟩,⟨aE P (aa "__static_attributes__"),aG (aa "__static_attributes__") 668,aH 361⟩,⟨aE P (aa "__dict__"),aG (aa "__dict__") 670,aH 364⟩,⟨aE P (aa "__weakref__"),aG (aa "__weakref__") 672,aH 365⟩,⟨aE P (aa "__doc__"),aG (aa "__doc__") 673,cf⟩] 4}:Obj)),
 (363,({cls:=bC "type", data:=kM {name:=aa "Evaluator", bases:=[bC "object"],mro:=[aH 363,bC "object"],ns:=362,qualname:=aa "Evaluator" },slots:=#[none,none,some (aG (aa "Evaluator") 512),some (aG (aa "Evaluator") 520),some (cQ "object.__new__"),some (ew true)]}:Obj)),
 (256,({cls:=bC "tuple", data:=kL #[aG (aa "forall") 497,aG (aa "exists") 498,aG (aa "xorall") 499,aG (aa "iffall") 500,aG (aa "sum") 501,aG (aa "product") 502,aG (aa "min") 503,aG (aa "max") 504]}:Obj)),
 (409,({cls:=bC "tuple", data:=kL #[aG (aa "length") 732,aG (aa "index_set") 733,aG (aa "index_set_1of2") 734,aG (aa "index_set_2of2") 735]}:Obj)),
 (427,({cls:=bC "tuple", data:=kL #[aG (aa "x") 759,aG (aa "n") 760,aG (aa "b") 761,aG (aa "k") 762]}:Obj)),
 (428,({cls:=bC "tuple", data:=kL #[aG (aa "n") 764,aG (aa "x") 765,aG (aa "k") 766,aG (aa "x") 767,aG (aa "b") 768,aG (aa "r") 769,aG (aa "v") 770]}:Obj))]
noncomputable def XZ:Obj:=YI (qq (ql (qq pD 7)) 0) (S "FdError.__init__") pmE 64 [(aa "__class__", 53)] (.ref 58)
noncomputable def X0:Obj:=YI (qq (ql (qq pD 8)) 0) (S "SpotFault.__init__") pmE 93 [(aa "__class__", 82)] (.ref 87)
noncomputable def KT(P:bB):Frag:=KL P++(65,XZ)::(94,X0)::rows.map λr=>(r.a,r.obj)
noncomputable def X1:af ay:=[2,53,74,75,82,103,104,115,116,274,362,363,256,409,427,428,65,94]++rows.map (·.a)
noncomputable def RB:af (Str×ag):=[(S "MOST_VALUES", cH 100000 342),(S "MOST_POWER", cH 1000 344),(S "MOST_SHOWN", cH 1000 346),(S "FOLDING", aH 256),(S "SIZES", aH 409),(S "_law_NAMES", aH 427),(S "_law_LEAVES", aH 428),(S "Evaluator", aH 363),(S "EvalFault", aH 116)]
noncomputable def Vi(o:Obj):au (bx ag):=match o.data with
 |.fields vs=>some vs
 |_=>none
noncomputable def RC(v:ag):au Str:=match v with
 |.str n _=>some n
 |_=>none
noncomputable def Gf(h:bP)(c:ay)(q:Str):aN:=((h.get? c).bind Vi).any λvs=>((vs:bx ag)[1]?.bind RC).any (·==q)&&((vs:bx ag)[2]?.bind RC).any (·==aa "/claim/cut.py")
noncomputable def Vj(s:ah):af (au Obj)×aN×af (au ag)×af (au ag)×af (au ag)×af (au ag)×aN :=
 (X1.map s.heap.get?,s.heap.isNs bT&&s.heap.isNs cX&&((S "FdError.__init__", 64)::(S "SpotFault.__init__", 93)::rows.map λr=>(r.f,r.a-1)).all λr=>Gf s.heap r.2 r.1,
  rows.map λr=>s.heap.nsMap bT r.f,RB.map λr=>s.heap.nsMap bT r.1,
  qx.map λp=>s.heap.nsMap bT (aa p.1),qx.map λp=>s.heap.nsMap cX (aa p.1),(s.heap.get? ka).isSome&&(s.heap.nsMap bT "super").isNone&&(s.heap.nsMap cX "super"==some (.type "super"))&&qM.all λt=>(s.heap.nsMap bT (aa t)).isNone&&s.heap.nsMap cX (aa t)==some (.type t))
noncomputable def w9(r:Row):au ag:=if t6 r.f then some (.ref r.a)else none
noncomputable def Vk(w:bQ):af (au Obj)×aN×af (au ag)×af (au ag)×af (au ag)×af (au ag)×aN :=
 ((KT w.params).map (λp=>some p.2),true,rows.map w9,RB.map (λr=>some r.2),qx.map (λu_=>none),qx.map (λp=>some p.2),true)
theorem X2:LeftO pV qL Ih (λu_=>true) Vj Vk 3300:=OE (boot_open BL (by decide) OF) K2 Vh λw os=>by kernel_rfl
theorem qt{o y:Type}{f g:o->y}:∀{l:af o},l.map f=l.map g->∀x∈l,f x=g x
 |[],_,_,h=>(nM h).elim
 |a::l,e,x,h=>by
  rw[a6,a6,kK]at e;rcases List.mem_cons.mp h with rfl|h
  ·exact e.1
  ·exact qt e.2 x h
theorem RD(P:bB):X1=(KT P).map (·.1):=by kernel_rfl
noncomputable def Bc(h:bP)(c:ay):Prop:=∃o vs t,h.get? c=some o/\o.data=.fields vs/\vs[2]?=some (.str (aa "/claim/cut.py") t)
theorem Bc.keeps{h h':bP}{c:ay}(x:Bc h c)(k:∀b o,h.get? b=some o->h'.get? b=some o):Bc h' c:=y9 x λo vs t a b=>zb o vs t (k _ _ a) b
structure pM(w:bQ)(h:bP):Prop where
 kt:(KT w.params).In h
 ns:∃m mb,h.Ns bT m/\h.Ns cX mb/\(∀r∈rows,m r.f=w9 r)/\(∀r∈RB,m r.1=some r.2)/\(∀p∈qx,m (aa p.1)=none/\mb (aa p.1)=some p.2) /\
  (∀t∈qM,m (aa t)=none/\mb (aa t)=some (.type t))/\m "super"=none/\mb "super"=some (.type "super")
 code:∀r∈(S "FdError.__init__", 64)::(S "SpotFault.__init__", 93)::rows.map (λr=>(r.f,r.a-1)),h.CodeRec (.ref r.2) r.1
 mods:∃o,h.get? ka=some o
 file:∀c,c=64\/c=93->Bc h c
theorem pM.keeps{w:bQ}{h h':bP}(x:pM w h)(k:∀b o,h.get? b=some o->h'.get? b=some o):pM w h' :=
 ⟨x.kt.keeps k,sF x.ns λm mb a b r=>tD m mb (a.keeps k) (b.keeps k) r,λr hr=>(x.code r hr).keeps k,x.mods.imp λo e=>k _ _ e,λc hc=>(x.file c hc).keeps k⟩
theorem OH{o:Obj}{vs:bx ag}(h:Vi o=some vs):o.data=.fields vs:=by
 unfold Vi at h;generalize o.data=d at h;cases d with
 |fields y=>rw[ai h]
 |_=>exact(nS h).elim
theorem OI{v:ag}{n:Str}(h:RC v=some n):∃t,v=.str n t:=by
 induction v using gc with
 |str m t=>exact⟨t,by rw[ai h]⟩
 |_=>exact(nS h).elim
theorem X3{y:Type}{o:au y}{p:y->aN}{C:Prop}(h:o.any p=true)(k:∀a,o=some a->p a=true->C):C:=by
 cases o with
 |none=>exact(cj h).elim
 |some a=>exact k a rfl h
theorem Jv{o:au ag}{q:Str}(h:(o.bind RC).any (·==q)=true):∃t,o=some (.str q t) :=
 X3 h λn e g=>by
  have y:n=q:=beq_iff_eq.mp g;subst y;cases o with
  |none=>exact(nS e).elim
  |some v=>exact(OI e).imp λt e=>aD some e
theorem vR{h:bP}{c:ay}{q:Str}(e:Gf h c q=true):h.CodeRec (.ref c) q/\Bc h c :=
 X3 e λvs e1 e=>by
  refine(let C:Prop:=_;(?_:C))
  cases ho:h.get? c with
  |none=>replace e1:=(ho)▸e1;exact(nS e1).elim
  |some o =>
   replace e1:=(ho)▸e1;have hd:=OH e1;have e:=(aw _ _).mp e;obtain⟨t,h1⟩:=Jv e.1;obtain⟨u,h2⟩:=Jv e.2;exact⟨⟨c,_,vs,t,rfl,ho,hd,h1⟩,_,vs,u,ho,hd,h2⟩
theorem OJ{w:bQ}{s:ah}(e:Vj s=Vk w):pM w s.heap:=by
 unfold Vj Vk at e;simp only[et]at e;refine(let C:Prop:=_;(?_:C))
 obtain⟨e1,e2,e3,e4,e5,e6,o⟩:=e;obtain⟨e2,e8⟩:=Bool.and_eq_true_iff.mp e2;obtain⟨y,n2⟩:=Bool.and_eq_true_iff.mp e2;obtain⟨o,e9⟩:=Bool.and_eq_true_iff.mp o;obtain⟨o,e10⟩:=Bool.and_eq_true_iff.mp o;obtain⟨o,e11⟩:=Bool.and_eq_true_iff.mp o;refine⟨Frag.in_of (RD w.params) e1,⟨_,_,.of_isNs y,.of_isNs n2,qt e3,qt e4,λp hp=>⟨qt e5 p hp,qt e6 p hp⟩,λt ht=>?_,Option.isNone_iff_eq_none.mp e11,beq_iff_eq.mp e10⟩,λr hr=>(vR (List.all_eq_true.mp e8 r hr)).1,Option.isSome_iff_exists.mp o,λc hc=>?_⟩
 rotate_left
 ·rcases hc with rfl|rfl
  ·exact(vR (List.all_eq_true.mp e8 _ (.head _))).2
  ·exact(vR (List.all_eq_true.mp e8 _ (.tail _ (.head _)))).2
 have:=List.all_eq_true.mp e9 t ht;rw[aw,Option.isNone_iff_eq_none,fg]at this;exact this
noncomputable def X4(fn:Fn):aN:=fn.params.all (λp=>fn.names.lookup p==some .local||fn.names.lookup p==some .cell)&&decide fn.params.Nodup&&decide (fn.names.map (·.1)).Nodup &&
 fn.names.all λp=>!(p.1==("__debug__" : Str))&&!(p.1==("__classdict__" : Str))&&t6 p.1
noncomputable def Row.fd(r:Row):fV:=match r.obj.data with|.func fd=>fd|_=>default
noncomputable def SR(r:Row):aN:=(match r.obj.data with|.func _=>true|_=>false)&&(match r.fd.body with|.stmts _=>true|_=>false)&&r.fd.scope.kind==.function&&!r.fd.scope.isCoroutine&&!r.fd.scope.isGenerator&&X4 (tP r.st) &&
 l0 (tP r.st).params.length 5
theorem RE:rows.all SR=true:=by kernel_rfl
noncomputable def OK(fd:fV):af cW:=match fd.body with|.stmts b=>b|_=>[]
theorem RG:rows.map (λr=>(r.fd.code,r.fd.qualname,OK r.fd,r.fd.globals,r.fd.builtins,r.fd.closure,r.fd.scope.names))=rows.map (λr=>(.ref (r.a-1),r.f,(tP r.st).body,bT,cX,[],(tP r.st).names)):=by kernel_rfl
noncomputable def ar(n:Nat):af Row:=rows.filter λr=>bH (tP r.st).params.length n
theorem X5:(ar 0).map (λr=>eM r.fd ⟨[],[]⟩)=(ar 0).map λr=>pure ((tP r.st).params.zip []):=by kernel_rfl
theorem X6(a:ag):(ar 1).map (λr=>eM r.fd ⟨[a],[]⟩)=(ar 1).map λr=>pure ((tP r.st).params.zip [a]):=by kernel_rfl
theorem X7(a b:ag):(ar 2).map (λr=>eM r.fd ⟨[a,b],[]⟩)=(ar 2).map λr=>pure ((tP r.st).params.zip [a,b]):=by kernel_rfl
theorem X8(a b c:ag):(ar 3).map (λr=>eM r.fd ⟨[a,b,c],[]⟩)=(ar 3).map λr=>pure ((tP r.st).params.zip [a,b,c]):=by kernel_rfl
theorem X9(a b c d:ag):(ar 4).map (λr=>eM r.fd ⟨[a,b,c,d],[]⟩)=(ar 4).map λr=>pure ((tP r.st).params.zip [a,b,c,d]):=by kernel_rfl
theorem Ya(a b c d e:ag):(ar 5).map (λr=>eM r.fd ⟨[a,b,c,d,e],[]⟩)=(ar 5).map λr=>pure ((tP r.st).params.zip [a,b,c,d,e]):=by kernel_rfl
theorem OL{r:Row}(hr:r∈rows)(o:(tP r.st).params.length<=5):∀vs:af ag,vs.length=(tP r.st).params.length->eM r.fd ⟨vs,[]⟩=pure ((tP r.st).params.zip vs):=by
 intro vs hl;have mem:∀n,vs.length=n->r∈ar n:=λn e=>List.mem_filter.mpr ⟨hr,by rw[<-hl,e];exact Nat.beq_refl n⟩
 rcases vs with _|⟨a,_|⟨b,_|⟨c,_|⟨d,_|⟨e,_|⟨f,vs⟩⟩⟩⟩⟩⟩
 ·exact qt X5 r (mem _ rfl)
 ·exact qt (X6 a) r (mem _ rfl)
 ·exact qt (X7 a b) r (mem _ rfl)
 ·exact qt (X8 a b c) r (mem _ rfl)
 ·exact qt (X9 a b c d) r (mem _ rfl)
 ·exact qt (Ya a b c d e) r (mem _ rfl)
 ·exact absurd (aB (ak hl) o) (gh (cq 6 vs.length))
theorem Vm{w:bQ}{h:bP}(F:pM w h){a:ay}{o:Obj}(e:(KT w.params).lookup a=some o):h.get? a=some o:=F.kt a o e
theorem RH(P:bB):rows.map (λr=>(KT P).lookup r.a)=rows.map λr=>some r.obj:=by kernel_rfl
theorem Gg{T:pg}{r:Row}(hp:T.prog=pV)(F:pM T.w T.b)(hr:r∈rows):FnAt T (tP r.st) r.a:=by
 have ok:=List.all_eq_true.mp RE r hr;unfold SR at ok;simp only[aw]at ok;refine(let C:Prop:=_;(?_:C))
 obtain⟨⟨⟨⟨⟨⟨k1,k2⟩,k3⟩,k4⟩,k5⟩,k6⟩,k7⟩:=ok;unfold X4 at k6;simp only[aw,iJ,bZ,fg,nk,lU]at k6;obtain⟨⟨⟨o,m2⟩,m3⟩,m4⟩:=k6;have hf:=qt RG r hr;simp only[et]at hf;obtain⟨f1,f2,f3,f4,f5,f6,f7⟩:=hf;have at_:∀x k,(tP r.st).names.lookup x=some k->(x,k)∈(tP r.st).names:=λx k e=>mem_of_lookup e;refine⟨⟨r.obj,r.fd,Vm F (qt (RH _) r hr),?_,?_,?_,f4,f5,f6,beq_iff_eq.mp k3,by simpa using k4,by simpa using k5,f7,OL hr (cP k7)⟩,o,m2,m3,λx k e=>?_,λx k e=>?_⟩
 ·delta Row.fd;cases q:r.obj.data with
  |func fd=>rfl
  |_=>replace k1:=(q)▸k1;cases k1
 ·simp only[f1,f2];exact F.code (r.f,r.a-1) (.tail _ (.tail _ (List.mem_map.mpr ⟨r,hr,rfl⟩)))
 ·cases q:r.fd.body with
  |stmts b=>refine(f3)▸?_;unfold OK;rw[q]
  |_=>rw[q]at k2;exact(nF k2).elim
 ·exact(m4 _ (at_ x k e)).1
 ·exact(m4 _ (at_ x k e)).2
theorem SS(P:bB):eH (KT P) (.ref 363) "__getattribute__"=some (some (.builtin "object.__getattribute__")):=by kernel_rfl
theorem Yb(P:bB):eH (KT P) (.ref 363) "__getattr__"=some none:=by kernel_rfl
theorem SU(P:bB):eH (KT P) (.ref 116) "__getattribute__"=some (some (.builtin "BaseException.__getattribute__")):=by kernel_rfl
theorem SW(P:bB):eH (KT P) (.ref 116) "__getattr__"=some none:=by kernel_rfl
theorem Ii(P:bB):mc (KT P) 116 (.type "BaseException")=some true:=by kernel_rfl
section
variable{prog:b0}{w:bQ}{A:aX}{E:ag->ah->Prop}{s:ah}{K:Frag}{x C:ay}{ox:Obj}{od:au Obj}{name:Str}{expr:aN}{Q:ag->ah->Prop}{v:ag}
theorem OM {wu:ag} {Q:cV->ah->Prop} {h:bP} {g:bx eR} {d:Drawn} {t:Nat} {os:eP} (X:K.In h) (I:InstAt h x ox C od) (vq:mc K C (.type "BaseException")=some true)
  (o:Q () ⟨h,g,d,t,os⟩):wpAny (model prog w) A (checkBuiltinCall "BaseException.__getattribute__" ⟨[.ref x,wu],[]⟩) Q E ⟨h,g,d,t,os⟩:=by
 have L0:=I.type (M:=model prog w);have L2:=fq (M:=model prog w) X vq;refine ae ?_;refine ae (L0.at (L2.at ?_));repeat(any_goals(first|assumption|wp_step))
theorem ON (X:K.In s.heap) (I:InstAt s.heap x ox C od) (o:eH K (.ref C) "__getattribute__"=some (some (.builtin "BaseException.__getattribute__"))) (y:eH K (.ref C) "__getattr__"=some none) (vq:mc K C (.type "BaseException")=some true)
  (hf:nj K C od name=some (.value v)) (hh:handedIn v=true) (h:Q v {s with toks:=s.toks+1}):wpAny (model prog w) A (getAttr (.ref x) name expr) Q E s:=by
 obtain⟨hp,g,d,t,os⟩:=s;dsimp only at X I h ⊢;have L0:=I.type (M:=model prog w);have L1:=gT (M:=model prog w) X o;have L4:=gT (M:=model prog w) X y;have L3:=looks_find (M:=model prog w) X I hf;have f3:=PySem.F.attr_Exception.ga.bind (.ref x);have hx0:(expr&&nQ (cQ "BaseException.__getattribute__"))=false:=by induction expr using aJ<;>rfl
 have Vn:(cQ "BaseException.__getattribute__"==cQ "object.__getattribute__")=false:=by decide +kernel
 have Sj:(nQ (aH C)&&cQ "BaseException.__getattribute__"==cQ "object.__getattribute__")=false:=rg (Vn ..) rfl;have hhd:=handedOut_of hh;refine ae (lD (a7 (ae (L0.at (ae (L1.at ?_))))));repeat(any_goals(first|assumption|with_reducible refine Looks.at L4 ?_|wp_step))
 refine ip PySem.F.attr_Exception.ga.plain F.entry_bexc_ga (OM X I vq ?_);unfold c0.«object.__getattribute__»;repeat(any_goals(first|assumption|with_reducible refine Looks.at L0 ?_|with_reducible refine Looks.at L3 ?_|wp_step))
end
noncomputable abbrev YJ(o:Int)(tk:Tok)(mv:ag)(n:Nat):Obj:=bY [⟨o,.str (aa "scope") tk,mv⟩] n
noncomputable abbrev flD(h1 h2:Int)(o y:Tok)(z D:ag)(n:Nat):Obj:=bY [⟨h1,.str (aa "what") o,z⟩,⟨h2,.str (aa "spot") y,D⟩] n
theorem RJ(P:bB)(o:Int)(tk:Tok)(mv:ag)(n:Nat):nj (KT P) 363 (some (YJ o tk mv n)) "scope"=some (.value mv):=by kernel_rfl
theorem K3(P:bB)(h1 h2:Int)(y z:Tok)(o D:ag)(n:Nat):nj (KT P) 116 (some (flD h1 h2 y z o D n)) "what"=some (.value o):=by kernel_rfl
theorem K4(P:bB)(h1 h2:Int)(y z:Tok)(D o:ag)(n:Nat):nj (KT P) 116 (some (flD h1 h2 y z D o n)) "spot"=some (.value o):=by kernel_rfl
theorem yL{v:ag}(h:∀i,v≠.builtin i):handedIn v=true:=by cases v<;>first|rfl|exact absurd rfl (h _)
theorem RK{M:Model}{h:bP}{w:bQ}(F:pM w h){C:ay}(hC:C=363\/C=116):dY M h (ke (.ref C)) .machine:=by
 have e:∃a b o d,(KT w.params).lookup C=some ⟨a,b,.cls o,d⟩:=by rcases hC with rfl|rfl<;>exact⟨_,_,_,_,by with_unfolding_all rfl⟩
 have e2:specialIn (KT w.params) (.ref C) "__call__"=some (some (.builtin "type.__call__")):=by rcases hC with rfl|rfl<;>kernel_rfl
 refine(let C:Prop:=_;(?_:C))
 obtain⟨a,b,o,d,ho⟩:=e;refine(ky (part:=none) (F.kt _ _ ho)).andThen ?_;exact(looks_specialIn F.kt e2).andThen (rg (aO (by decide)) .now)
noncomputable def DW(w:bQ)(h:bP)(mg mb:Str->au ag)(gens:bx eR)(os:eP):pg:={prog:=pV,w,b:=h,g:=oP,mg,mb,Pd:=363,Eb:=116,gens,os}
noncomputable def ve:af (Str×V):=[(S "MOST_VALUES", .int 100000),(S "MOST_POWER", .int 1000),(S "MOST_SHOWN", .int 1000),
 (S "FOLDING", .tup ([S "forall", S "exists", S "xorall", S "iffall", S "sum", S "product", S "min", S "max"].map .str)),
 (S "SIZES", .tup ([S "length", S "index_set", S "index_set_1of2", S "index_set_2of2"].map .str)),
 (S "_law_NAMES", .tup ([S "x", S "n", S "b", S "k"].map .str)),(S "_law_LEAVES", .tup ([S "n", S "x", S "k", S "x", S "b", S "r", S "v"].map .str))]
theorem Ij:(constsOf pD).all (λp=>p.1==S "__name__" ||(ve.map (·.1)).contains p.1)=true:=by kernel_rfl
theorem K5:ve.map (λp=>oP.consts p.1)=ve.map λp=>some p.2:=by kernel_rfl
theorem Gh{x:Str}(h:x∉ve.map (·.1)):oP.consts x=none:=by
 refine(?_:(if x==S "__name__" then none else(constsOf pD).lookup x)=none)
 split
 ·rfl
 ·rename_i hn;cases q:(constsOf pD).lookup x with
  |none=>rfl
  |some v =>
   have:=List.all_eq_true.mp Ij _ (mem_of_lookup q);simp only[bZ,List.contains_iff_mem]at this;rcases this with h1|h1
   ·exact absurd h1 hn
   ·exact absurd h1 h
theorem K6{x:Str}{v:V}(h:oP.consts x=some v):(x,v)∈ve:=by
 by_cases hx:x∈ve.map (·.1)
 ·refine o8 (List.mem_map.mp hx) λp hp o=>?_;subst o;have:=qt K5 p hp;rw[this]at h;obtain rfl:=ai h;exact hp
 ·rw[Gh hx]at h;exact(nS h).elim
noncomputable def isStr(v:ag)(y:Str):aN:=match v with
 |.str x _=>x==y&&b4 y
 |_=>false
theorem K7{v:ag}{y:Str}(h:isStr v y=true):∃t,v=.str y t/\b4 y=true:=by
 induction v using gc with
 |str x t=>have h:=(aw _ _).mp h;exact⟨t,rg (beq_iff_eq.mp h.1) rfl,h.2⟩
 |_=>exact(cj h).elim
noncomputable def DX:af ag->af Str->aN
 |[],[]=>true
 |v::vs,y::l=>isStr v y&&DX vs l
 |_,_=>false
theorem Gi{T:pg}{D:oN}{φ:af ay}:∀{vs:af ag} {l:af Str},DX vs l=true->oK T D φ vs (l.map .str):=by
 intro vs
 induction vs with
 |nil=>intro l h;cases l with
  |nil=>exact .nil
  |cons=>exact(cj h).elim
 |cons v vs ih=>intro l h;cases l with
  |nil=>exact(cj h).elim
  |cons y l =>
   have h:=(aw _ _).mp h;refine o8 (K7 h.1) λt e h1=>?_;subst e;exact .cons (.str _ _ h1) (ih h.2)
theorem zA{T:pg}{P:bB}{a:ay}{l:af Str}(y:(KT P).In T.b)(vs:bx ag)(n:Nat)(e:(KT P).lookup a=some {cls:=.type "tuple", dict:=aC,data:=.seq vs n,slots:=#[]})(h:DX vs.toList l=true)(hz:vs.size<=qf) :
  ∀D:oN,(∀a o,T.b.get? a=some o->D a=some (.fz o))->oR T D [] (.ref a) (.tup (l.map .str)):=λD z=>.tup (z _ _ (y _ _ e)) hz (Gi h)
theorem Yc(P:bB):typeIn (KT P) (.ref 116)=some (.type "type"):=by kernel_rfl
theorem Vo(P:bB):∃o y,(KT P).lookup 116=some ⟨.type "type", none,.cls o,y⟩:=(zD _ _ (by with_unfolding_all rfl))
theorem RL(P:bB):mc (KT P) 116 (.ref 116)=some true:=by kernel_rfl
theorem K8{prog:b0}{w:bQ}{h:bP}(F:pM w h){e d:ay}{vs:bx ag}{y:bx (au ag)}(o:h.get? e=some {cls:=.ref 116,dict:=some d,data:=.fields vs,slots:=y}) :
  dY (model prog w) h (isType (.ref e)) false/\dY (model prog w) h (iO (.ref e) (.type "BaseException")) true/\dY (model prog w) h (raisedInstance (.ref e)) (.ref e)/\dY (model prog w) h (mU (.ref e) (.ref 116)) true:=by
 have L0:dY (model prog w) h (lE (.ref e)) (.ref 116):=(ky o).andThen .now;have L1:dY (model prog w) h (iy (.ref 116) (.type "BaseException")) true:=fq F.kt (Ii _);have L2:dY (model prog w) h (iy (.ref 116) (.ref 116)) true:=fq F.kt (RL _);have L3:dY (model prog w) h (lE (.ref 116)) (.type "type"):=looks_typeIn F.kt (Yc _);refine JC (λA Q E s k q=>?_) (L0.andThen L1) (L0.andThen (L3.andThen (rg (aO (by decide)) .now))) (λA Q E s k q=>?_)
 ·obtain⟨hp,g,dd,t,os⟩:=s;exact ks_wpAny_isType_inst (k _ _ o) (λc hc=>by cases hc) q
 ·have f1:=tc_notTuple;refine uK (Vo w.params) λC z hC=>?_;have hC:=k _ _ (F.kt _ _ hC);obtain⟨hp,g,dd,t,os⟩:=s;replace L0:=L0.keeps k;replace L1:=L1.keeps k;replace L2:=L2.keeps k;replace L3:=L3.keeps k;dsimp only at *;delta mU iO;repeat(any_goals(first|assumption|with_reducible refine bX hC ?_|with_reducible refine Looks.at L0 ?_|with_reducible refine Looks.at L1 ?_|with_reducible refine Looks.at L2 ?_|with_reducible refine Looks.at L3 ?_|wp_step))
theorem K9:zi=rows.map λr=>(r.f,tP r.st):=by kernel_rfl
theorem Jw{f:Str}{fn:Fn}(h:oP.fns f=some fn):∃r∈rows,r.f=f/\tP r.st=fn:=by
 have e:oP.fns f=zi.lookup f:=me Dq f;replace h:=(e)▸h;have:=mem_of_lookup h;replace this:=(K9)▸this;refine o8 (List.mem_map.mp this) λr hr e=>?_;cases e;exact qZ r hr rfl rfl
noncomputable def RM:af Nat:=(S "Evaluator.").cps.toList
noncomputable def isM(r:Row):aN:=r.f.cps.toList.take 10==RM
noncomputable def RN(r:Row):Str:=⟨(r.f.cps.toList.drop 10).toArray⟩
noncomputable def Gj:af Row:=rows.filter isM
theorem La(P:bB):Gj.map (λr=>(eH (KT P) (.ref 363) (RN r),typeIn (KT P) (.ref r.a)))=Gj.map λr=>(some (some (.ref r.a)),some (.type "function")):=by kernel_rfl
theorem Gk(o:Int)(tk:Tok)(mv:ag)(n:Nat):Gj.map (λr=>shadowIn (some (YJ o tk mv n)) (RN r))=Gj.map λr=>some false:=by kernel_rfl
theorem yb:RM.length=10:=by kernel_rfl
theorem RO{r:Row}{m:Str}(hr:r∈rows)(e:r.f=oU m):r∈Gj/\RN r=m:=by
 have h1:r.f.cps.toList=RM++m.cps.toList:=by rw[e];delta oU RM;simp only[Str.cps_append,gX]
 refine⟨List.mem_filter.mpr ⟨hr,?_⟩,?_⟩
 ·unfold isM;refine rg (h1) ?_;refine(List.take_append_of_le_length (by rw[yb];exact aL _)).symm▸?_;refine(cJ (by rw[yb];exact aL _)).symm▸?_;exact cC _
 ·unfold RN;simp only[h1,List.drop_append_of_le_length (by rw[yb];exact aL _),List.drop_of_length_le (by rw[yb];exact aL _),eY]
theorem Jx{h:bP}{x y:ay}{o:Int}{tk:Tok}{mv:ag}{n:Nat}(hx:h.get? x=some {cls:=.ref 363,dict:=some y,data:=.plain,slots:=#[]})(hd:h.get? y=some (YJ o tk mv n)) :
  InstAt h x {cls:=.ref 363,dict:=some y,data:=.plain,slots:=#[]} 363 (some (YJ o tk mv n)):=⟨hx,rfl,rfl,hd⟩
theorem Jy{h:bP}{e d:ay}{vs:bx ag}{y:bx (au ag)}{o:Obj}(z:h.get? e=some {cls:=.ref 116,dict:=some d,data:=.fields vs,slots:=y})(hd:h.get? d=some o) :
  InstAt h e {cls:=.ref 116,dict:=some d,data:=.fields vs,slots:=y} 116 (some o):=⟨z,rfl,rfl,hd⟩
noncomputable abbrev SX(w:bQ)(b:bP):Prop:=∀(A:aX)(E Q:ag->ah->Prop)(s:ah)(a:ay),b.StaysIn s.heap->A.handled=none->A.depth+10<cy->A.units+700<iq ->
  (∀h' x y z tk n C,(∀b o,s.heap.get? b=some o->h'.get? b=some o)->s.heap.get? x=none->s.heap.get? y=none->x≠y->h'.get? x=some {cls:=.ref 363,dict:=some y,data:=.plain,slots:=#[]} ->
   h'.get? y=some (bY [⟨z,.str (aa "scope") tk,.ref a⟩] n)->Q (.ref x) {s with heap:=h',toks:=C})->wpAny (model pV w) A (call (.ref 363) [.ref a]) Q E s
noncomputable abbrev SY(w:bQ)(b:bP):Prop:=∀(A:aX)(E Q:ag->ah->Prop)(s:ah)(y z:ag),b.StaysIn s.heap->A.handled=none->A.depth+10<cy->A.units+700<iq ->
  (∀h' e d vs C h1 D h2 H n M,(∀b o,s.heap.get? b=some o->h'.get? b=some o)->s.heap.get? e=none->s.heap.get? d=none->e≠d->h'.get? e=some {cls:=.ref 116,dict:=some d,data:=.fields vs,slots:=C}->1<vs.size->vs[1]?=some .none ->
   h'.get? d=some (bY [⟨h1,.str (aa "what") D,y⟩,⟨h2,.str (aa "spot") H,z⟩] n)->Q (.ref e) {s with heap:=h',toks:=M})->wpAny (model pV w) A (call (.ref 116) [y,z]) Q E s
theorem uH{n:Nat}(h:n<=1000):n<=qf:=aB h (by unfold qf;decide)
theorem Yd{w:bQ}{h:bP}{mg mb:Str->au ag}{gens:bx eR}{os:eP}(F:pM w h)(hg:h.Ns bT mg)(hb:h.Ns cX mb)(hl:h.NoLimit)(Y:SX w h)(nFl:SY w h):Ir (DW w h mg mb gens os):=by
 refine(let C:Prop:=_;(?_:C))
 obtain⟨m,mb',n1,n2,n3,n4,n5,n6,n7,n8⟩:=F.ns;obtain rfl:mg=m:=funext (hg.agree n1);obtain rfl:mb=mb':=funext (hb.agree n2);have RP:∀{s:ah},h.StaysIn s.heap->pM w s.heap:=λk=>F.keeps k;refine{g:=hg,bl:=hb,nolimit:=hl,mods:=F.mods,consts:=?_,Wi:=?_,GK:=?_,GO:=?_,types:=?_,fns:=?_,meths:=?_,Wj:=n5,ev:=?_,fl:=?_,CQ:=?_,Tn:=?_,Sh:=Y,L8:=nFl}
 ·intro x v hx;have:=K6 hx;simp only[ve,bk,bf,dn,et]at this;have get:∀r∈RB,mg r.1=some r.2:=n4;rcases this with⟨rfl,rfl⟩|⟨rfl,rfl⟩|⟨rfl,rfl⟩|⟨rfl,rfl⟩|⟨rfl,rfl⟩|⟨rfl,rfl⟩|⟨rfl,rfl⟩
  ·exact o5 _ (get _ (.head _)) (λD hD=>.int _ _)
  ·exact o5 _ (get _ (.tail _ (.head _))) (λD hD=>.int _ _)
  ·exact o5 _ (get _ (.tail _ (.tail _ (.head _)))) (λD hD=>.int _ _)
  ·exact o5 _ (get _ (.tail _ (.tail _ (.tail _ (.head _))))) (zA (T:=DW w h mg mb gens os) F.kt _ _ (by with_unfolding_all rfl) (by kernel_rfl) (uH (by decide)))
  ·exact o5 _ (get _ (.tail _ (.tail _ (.tail _ (.tail _ (.head _)))))) (zA (T:=DW w h mg mb gens os) F.kt _ _ (by with_unfolding_all rfl) (by kernel_rfl) (uH (by decide)))
  ·exact o5 _ (get _ (.tail _ (.tail _ (.tail _ (.tail _ (.tail _ (.head _))))))) (zA (T:=DW w h mg mb gens os) F.kt _ _ (by with_unfolding_all rfl) (by kernel_rfl) (uH (by decide)))
  ·exact o5 _ (get _ (.tail _ (.tail _ (.tail _ (.tail _ (.tail _ (.tail _ (.head _)))))))) (zA (T:=DW w h mg mb gens os) F.kt _ _ (by with_unfolding_all rfl) (by kernel_rfl) (uH (by decide)))
 ·intro A E Q s x dx z tk mv n k hn hx hd o;exact get_value (RP k).kt (Jx hx hd) (SS _) (RJ _ _ _ _ _) (yL hn) (o _)
 ·intro A E Q s e d vs sl h1 h2 t1 t2 m1 m2 n k hn y hd o;exact ON (RP k).kt (Jy y hd) (SU _) (SW _) (Ii _) (K3 _ _ _ _ _ _ _ _) (yL hn) (o _)
 ·intro A E Q s e d vs sl h1 h2 t1 t2 m1 m2 n k hn y hd o;exact ON (RP k).kt (Jy y hd) (SU _) (SW _) (Ii _) (K4 _ _ _ _ _ _ _ _) (yL hn) (o _)
 ·intro x v _ hx;refine o8 (Option.map_eq_some_iff.mp hx) λt ht H=>?_;subst H;have hm:=dk ht;have y:=gC ht;refine rg (beq_iff_eq.mp y) ?_;exact⟨(n6 t hm).1,t,rfl,(n6 t hm).2⟩
 ·intro f fn hf Te;refine tq (Jw hf) λr hr M O=>?_;subst M;subst O;refine o5 r.a ?_ (Gg (T:=DW w h mg mb gens os) rfl F hr);refine(?_:mg r.f=_);refine rg (n3 r hr) ?_;unfold w9;exact rg (aO Te) rfl
 ·intro m fn hf;refine tq (Jw hf) λr hr e U=>?_;subst U;obtain⟨hm,rfl⟩:=RO hr e;refine(let C:Prop:=_;(?_:C))
  refine o5 r.a (Gg (T:=DW w h mg mb gens os) rfl F hr) (λA E Q s x dx z tk mv n pl k hx hd o=>?_);have hf:=qt (La w.params) r hm;simp only[et]at hf;exact method_fn (RP k).kt (Jx hx hd) (SS _) (Yb _) hf.1 hf.2 (qt (Gk z tk mv n) r hm) o
 ·exact n4 (S "Evaluator", .ref 363) (cg (i:=7) rfl)
 ·exact n4 (S "EvalFault", .ref 116) (cg (i:=8) rfl)
 ·intro C hC h' k;exact RK (F.keeps k) hC
 ·intro h' e d vs sl k y;exact K8 (F.keeps k) y
end
section
open PySem PySem.W PySem.Calls
section
variable{prog:b0}{w:bQ}{A:aX}{E:ag->ah->Prop}{R:eO->ah->Prop}{h:bP}{g:bx eR}{d:Drawn}{t:Nat}{os:eP}
variable{nm q:Str}{C N:ay}{bs bm:af ag}{Vp:aN}{sn:af Str}{sub:af ag}{ab:aN}{col:au aN}{dd:au ay}{k0 k1 k2 k3 k5:au ag}
theorem Vq (o:bm.contains (.type "Exception")=true) (y:bm.contains (.type "AttributeError")=false) (hN:bm.contains (.type "NameError")=false) {rest:af ag} (hC:h.get? C=some (dJ nm q C N bs bm Vp sn sub ab col dd k0 k1 k2 k3 k5 "Exception.__new__"))
  (z:R (.ok (.ret (.ref (h.objs.size+1)))) ⟨(h.push {cls:=.type "tuple", data:=.seq rest.toArray}).push
   {cls:=.ref C,data:=.fields #[.ref h.objs.size,.none,.none,.none,.bool false,.none]},g,d,t,os⟩) (hrest:rest.length<=dH:=by size_fits) :
  cF (model prog w) A (.builtin "Exception.__new__" ⟨.ref C::rest,[]⟩) R ⟨h,g,d,t,os⟩:=by
 have F:=iV;have ab6:=F.ends;have hcB:(aH C::bm).contains (.type "Exception")=true:=rg (fy ..) (rg (o ..) (rg (Bool.or_true ..) rfl));have hcA:(aH C::bm).contains (.type "AttributeError")=false:=rg (fy ..) (rg (y ..) rfl);have hcN:(aH C::bm).contains (.type "NameError")=false:=rg (fy ..) (rg (hN ..) rfl);refine codeAny_builtinAt F.entry ?_;refine wpAt_bind ?_;refine wpAt_bind (wpAt_stack λp below=>ed ?_)
 wp_walk
 refine ed ?_;refine rg (F.owner) ?_;repeat(first|with_reducible refine mP F.canon hC ?_|with_reducible refine bX hC ?_|(with_reducible refine iB hC ?_;first|rw[hcB]|rw[hcA]|rw[hcN])|wp_step)
 refine(?_:R _ _);refine rg (cK ..) ?_;exact z
theorem DY (H:bm.contains (.type "Exception")=true) (O:bm.contains (.type "AttributeError")=false) (hN:bm.contains (.type "NameError")=false) {rest:af ag} {y:ay} {oI:Obj} {Q:Fin->ah->Prop}
  (hC:h.get? C=some (dJ nm q C N bs bm Vp sn sub ab col dd k0 k1 k2 k3 k5 "Exception.__new__")) (hi:dY (model prog w) h (fS (.ref C) "__init__") (some (.ref y)))
  (z:h.get? y=some oI) (D:oI.cls=.type "function")
  (U:∀h' e,mN h h' e (.ref C) rest ->
   wpAny (model prog w) A (call (.ref y) (.ref e::rest)) (λr M=>r=.none/\Q (.done (.ret (.ref e))) M) E ⟨h',g,d,t,os⟩) (hrest:rest.length<=dH:=by size_fits) :
  wpAny (model prog w) A (c0.«type.__call__» ⟨.ref C::rest,[]⟩) Q E ⟨h,g,d,t,os⟩:=by
 have F:=iV;repeat(first|with_reducible refine bX hC ?_|with_reducible refine jz hC ?_|wp_step)
 refine kI (dF _ F.quiet) (wpAny_check_new_subU F H .base hC ?_);refine Vq H O hN hC ?_ hrest;refine(?_:wpAny _ _ _ _ _ _)
 have up:∀b o,h.get? b=some o->((h.push {cls:=.type "tuple", data:=.seq rest.toArray}).push {cls:=.ref C,data:=.fields #[.ref h.objs.size,.none,.none,.none,.bool false,.none]}).get? b=some o :=
  λb o e=>aq _ (aq _ e)
 have OO:=up _ _ hC;have Ik:=up _ _ z;have OP:=hi.keeps up
 have MG:((h.push {cls:=.type "tuple", data:=.seq rest.toArray}).push
   {cls:=.ref C,data:=.fields #[.ref h.objs.size,.none,.none,.none,.bool false,.none]}).get? (h.objs.size+1)=some
   {cls:=.ref C,data:=.fields #[.ref h.objs.size,.none,.none,.none,.bool false,.none]}:=by heap_get
 have hcC:(aH C::bm).contains (.ref C)=true:=by simp
 repeat(first|with_reducible refine bX MG ?_|(with_reducible refine iB OO ?_;rw[hcC])|wp_step)
 refine OP.at ?_;refine a7 (ae ?_);refine ae (fI (T:="function") (o5 _ Ik D) ?_);refine aj (ae (cE (U _ (h.objs.size+1) ⟨up,eW (dT _),h.objs.size,MG,eW (aL _),?_⟩) (λr M hr=>?_) λu_ u_ x=>x))
 ·exact aq _ (dr rfl rfl)
 ·obtain⟨rfl,hQ⟩:=hr
  wp_walk
  exact hQ
theorem RQ (D:bm.contains (.type "Exception")=true) (H:bm.contains (.type "AttributeError")=false) (hN:bm.contains (.type "NameError")=false) {rest:af ag} {o:ay} {oI:Obj} {Q:ag->ah->Prop}
  (hC:h.get? C=some (dJ nm q C N bs bm Vp sn sub ab col dd k0 k1 k2 k3 k5 "Exception.__new__")) (hi:dY (model prog w) h (fS (.ref C) "__init__") (some (.ref o)))
  (y:h.get? o=some oI) (z:oI.cls=.type "function")
  (M:∀h' e,mN h h' e (.ref C) rest ->
   wpAny (model prog w) (A.under (.builtin "type.__call__" ⟨.ref C::rest,[]⟩)) (call (.ref o) (.ref e::rest)) (λr O=>r=.none/\Q (.ref e) O) E ⟨h',g,d,t,os⟩) (hrest:rest.length<=dH:=by size_fits) :
  wpAny (model prog w) A (call (.ref C) rest) Q E ⟨h,g,d,t,os⟩:=by
 have f1:=tc_lookup;have f2:=tc_bind (.ref C);have hT:(⟨h,g,d,t,os⟩:ah).TypeIs (.ref C) "type":=(o5 _ hC rfl);refine fe (cz ?_);refine(?_:wpAny _ _ (nq (.ref C) _) _ _ _);repeat(any_goals(first|assumption|with_reducible refine bX hC ?_|wp_step))
 refine⟨rfl,?_⟩;refine lj (dF _ (by decide +kernel)) entry_typeCall (kH hC (DY (hrest:=hrest) D H hN hC hi y z λh' e hm=>?_))
 exact M h' e hm
end
end
section
open PySem PySem.W PySem.Calls PySem.Builtin PySem.Builtin.ObjectAttr
theorem S3(P:bB):eH (KT P) (.ref 116) "__setattr__"=some (some (.builtin "object.__setattr__")):=by kernel_rfl
theorem Vr(P:bB):mc (KT P) 116 (.type "object")=some true:=by kernel_rfl
noncomputable def Bd(P:bB):jH:=match(KT P).lookup 116 with|some ⟨_,_,.cls o,_⟩=>o|_=>default
theorem OQ(P:bB):clsIn (KT P) 116=some (Bd P):=by kernel_rfl
section
variable{prog:b0}{w:bQ}{A:aX}{E:ag->ah->Prop}{s:ah}{x:ay}{ox:Obj}{od:au Obj}{name:Str}{v:ag}{tk:Tok}{R:eO->ah->Prop}
theorem OR (X:(KT w.params).In s.heap) (I:InstAt s.heap x ox 116 od) (ht:eH (KT w.params) (.ref 116) name=some none)
  (h:wpAny (model prog w) A.in1 (storeInOwnDict (.ref x) (.ref 116) (.str name tk) name v false)
   (λfin o=>match fin with|.done f=>R (.ok f) o|.again c'=>c'.quiet=true/\cF (model prog w) A c' R o) (λe o=>R (.error e) o) s) :
  cF (model prog w) A (.call (.builtin "object.__setattr__") ⟨[.ref x,.str name tk,v],[]⟩) R s:=by
 have SF:=PySem.F.store_object;have sub:dY (model prog w) s.heap (iO (.ref x) (.type "object")) true:=I.type.andThen (fq X (Vr w.params));refine ip SF.slot.plain SF.entry (@check_slot (model prog w) _ _ s "object.__setattr__" "object" "__setattr__" (.ref x) [.str name tk,v] [] _ SF.kind SF.split sub (SF.args (.ref x) (.str name tk) v) ?_);have hm:dY (model prog w) s.heap (mroOf (.ref 116)) (Bd w.params).mro:=(gr X (OQ w.params)).andThen .now;simp only[osa_eq,refuse_eq];refine ae (ae (I.type.here (ae (hm.here ?_))));refine aj (ae (I.type.here (ae ((gT X ht).here (ae (aj ?_))))));exact h
set_option tactic.hygienic true in
theorem Il {o:ay} {es:af DictEntry} {n:Nat} {Q:Fin->ah->Prop} (D:s.heap.get? o=some (fT es n)) (hl:(getL name es).isSome=true) (hz:(putL name (aE w.params name) (.str name s.toks) v es).length<=1000)
  (h:∀h',h'.get? o=some (fT (putL name (aE w.params name) (.str name s.toks) v es) (putN name es n))->(∀b,b≠o->h'.get? b=s.heap.get? b)->Q (.done (.ret .none)) {s with heap:=h',toks:=s.toks+1}) :
  wpAny (model prog w) A (storeInDict o (.str name tk) name v) Q E s:=by
 have e:=putName_dict name (aE w.params name) (.str name s.toks) v es n
 have D':(s.heap.update o (ov name (aE w.params name) (.str name s.toks) v)).get? o=some (fT (putL name (aE w.params name) (.str name s.toks) v es) (putN name es n)):=by
  simp only[bu _ D (aD _ (e)),e]
 have K:∀b,b≠o->(s.heap.update o (ov name (aE w.params name) (.str name s.toks) v)).get? b=s.heap.get? b:=λb hb=>fj _ _ _ _ hb;refine ae (aj (ae ?_));refine ae (ae (d4 (aj (ae (lD (ae (ij D ?_)))))));dsimp only
 have c:(!es.toArray.any (·.key.isStr name)&&es.toArray.any (·.refKey))=false:=by
  refine(lV)▸?_;refine(lV)▸?_;unfold getL at hl;split at hl
  ·rename_i C y;refine(List.any_eq_true.mpr (o5 C (dk y) (gC y))).symm▸?_;rfl
  ·split at hl
   ·exact(nF hl).elim
   ·rename_i z;simp only[Bool.not_eq_true]at z;rw[z,fB]
 rw[aRefKeyMayBeTheName_at,c];refine wpAny_updatePart D ?_;refine ae (wpAny_lookBehind D' (pastItsLine_dict (by rw[bo,ik];exact qu .x (.n 1000) .x (.n 16777217) rfl hz)) ?_)
 exact aj (h _ D' K)
theorem RS {o:ay} {es:af DictEntry} {n:Nat} {vs:bx ag} {y:bx (au ag)} {Q:cV->ah->Prop} (X:(KT w.params).In s.heap) (hx:s.heap.get? x=some ⟨.ref 116,some o,.fields vs,y⟩) (D:s.heap.get? o=some (fT es n)) (ht:eH (KT w.params) (.ref 116) name=some none)
  (hl:(getL name es).isSome=true) (hz:(putL name (aE w.params name) (.str name (s.toks+1)) v es).length<=1000)
  (h:∀h',h'.get? o=some (fT (putL name (aE w.params name) (.str name (s.toks+1)) v es) (putN name es n))->(∀b,b≠o->h'.get? b=s.heap.get? b)->Q () {s with heap:=h',toks:=s.toks+2}) :
  wpAny (model prog w) A (setAttr (.ref x) name v) Q E s:=by
 have I:InstAt s.heap x ⟨.ref 116,some o,.fields vs,y⟩ 116 (some (fT es n)):=⟨hx,rfl,rfl,D⟩;refine nJ X I (S3 w.params) (OR (s:={s with toks:=s.toks+1}) X I ht ?_)
 refine ae (aj (ae (ae (ij hx (ae (gr X (OQ w.params) _ _ _ _ (λu_ u_ e=>e) ?_))))));refine aj (a:=some o) ?_;exact Il (s:={s with toks:=s.toks+1}) D hl hz h
theorem RT {vs:bx ag} {y:bx (au ag)} {Q:cV->ah->Prop} (X:(KT w.params).In s.heap) (hx:s.heap.get? x=some ⟨.ref 116,none,.fields vs,y⟩) (ht:eH (KT w.params) (.ref 116) name=some none)
  (h:∀h',h'.get? x=some ⟨.ref 116,some s.heap.objs.size,.fields vs,y⟩->h'.get? s.heap.objs.size=some (fT [⟨aE w.params name,.str name (s.toks+1),v⟩] 1)->(∀b o,b≠x->s.heap.get? b=some o->h'.get? b=some o) ->
   Q () {s with heap:=h',toks:=s.toks+2}) :
  wpAny (model prog w) A (setAttr (.ref x) name v) Q E s:=by
 have I:InstAt s.heap x ⟨.ref 116,none,.fields vs,y⟩ 116 none:=⟨hx,rfl,rfl,trivial⟩;refine nJ X I (S3 w.params) (OR (s:={s with toks:=s.toks+1}) X I ht ?_)
 refine ae (aj (ae (ae (ij hx (ae (gr X (OQ w.params) _ _ _ _ (λu_ u_ e=>e) ?_))))));have Wr:x≠s.heap.objs.size:=a5 (aS hx);refine ae (wpAny_alloc ?_);refine ae (wpAny_update (aq _ hx) ?_);refine aj (a:=some s.heap.objs.size) ?_;have hx':=bu (h:=s.heap.push {cls:=.type "dict", data:=.dict #[]}) (f:=λo:Obj=>{cls:=o.cls,dict:=some s.heap.objs.size,data:=o.data,slots:=o.slots}) (aq _ hx) rfl;have hd:=(fj (s.heap.push {cls:=.type "dict", data:=.dict #[]}) s.heap.objs.size x (λo:Obj=>{cls:=o.cls,dict:=some s.heap.objs.size,data:=o.data,slots:=o.slots}) Wr.symm).trans (dr rfl rfl);refine Il (s:=⟨_,s.gens,s.drawn,s.toks+1,s.os⟩) (es:=[]) (n:=0) hd rfl (by simp[putL]) λh' e1 e2=>h h' ((e2 _ Wr).trans hx') e1 λb o hb e=>?_
 exact(e2 b (a5 (aS e))).trans ((fj _ _ _ _ hb).trans (aq _ e))
end
noncomputable abbrev xI:cR:="Exception.__init__"
theorem RU:lE (.builtin xI)=pure (.type "wrapper_descriptor"):=by kernel_rfl
theorem CG:Slot "wrapper_descriptor" "__get__" "wrapper_descriptor.__get__":=.of (owner:="wrapper_descriptor") (n:="__get__") (by rw[dQ,cU];kernel_rfl) (by decide +kernel) (by decide +kernel) (by decide +kernel)
 (by first|exact .inl (by decide +kernel)|exact .inr (by decide +kernel)) (by rw[dp];kernel_rfl)
theorem Im:jc table "wrapper_descriptor.__get__"=some c0.«wrapper_descriptor.__get__»:=jA (by kernel_rfl)
theorem Lb(a b c:ag):lJ "wrapper_descriptor.__get__" ⟨[a,b,c],[]⟩:=by unfold lJ;kernel_rfl
noncomputable abbrev wrapObj(x:ay):Obj:={cls:=.type "method-wrapper", dict:=none,data:=.fields #[.builtin xI,.ref x],slots:=#[]}
section
variable{prog:b0}{w:bQ}{A:aX}{E:ag->ah->Prop}{h:bP}{g:bx eR}{d:Drawn}{t:Nat}{os:eP}
theorem Lc {x:ay} {o:Obj} {y:au Obj} {Q:Fin->ah->Prop} (X:(KT w.params).In h) (I:InstAt h x o 116 y)
  (z:Q (.done (.ret (.ref h.objs.size))) ⟨h.push (wrapObj x),g,d,t,os⟩) :
  wpAny (model prog w) A (c0.«wrapper_descriptor.__get__» ⟨[.builtin xI,.ref x,.ref 116],[]⟩) Q E ⟨h,g,d,t,os⟩:=by
 unfold c0.«wrapper_descriptor.__get__»;repeat(first|(with_reducible refine sub.at ?_)|wp_step)
 have e:".".intercalate (xI.cutAt '.').dropLast="Exception":=by decide +kernel
 have aaQ:dY (model prog w) h (iy (.ref 116) (.type "Exception")) true:=fq X (by kernel_rfl)
 have hx:=I.at_;have hc:=I.cls;refine bX hx (aj ?_);refine(hc).symm▸?_;refine(e).symm▸?_;refine Looks.at aaQ ?_;repeat(first|(with_reducible refine aV ?_ (by size_fits))|wp_step)
 exact z
theorem Gl {K:Frag} {M x D C:ay} {o l:af ag} {id:cR} {name:Str} {tk:Tok} {Q:Fin->ah->Prop} (X:K.In h)
  (y:h.get? M=some {cls:=.type "super", dict:=none,data:=.fields #[.ref D,.ref x,.ref C],slots:=#[]}) (Tv:dY (model prog w) h (nP (.ref C)) none)
  (hC:dY (model prog w) h (mroOf (.ref C)) o) (hl:(o.dropWhile (· != .ref D)).drop 1=l)
  (hf:alongIn K name l=some (some (.builtin id))) (z:lE (.builtin id)=pure (.type "wrapper_descriptor")) (H:x≠C) (hn:(name==("__class__" : Str))=false)
  (hb:∀(A:aX)(E:ag->ah->Prop)(Q:Fin->ah->Prop),Q (.done (.ret (.ref h.objs.size))) ⟨h.push {cls:=.type "method-wrapper", data:=.fields #[.builtin id,.ref x]},g,d,t,os⟩->wpAny (model prog w) A (c0.«wrapper_descriptor.__get__» ⟨[.builtin id,.ref x,.ref C],[]⟩) Q E ⟨h,g,d,t,os⟩)
  (O:Q (.done (.ret (.ref h.objs.size))) ⟨h.push {cls:=.type "method-wrapper", data:=.fields #[.builtin id,.ref x]},g,d,t,os⟩) :
  wpAny (model prog w) A (c0.«super.__getattribute__» ⟨[.ref M,.str name tk],[]⟩) Q E ⟨h,g,d,t,os⟩:=by
 have hlk:=CG.lookup;have sx:(aH x==aH C)=false:=by simp[H]
 have hTf:(⟨h,g,d,t,os⟩:ah).TypeIs (.builtin id) "wrapper_descriptor":=z;have J5:({cls:=.type "super", dict:=none,data:=.fields #[.ref D,.ref x,.ref C],slots:=#[]}:Obj).data=.fields #[.ref D,.ref x,.ref C]:=rfl;have f0:(#[.ref D,.ref x,.ref C]:bx ag)[0]?=some (.ref D):=rfl;have f1:(#[.ref D,.ref x,.ref C]:bx ag)[1]?=some (.ref x):=rfl;have f2:(#[.ref D,.ref x,.ref C]:bx ag)[2]?=some (.ref C):=rfl
 repeat(first
  |(with_reducible refine bg y J5 f0 ?_)|(with_reducible refine bg y J5 f1 ?_)|(with_reducible refine bg y J5 f2 ?_)
  |(with_reducible refine ks_wpAny_notOpaque Tv ?_)
  |(with_reducible refine Looks.at hC ?_;rw[hl])
  |(refine ks_forIn_along X (λu_ u_=>rfl) rfl ?_ hf)
  |(with_reducible refine cw z ?_)
  |(with_reducible refine bE CG hTf Im ?_ (Lb _ _ _))
  |(with_reducible refine hb _ _ _ ?_)
  |(with_reducible refine⟨_,rfl,?_⟩)
  |(simp only[hn,sx,m9,fA,kh])
  |wp_step
  |dsimp only)
 all_goals exact O
theorem DZ {y x:ay} {M:Obj} {O:au Obj} {T:Sem aN} {Q:ag×af ag->ah->Prop} (X:(KT w.params).In h) (I:InstAt h x M 116 O)
  (o:h.get? y=some {cls:=.type "super", dict:=none,data:=.fields #[.ref 75,.ref x,.ref 116],slots:=#[]}) (Tv:dY (model prog w) h (nP (.ref 116)) none)
  (C:x≠116) (D:Q (.ref h.objs.size,[]) ⟨h.push (wrapObj x),g,d,t+1,os⟩) :
  wpAny (model prog w) A (getMethod (.ref y) "__init__" T) Q E ⟨h,g,d,t,os⟩:=by
 have hC:dY (model prog w) h (mroOf (.ref 116)) (Bd w.params).mro:=(gr X (OQ w.params)).andThen .now;have hl:((Bd w.params).mro.dropWhile (· != .ref 75)).drop 1=[.type "Exception", .type "BaseException", .type "object"]:=by kernel_rfl
 have hf:alongIn (KT w.params) "__init__" [.type "Exception", .type "BaseException", .type "object"]=some (some (.builtin xI)):=by kernel_rfl
 have hlk:=F.ks_slot_super_ga.lookup;have aaS:=F.ks_canon_super_ga;have hT:∀U,(⟨h,g,d,U,os⟩:ah).TypeIs (.ref y) "super":=λu_=>(o5 _ o rfl);refine ae (eg (hT _) hlk ?_);refine(?_:wpAny _ _ (if(Manifest.canonical "super.__getattribute__" != "object.__getattribute__")=true then _ else _) _ _ _)
 refine rg (aO aaS) ?_;refine ae (ae (lD (a7 (ae (fI (hT _) (ae (cw hlk ?_)))))));refine(?_:wpAny _ _ (getAttrByItsOwn (.ref y) (.str "__init__" t) (.type "super") (.builtin "super.__getattribute__") true false) _ _ _);refine ae (cw (show(if nQ (.type "super")then fS (.type "super") "__getattr__" else pure none)=pure none from rfl) ?_)
 refine ae (dR (a7 ?_));refine ae (cw (F.ks_slot_super_ga.bind _) ?_)
 refine cE (Q:=λv H=>v=.ref h.objs.size/\H=⟨h.push (wrapObj x),g,d,t+1,os⟩) (E:=λu_ u_=>eu)
  (bE F.ks_slot_super_ga (hT _) F.ks_entry_super_ga (Gl X o Tv hC hl hf RU C (rfl) (λu_ u_ u_ D=>Lc X I D) (qZ _ rfl rfl rfl)) (F.ks_gaArgs_super _ _)) (λv H hv=>?_) λu_ u_ z=>z.elim
 obtain⟨rfl,rfl⟩:=hv;exact aj (aj D)
theorem Be {x:ay} {D:Obj} {H:ag} {nm q:Str} {C N:ay} {bs M:af ag} {y:aN} {O:af Str} {sub:af ag} {T:aN} {z:au aN} {U:au ay} {Y k1 k2 k3 k5:au ag} {o:cR} {Q:cV->ah->Prop}
  (hC:h.get? C=some (dJ nm q C N bs M y O sub T z U Y k1 k2 k3 k5 o)) (hx:h.get? x=some D) (hc:D.cls=.ref C)
  (hq:Q () ⟨h,g,d,t,os⟩):wpAny (model prog w) A (checkBoundCall xI ⟨[.ref x,H],[]⟩) Q E ⟨h,g,d,t,os⟩:=by
 refine ae (m:=Bind.printed "*" true _ _) ?_;repeat(first|(with_reducible refine bX hx ?_;rw[hc])|(with_reducible refine bX hC ?_)|wp_step)
 exact hq
theorem Ye {D x:ay} {a0:ay} {vr:af ag} {M:ag} {O:bx (au ag)} {T:au ay} {nm q:Str} {C N:ay} {bs U:af ag} {z:aN} {Y:af Str} {sub:af ag} {ab:aN} {H:au aN} {dd:au ay} {k0 k1 k2 k3 k5:au ag} {y:cR} {R:eO->ah->Prop}
  (hC:h.get? C=some (dJ nm q C N bs U z Y sub ab H dd k0 k1 k2 k3 k5 y)) (hx:h.get? x=some ⟨.ref C,T,.fields (.ref a0::vr).toArray,O⟩) (hm:h.get? D=some (wrapObj x))
  (hq:∀h' t0,h'.get? x=some ⟨.ref C,T,.fields (.ref t0::vr).toArray,O⟩->(∀b o,b≠x->h.get? b=some o->h'.get? b=some o)->R (.ok (.ret .none)) ⟨h',g,d,t,os⟩) :
  cF (model prog w) A (.call (.ref D) ⟨[M],[]⟩) R ⟨h,g,d,t,os⟩:=by
 refine cz ?_;refine(?_:wpAny _ A.in1 (nq (.ref D) _) _ _ _);refine ae (mQ hm ?_);refine ae (Be hC hx rfl (aj ⟨dF _ (by decide +kernel),du PySem.F.excBase_Exception.initEntry ?_⟩))
 have B6:=aq (h:=h) {cls:=.type "tuple", data:=.seq [M].toArray} hx;refine ae (aV (ae (ae (bg B6 rfl (vs:=(aH a0::vr).toArray) (x:=.ref a0) rfl (ae (cv B6 rfl (vs:=(aH a0::vr).toArray) (by simp) ?_))))) (by size_fits))
 refine jJ (aj (hq _ h.objs.size ?_ λb o hb e=>?_))
 ·refine rg (bu _ B6 rfl) ?_;simp[da]
 ·exact(fj _ _ _ _ hb).trans (aq _ e)
end
noncomputable def fdOf(o:Obj):fV:=match o.data with|.func fd=>fd|_=>default
noncomputable abbrev Ld:fV:=fdOf XZ
noncomputable abbrev Io:fV:=fdOf X0
theorem Gm:XZ.data=.func Ld:=by kernel_rfl
theorem Gn:X0.data=.func Io:=by kernel_rfl
structure Jz(fd:fV)(cc c:ay):Prop where
 hd:(fd.params.posonlyargs++fd.params.args).head?.map (·.arg)=some ("self" : Str)
 code:fd.code=.ref cc
 cc_:cc=64\/cc=93
 glob:fd.globals=bT
 blt:fd.builtins=cX
 kind:fd.scope.kind=.function
 sup:fd.scope.names.lookup ("super" : Str)=some .globalImplicit
 cls:fd.scope.names.lookup ("__class__" : Str)=some .free
 YK:fd.scope.names.lookup ("self" : Str)=some .local
 Pf:fd.closure.lookup ("__class__" : Str)=some c
theorem OS:Jz Ld 64 53:=⟨by kernel_rfl,by kernel_rfl,.inl rfl,by kernel_rfl,by kernel_rfl,by kernel_rfl,by kernel_rfl,by kernel_rfl,by kernel_rfl,by kernel_rfl⟩
theorem OU:Jz Io 93 82:=⟨by kernel_rfl,by kernel_rfl,.inr rfl,by kernel_rfl,by kernel_rfl,by kernel_rfl,by kernel_rfl,by kernel_rfl,by kernel_rfl,by kernel_rfl⟩
theorem Lf:(pV.main.scope.names.lookup ("super" : Str)).isSome=false:=by kernel_rfl
theorem OV:((pV.main.file:Str)==aa "/claim/cut.py")=true:=by kernel_rfl
section
variable{w:bQ}{A:aX}{E:ag->ah->Prop}{s:ah}{m:Str->au ag}{f cc c D L x:ay}{fd:fV}{body:af cW}
theorem OW {of oD:Obj} {T:jH} {od:au ay} {vs:bx ag} {sl:bx (au ag)} {z:Str} {H:Sem ag} {p0 p1:Pos} {Q:ag->ah->Prop} (Z:Jz fd cc c) (U:s.heap.get? f=some of) (Y:of.data=.func fd) (F:pM w s.heap) (hN:s.heap.Ns L m)
  (hv:m "self"=some (.ref x)) (hx:s.heap.get? x=some ⟨.ref 116,od,.fields vs,sl⟩) (wo:s.heap.IsCell c (some (.ref D))) (hD:s.heap.get? D=some oD) (O:oD.data=.cls T) (vq:dY (model pV w) s.heap (iy (.ref 116) (.ref D)) true)
  (hat:(z==("__class__" : Str))=false)
  (h:∀h',h'.get? s.heap.objs.size=some (ks_superObj D x 116)->(∀y o,s.heap.get? y=some o->h'.get? y=some o)->Q (.ref s.heap.objs.size) {s with heap:=h'}) :
  wpAt (model pV w) A (.func body (eJ fd L f)) (attributeBase (.Call (.Name "super" p0) [] [] p1) z (eJ fd L f) H) Q E s:=by
 refine(let C:Prop:=_;(?_:C))
 refine za (F.file cc Z.cc_) λoc vc tf hcc hoc Tg=>?_;refine(let C:Prop:=_;(?_:C))
 obtain⟨mg,mb,n1,n2,-,-,-,-,n3,n4⟩:=F.ns;refine o8 (Option.map_eq_some_iff.mp Z.hd) λar har M=>?_;refine ks_wpAt_super_base (env:=eJ fd L f) Z.sup Z.cls hat rfl U Y har Z.code hcc hoc Tg OV Lf ?_;refine ks_loadName_global Z.kind Z.sup (mT (env:=eJ fd L f) (mg:=mg) (mb:=mb) (rg (show(eJ fd L f).globals=bT from Z.glob) n1) n3 (rg (show(eJ fd L f).builtins=cX from Z.blt) n2) n4 ⟨rfl,?_⟩);refine mz Z.kind Z.cls Z.Pf wo ?_;refine(M).symm▸?_;refine cx Z.kind Z.YK hN hv ?_;refine ks_wpAny_isType_cls hD O ⟨rfl,?_⟩;exact ks_wpAny_call_super hD O hx rfl (λc e=>nomatch e) vq λh' e k=>h h' e k
end
noncomputable abbrev OX(at_:Str)(p0 p1 p2 p3 p4 p5 q0 q1 q2 q3:Pos):af cW :=
 [.Expr (.Call (.Attribute (.Call (.Name (aa "super") p0) [] [] p1) (aa "__init__") p2) [.Name (aa "what") p3] [] p4) p5,.Assign [.Attribute (.Name (aa "self") q0) at_ q1] (.Name at_ q2) q3]
theorem b65:Ld.body=.stmts (OX (aa "what") ⟨26,8,26,13⟩ ⟨26,8,26,15⟩ ⟨26,8,26,24⟩ ⟨26,25,26,29⟩ ⟨26,8,26,30⟩ ⟨26,8,26,30⟩ ⟨27,8,27,12⟩ ⟨27,8,27,17⟩ ⟨27,20,27,24⟩ ⟨27,8,27,24⟩):=by kernel_rfl
theorem b94:Io.body=.stmts (OX (aa "spot") ⟨34,8,34,13⟩ ⟨34,8,34,15⟩ ⟨34,8,34,24⟩ ⟨34,25,34,29⟩ ⟨34,8,34,30⟩ ⟨34,8,34,30⟩ ⟨35,8,35,12⟩ ⟨35,8,35,17⟩ ⟨35,20,35,24⟩ ⟨35,8,35,24⟩):=by kernel_rfl
theorem Bf{x:Str}(h:x="what"\/x="spot"\/x="self"):(x==("__debug__" : Str))=false:=by rcases h with rfl|rfl|rfl<;>decide
section
variable{w:bQ}{A:aX}{E:ag->ah->Prop}{s:ah}{m:Str->au ag}{f cc c D L x:ay}{fd:fV}{at_:Str}{p0 p1 p2 p3 p4 p5 q0 q1 q2 q3:Pos}{body:af cW}
theorem CH {of oD:Obj} {cdD:jH} {od:au ay} {vs:bx ag} {sl:bx (au ag)} {v:ag} {Q:kZ->ah->Prop} (Z:Jz fd cc c) (hof:s.heap.get? f=some of) (hfd:of.data=.func fd) (F:pM w s.heap) (hN:s.heap.Ns L m)
  (hv:m "self"=some (.ref x)) (hx:s.heap.get? x=some ⟨.ref 116,od,.fields vs,sl⟩) (wo:s.heap.IsCell c (some (.ref D))) (hD:s.heap.get? D=some oD) (hDt:oD.data=.cls cdD) (vq:dY (model pV w) s.heap (iy (.ref 116) (.ref D)) true)
  (hat:at_="what"\/at_="spot") (hk:fd.scope.names.lookup at_=some .local) (hva:m at_=some v) (T:(p2.endLine==p4.line)=true)
  (go:∀h' pl,h'.get? s.heap.objs.size=some (ks_superObj D x 116)->(∀y o,s.heap.get? y=some o->h'.get? y=some o) ->
   wpAny (model pV w) A (getMethod (.ref s.heap.objs.size) "__init__" pl) (λfx M=>wpAny (model pV w) A (callWith p4 fx.1 fx.2 (gx p4 (dv [.Name "what" p3] (eJ fd L f))) [])
    (λu_ C=>C.heap.Ns L m/\wpAny (model pV w) A (setAttr (.ref x) at_ v) (λu_ O=>Q .next O) E C) E M) E {s with heap:=h'}) :
  wpAt (model pV w) A (.func body (eJ fd L f)) (execs (OX at_ p0 p1 p2 p3 p4 p5 q0 q1 q2 q3) (eJ fd L f)) Q E s:=by
 refine iN (ks_wpAt_Expr_any ?_ ?hi ?hs)
 case hi=>unfold interactive;simp[eJ,newEnv,Z.kind]
 case hs=>rfl
 simp only[arm_eval_Call];refine wpAt_bind (OW Z hof hfd F hN hv hx wo hD hDt vq (rfl) λh' e k=>ed (ae (bh ?_)));have Sn:kd (([.Name (aa "what") p3]:af aI).length+([]:af j7).length) (gx p4 (dv [.Name (aa "what") p3] (eJ fd L f))) (backToKw p4 (keywordEach [] (eJ fd L f)))=true:=rfl;have Qa:iF true (.Call (.Name (aa "super") p0) [] [] p1) (eJ fd L f) p2 p4=pure p4:=by unfold iF;simp[T]
 refine ae (a7 (cE (go h' _ e k) (λfx M U=>?_) λu_ u_ z=>z));obtain⟨f',first⟩:=fx
 refine ae (cw Qa (cE U (λu_ C H=>?_) λu_ u_ z=>z));obtain⟨n3,H⟩:=H;refine iN (ed (jn ?_ ?_))
 ·refine d2 (cx Z.kind hk n3 hva ?_) (Bf (by rcases hat with h|h<;>simp[h]))
  refine d2 (cx Z.kind Z.YK n3 hv ?_) (rfl);refine cE H (λu_ O Y=>?_) λu_ u_ z=>z;exact ed (aj Y)
 ·rfl
end
theorem Vs(P:bB):eH (KT P) (.ref 116) "what"=some none:=by kernel_rfl
theorem Vt(P:bB):eH (KT P) (.ref 116) "spot"=some none:=by kernel_rfl
theorem Gp(P:bB):nsIn (KT P) cStatics "thirdparty.any"=some none:=by kernel_rfl
theorem k65(P:bB):(KT P).lookup 65=some XZ:=by kernel_rfl
theorem k94(P:bB):(KT P).lookup 94=some X0:=by kernel_rfl
theorem k53(P:bB):(KT P).lookup 53=some {cls:=.type "cell", data:=.cell (some (.ref 75))}:=by kernel_rfl
theorem k82(P:bB):(KT P).lookup 82=some {cls:=.type "cell", data:=.cell (some (.ref 104))}:=by kernel_rfl
noncomputable def Gq(P:bB)(a:ay):Obj:=((KT P).lookup a).getD default
noncomputable def Yf(P:bB)(a:ay):jH:=match(Gq P a).data with|.cls o=>o|_=>default
theorem k75(P:bB):(KT P).lookup 75=some (Gq P 75):=by kernel_rfl
theorem c75(P:bB):(Gq P 75).data=.cls (Yf P 75):=by kernel_rfl
theorem aaW(P:bB):(KT P).lookup 104=some (Gq P 104):=by kernel_rfl
theorem aaX(P:bB):(Gq P 104).data=.cls (Yf P 104):=by kernel_rfl
theorem m75(P:bB):mc (KT P) 116 (.ref 75)=some true:=by kernel_rfl
theorem aaY(P:bB):mc (KT P) 116 (.ref 104)=some true:=by kernel_rfl
theorem Vu(a b:ag):eM Ld ⟨[a,b],[]⟩=pure [(aa "self", a),(aa "what", b)]:=by kernel_rfl
theorem Vv(a b c:ag):eM Io ⟨[a,b,c],[]⟩=pure [(aa "self", a),(aa "what", b),(aa "spot", c)]:=by kernel_rfl
theorem OY:∀x∈Ld.scope.names,x.2≠.cell:=by decide
theorem OZ:∀x∈Io.scope.names,x.2≠.cell:=by decide
theorem O0:Ld.scope.names.lookup (aa "what")=some .local:=by kernel_rfl
theorem JA:Io.scope.names.lookup (aa "what")=some .local/\Io.scope.names.lookup (aa "spot")=some .local:=⟨by kernel_rfl,by kernel_rfl⟩
theorem RV(P:bB):(KT P).lookup 116=some (dJ (aa "EvalFault") (aa "EvalFault") 116 115 [.ref 104] [.ref 104,.ref 75,.type "Exception", .type "BaseException", .type "object"] true [] [] false none none
  (some (.ref 107)) none (some (.str (aa "EvalFault") 308)) (some (.str (aa "EvalFault") 316)) (some (.bool true)) "Exception.__new__"):=by kernel_rfl
theorem zB{h h':bP}{L:ay}{m:Str->au ag}(n:h.Ns L m)(k:∀o,h.get? L=some o->h'.get? L=some o):h'.Ns L m:=y9 n λo es ep e r=>zb o es ep (k _ e) r
section
variable{w:bQ}{A:aX}{s:ah}{x a0:ay}{vr:af ag}{sl:bx (au ag)}{m1 m2:ag}{R:eO->ah->Prop}{h₀:bP}
theorem Vw (F0:pM w h₀) (hl:h₀.NoLimit) (O:∀b o,h₀.get? b=some o->s.heap.get? b=some o) (C:h₀.get? x=none) (D:A.depth<cy)
  (hx:s.heap.get? x=some ⟨.ref 116,none,.fields (.ref a0::vr).toArray,sl⟩)
  (hq:∀h' T d tk t',h'.get? x=some ⟨.ref 116,some d,.fields (.ref T::vr).toArray,sl⟩->h'.get? d=some (fT [⟨aE w.params "what", .str "what" tk,m1⟩] 1)->s.heap.get? d=none ->
   (∀b o,b≠x->s.heap.get? b=some o->h'.get? b=some o)->R (.ok (.ret .none)) {s with heap:=h',toks:=t'}) :
  cF (model pV w) A (.call (.ref 65) ⟨[.ref x,m1],[]⟩) R s:=by
 have F:=F0.keeps O;have O1:x≠116:=by rintro rfl;rw[F0.kt _ _ (RV w.params)]at C;exact(nN C).elim
 refine hM (binds:=[(aa "self", .ref x),(aa "what", m1)]) D (F.kt _ _ (k65 w.params)) Gm (hl.keeps O) (F.code _ (.head _)) b65 (jm (Vu _ _)) OY ?hloc (λH M z=>?_) (by kernel_rfl) (by kernel_rfl) (by kernel_rfl)
 case hloc=>intro y hy;rcases List.mem_cons.mp hy with rfl|hy;exact OS.YK;exact(List.mem_singleton.mp hy)▸(O0)
 have kk:∀{h':bP},(∀b o,b≠x->s.heap.get? b=some o->h'.get? b=some o)->∀b o,h₀.get? b=some o->h'.get? b=some o:=λq b o e=>q b o (by rintro rfl;rw[e]at C;cases C) (O b o e)
 have F1:=F.keeps z;have hxL:x≠s.heap.objs.size:=a5 (aS hx);refine CH (s:=⟨H,s.gens,s.drawn,s.toks+2,s.os⟩) (m:=λy=>([(aa "self", aH x),(aa "what", m1)]:af (Str×ag)).reverse.lookup y) (v:=m1) OS (F1.kt _ _ (k65 w.params)) Gm F1 M rfl (z _ _ hx) (o5 _ (F1.kt _ _ (k53 w.params)) rfl) (F1.kt _ _ (k75 w.params)) (c75 w.params) (fq F1.kt (m75 w.params)) (.inl rfl) O0 rfl rfl λh2 pl e2 k2=>?_;have F2:=F1.keeps k2;have Vn:=k2 _ _ (z _ _ hx);refine DZ F2.kt (show InstAt _ x _ 116 none from⟨Vn,rfl,rfl,trivial⟩) e2 (looks_opaque F2.kt (Gp w.params)) O1 ?_;refine gu (P:=λh=>h.get? h2.objs.size=some (wrapObj x)) rfl (λh e=>(o5 .machine (.inr (.inl rfl)) ((ky (part:=none) e).andThen .now))) (eI (cZ ?_));have Pj:∀b o,h2.get? b=some o->(h2.push (wrapObj x)).get? b=some o:=λb o e=>aq _ e;have n2:(h2.push (wrapObj x)).Ns s.heap.objs.size (λy=>([(aa "self", aH x),(aa "what", m1)]:af (Str×ag)).reverse.lookup y):=zB M λo e=>Pj _ _ (k2 _ _ e);refine d2 (cx OS.kind O0 n2 (v:=m1) rfl (er ⟨dr rfl rfl,?_⟩)) (Bf (.inl rfl));refine fe (Ye (Pj _ _ (F2.kt _ _ (RV w.params))) (Pj _ _ Vn) (dr rfl rfl) λU T Y k3=>?_);refine⟨zB n2 λo e=>k3 _ _ hxL.symm e,?_⟩;have Ph:∀b o,b≠x->s.heap.get? b=some o->U.get? b=some o:=λb o hb e=>k3 b o hb (Pj _ _ (k2 _ _ (z _ _ e)));have F3:=F0.keeps (kk Ph);refine RT F3.kt Y (Vs w.params) λh4 e4 e5 k4=>?_;refine hq h4 T _ _ _ e4 e5 ?_ λb o hb e=>k4 b o hb (Ph b o hb e);cases q:s.heap.get? U.objs.size with
 |none=>rfl
 |some o =>
  by_cases hb:U.objs.size=x
  ·exact absurd (aS Y) (rl (hb ..) (dK _))
  ·exact absurd (aS (Ph _ _ hb q)) (dK _)
theorem RW(P:bB):alongIn (KT P) "__init__" [.ref 75,.type "Exception", .type "BaseException", .type "object"]=some (some (.ref 65)):=by kernel_rfl
theorem Vx(P:bB):((Bd P).mro.dropWhile (· != .ref 104)).drop 1=[.ref 75,.type "Exception", .type "BaseException", .type "object"]:=by kernel_rfl
theorem aa0(P:bB):fnIn (KT P) 65=true:=by kernel_rfl
theorem aa1:XZ.cls=.type "function":=by kernel_rfl
theorem Vy (F0:pM w h₀) (hl:h₀.NoLimit) (O:∀b o,h₀.get? b=some o->s.heap.get? b=some o) (C:h₀.get? x=none) (D:A.depth+1<cy)
  (hx:s.heap.get? x=some ⟨.ref 116,none,.fields (.ref a0::vr).toArray,sl⟩)
  (hq:∀h' U d Y Wu t',h'.get? x=some ⟨.ref 116,some d,.fields (.ref U::vr).toArray,sl⟩->h'.get? d=some (fT [⟨aE w.params "what", .str "what" Y,m1⟩,⟨aE w.params "spot", .str "spot" Wu,m2⟩] 2)->s.heap.get? d=none ->
   (∀b o,b≠x->s.heap.get? b=some o->h'.get? b=some o)->R (.ok (.ret .none)) {s with heap:=h',toks:=t'}) :
  cF (model pV w) A (.call (.ref 94) ⟨[.ref x,m1,m2],[]⟩) R s:=by
 have F:=F0.keeps O;have O1:x≠116:=by rintro rfl;rw[F0.kt _ _ (RV w.params)]at C;exact(nN C).elim
 refine hM (binds:=[(aa "self", .ref x),(aa "what", m1),(aa "spot", m2)]) (by exact qu (.a (.a .x (.n 1)) (.n 1)) (.n 1000) (.a .x (.n 1)) (.n 1000) rfl D) (F.kt _ _ (k94 w.params)) Gn (hl.keeps O) (F.code _ (.tail _ (.head _))) b94 (jm (Vv _ _ _)) OZ ?hloc (λH M z=>?_) (by kernel_rfl) (by kernel_rfl) (by kernel_rfl)
 case hloc =>
  intro y hy;rcases List.mem_cons.mp hy with rfl|hy
  ·exact OU.YK
  rcases List.mem_cons.mp hy with rfl|hy
  ·exact JA.1
  exact(List.mem_singleton.mp hy)▸(JA.2)
 have kk:∀{h':bP},(∀b o,b≠x->s.heap.get? b=some o->h'.get? b=some o)->∀b o,h₀.get? b=some o->h'.get? b=some o:=λq b o e=>q b o (by rintro rfl;rw[e]at C;cases C) (O b o e)
 have F1:=F.keeps z;have hxL:x≠s.heap.objs.size:=a5 (aS hx);refine CH (s:=⟨H,s.gens,s.drawn,s.toks+3,s.os⟩) (m:=λy=>([(aa "self", aH x),(aa "what", m1),(aa "spot", m2)]:af (Str×ag)).reverse.lookup y) (v:=m2) OU (F1.kt _ _ (k94 w.params)) Gn F1 M rfl (z _ _ hx) (o5 _ (F1.kt _ _ (k82 w.params)) rfl) (F1.kt _ _ (aaW w.params)) (aaX w.params) (fq F1.kt (aaY w.params)) (.inr rfl) JA.2 rfl rfl λh2 pl e2 k2=>?_;have F2:=F1.keeps k2;have Vn:=k2 _ _ (z _ _ hx);refine ks_wpAny_getMethod_super e2 (looks_opaque F2.kt (Gp w.params)) ((gr F2.kt (OQ w.params)).andThen .now) (Vx w.params) F2.kt (RW w.params) (F2.kt _ _ (k65 w.params)) aa1 O1 (rfl) ?_;have Pj:∀b o,h2.get? b=some o->(h2.push (nU (.ref 65) (.ref x))).get? b=some o:=λb o e=>aq _ e;refine gu (P:=MethP (KT w.params) h2.objs.size 65 (.ref x)) rfl (keeps_M (aa0 w.params)) (eI (cZ ?_));have n2:(h2.push (nU (.ref 65) (.ref x))).Ns s.heap.objs.size (λy=>([(aa "self", aH x),(aa "what", m1),(aa "spot", m2)]:af (Str×ag)).reverse.lookup y):=zB M λo e=>Pj _ _ (k2 _ _ e);refine d2 (cx OU.kind JA.1 n2 (v:=m1) rfl (er ⟨⟨dr rfl rfl,F2.kt.keeps Pj⟩,?_⟩)) (Bf (.inl rfl));have hup:∀b o,s.heap.get? b=some o->(h2.push (nU (.ref 65) (.ref x))).get? b=some o:=λb o e=>Pj _ _ (k2 _ _ (z _ _ e));refine fe (ks_codeAny_call_bound (dr rfl rfl) (Vw F0 hl (λb o e=>hup _ _ (O _ _ e)) C D (Pj _ _ Vn) λh3 U d tk t' e3 e4 T k3=>?_));refine⟨zB n2 λo e=>k3 _ _ hxL.symm e,?_⟩;have Ph:∀b o,b≠x->s.heap.get? b=some o->h3.get? b=some o:=λb o hb e=>k3 b o hb (hup _ _ e);have F3:=F0.keeps (kk Ph);have hxd:x≠d:=by rintro rfl;rw[Pj _ _ Vn]at T;exact(nN T).elim
 have ds:s.heap.get? d=none:=by
  cases q:s.heap.get? d with
  |none=>rfl
  |some o=>rw[hup _ _ q]at T;exact(nN T).elim
 refine RS F3.kt e3 e4 (Vt w.params) (by with_unfolding_all rfl) (by with_unfolding_all exact cP rfl) λh4 e5 k4=>?_
 refine hq h4 U d tk (t'+1) _ ((k4 _ hxd).trans e3) (e5.trans ?_) ds λb o hb e=>(k4 b (by rintro rfl;rw[e]at ds;cases ds)).trans (Ph b o hb e)
 with_unfolding_all rfl
end
theorem RX(P:bB):eH (KT P) (.ref 116) "__init__"=some (some (.ref 94)):=by kernel_rfl
theorem Lg(a b c:ag):(nG "type.__call__" ⟨[.ref 116,b,c],[]⟩).weight=1:=by kernel_rfl
theorem aa3:X0.cls=.type "function":=by kernel_rfl
theorem O2{w:bQ}{h:bP}(F:pM w h)(hl:h.NoLimit):SY w h:=by
 intro A E Q s m1 m2 k hd h1 h2 z;obtain⟨hp,g,d,t,os⟩:=s;have F0:pM w hp:=F.keeps k;have X:=F0.kt;refine RQ (rfl) (rfl) (rfl) (X _ _ (RV w.params)) (gT X (RX w.params)) (X _ _ (k94 w.params)) aa3 λh' e M=>?_;refine tq (M.there) λC hx D H=>?_;refine fe (Vy (a0:=C) (vr:=[.none,.none,.none,.bool false,.none]) F0 (hl.keeps k) M.keeps M.new (by show A.depth+_+1<_;rw[Lg .none];exact qu (.a (.a .x (.n 10)) (.n 1)) (.n 1000) (.a (.a (.a .x (.n 1)) (.n 1)) (.n 1)) (.n 1000) rfl h1) hx λO t1 d T U Y e3 e4 y k3=>?_)
 have hd0:hp.get? d=none:=by
  cases q:hp.get? d with
  |none=>rfl
  |some o=>rw[M.keeps _ _ q]at y;exact(nN y).elim
 exact⟨rfl,z O e d _ _ _ _ _ _ _ Y (λb o e'=>k3 b o (by rintro rfl;have n:=M.new;rw[e']at n;cases n) (M.keeps _ _ e')) M.new hd0 (by rintro rfl;rw[hx]at y;cases y) e3 (by show 1<6;decide) rfl e4⟩
theorem aa4(P:bB):(KT P).lookup 363=some (dJ (aa "Evaluator") (aa "Evaluator") 363 362 [.type "object"] [.type "object"] true [] [] false none none
  none none (some (.str (aa "Evaluator") 512)) (some (.str (aa "Evaluator") 520)) (some (.bool true)) "object.__new__"):=by kernel_rfl
theorem RY(P:bB):eH (KT P) (.ref 363) "__init__"=some (some (.ref 275)):=by kernel_rfl
section
variable{prog:b0}{w:bQ}{A:aX}{E:ag->ah->Prop}{h:bP}{g:bx eR}{d:Drawn}{t:Nat}{os:eP}
variable{nm q:Str}{C N:ay}{bs:af ag}{sn:af Str}{sub:af ag}{col:au aN}{dd:au ay}{k0 k1 k2 k3 k5:au ag}
theorem Vz {R:eO->ah->Prop} {o:ag} {y:ay}
  (hC:h.get? C=some (dJ nm q C N bs [.type "object"] true sn sub false col dd k0 k1 k2 k3 k5 "object.__new__")) (hi:dY (model prog w) h (fS (.ref C) "__init__") (some (.ref y)))
  (z:R (.ok (.ret (.ref (h.objs.size+1)))) ⟨(h.push {cls:=.type "dict", data:=.dict #[]}).push {cls:=.ref C,dict:=some h.objs.size,data:=.plain},g,d,t,os⟩) :
  cF (model prog w) A (.builtin "object.__new__" ⟨[.ref C,o],[]⟩) R ⟨h,g,d,t,os⟩:=by
 have F:=lN;refine du F.entry ?_;repeat(first|with_reducible refine mP F.canon hC ?_|with_reducible refine jz hC ?_|with_reducible refine bX hC ?_|with_reducible refine hi.at ?_|refine wpAny_ite_false (rfl) ?_|wp_step)
 refine(?_:wpAny _ _ (alloc {cls:=.type "dict", data:=.dict #[]} >>= λx=>pure (some x)) _ _ _);refine ae (wpAny_alloc' (aj ?_));repeat wp_step
 refine(?_:R _ _);exact(cK ..).symm▸z
theorem D0 {H:ag} {y:ay} {oI:Obj} {Q:Fin->ah->Prop}
  (hC:h.get? C=some (dJ nm q C N bs [.type "object"] true sn sub false col dd k0 k1 k2 k3 k5 "object.__new__")) (hi:dY (model prog w) h (fS (.ref C) "__init__") (some (.ref y)))
  (z:h.get? y=some oI) (D:oI.cls=.type "function")
  (O:wpAny (model prog w) A (call (.ref y) [.ref (h.objs.size+1),H]) (λr M=>r=.none/\Q (.done (.ret (.ref (h.objs.size+1)))) M) E
   ⟨(h.push {cls:=.type "dict", data:=.dict #[]}).push {cls:=.ref C,dict:=some h.objs.size,data:=.plain},g,d,t,os⟩) :
  wpAny (model prog w) A (c0.«type.__call__» ⟨[.ref C,H],[]⟩) Q E ⟨h,g,d,t,os⟩:=by
 have F:=lN;repeat(first|with_reducible refine bX hC ?_|with_reducible refine jz hC ?_|wp_step)
 refine kI (dF _ F.quiet) (wpAny_check_obj_new F hC ?_);refine Vz hC hi ?_;refine(?_:wpAny _ _ _ _ _ _);have up:∀b o,h.get? b=some o->((h.push {cls:=.type "dict", data:=.dict #[]}).push {cls:=.ref C,dict:=some h.objs.size,data:=.plain}).get? b=some o:=λb o e=>aq _ (aq _ e);have OO:=up _ _ hC;have Ik:=up _ _ z;have OP:=hi.keeps up;have hcC:(aH C::[bC "object"]).contains (.ref C)=true:=by simp
 repeat(first|with_reducible refine bX MG ?_|(with_reducible refine iB OO ?_;rw[hcC])|wp_step)
 refine OP.at ?_;refine a7 (ae ?_);refine ae (fI (T:="function") (o5 _ Ik D) ?_);refine aj (ae (cE O (λr M hr=>?_) λu_ u_ x=>x));obtain⟨rfl,hQ⟩:=hr
 wp_walk
 exact hQ
theorem RZ {o:ag} {y:ay} {oI:Obj} {Q:ag->ah->Prop}
  (hC:h.get? C=some (dJ nm q C N bs [.type "object"] true sn sub false col dd k0 k1 k2 k3 k5 "object.__new__")) (hi:dY (model prog w) h (fS (.ref C) "__init__") (some (.ref y)))
  (z:h.get? y=some oI) (D:oI.cls=.type "function")
  (H:wpAny (model prog w) (A.under (.builtin "type.__call__" ⟨[.ref C,o],[]⟩)) (call (.ref y) [.ref (h.objs.size+1),o]) (λr M=>r=.none/\Q (.ref (h.objs.size+1)) M) E
   ⟨(h.push {cls:=.type "dict", data:=.dict #[]}).push {cls:=.ref C,dict:=some h.objs.size,data:=.plain},g,d,t,os⟩) :
  wpAny (model prog w) A (call (.ref C) [o]) Q E ⟨h,g,d,t,os⟩:=by
 have f1:=tc_lookup;have f2:=tc_bind (.ref C);have hT:(⟨h,g,d,t,os⟩:ah).TypeIs (.ref C) "type":=(o5 _ hC rfl);refine fe (cz ?_);refine(?_:wpAny _ _ (nq (.ref C) _) _ _ _);repeat(any_goals(first|assumption|with_reducible refine bX hC ?_|wp_step))
 refine⟨rfl,?_⟩;exact lj (dF _ (by decide +kernel)) entry_typeCall (kH hC (D0 hC hi z D H))
end
theorem Yg(P:bB):eH (KT P) (.ref 363) "__setattr__"=some (some (.builtin "object.__setattr__")):=by kernel_rfl
theorem O3(P:bB):plainOver (KT P) 363=true:=by kernel_rfl
theorem Yh(P:bB):takerIn (KT P) 363 "scope"=some none:=by kernel_rfl
noncomputable def VA(P:bB):jH:=match(KT P).lookup 363 with|some ⟨_,_,.cls o,_⟩=>o|_=>default
theorem aa5(P:bB):clsIn (KT P) 363=some (VA P):=by kernel_rfl
section
variable{prog:b0}{w:bQ}{A:aX}{E:ag->ah->Prop}{s:ah}{x dx:ay}{v:ag}
theorem R0 {o:bx (au ag)} {Q:cV->ah->Prop} (X:(KT w.params).In s.heap) (hx:s.heap.get? x=some ⟨.ref 363,some dx,.plain,o⟩) (D:s.heap.get? dx=some (fT [] 0))
  (h:∀h',h'.get? dx=some (fT [⟨aE w.params "scope", .str "scope" (s.toks+1),v⟩] 1)->(∀b,b≠dx->h'.get? b=s.heap.get? b)->Q () {s with heap:=h',toks:=s.toks+2}) :
  wpAny (model prog w) A (setAttr (.ref x) "scope" v) Q E s:=by
 have I:InstAt s.heap x ⟨.ref 363,some dx,.plain,o⟩ 363 (some (fT [] 0)):=⟨hx,rfl,rfl,D⟩;refine nJ X I (Yg w.params) (osa_open (s:={s with toks:=s.toks+1}) X I (O3 w.params) (Yh w.params) λb=>?_)
 refine ae (aj (ae (ae (ij hx (ae (gr X (aa5 w.params) _ _ _ _ (λu_ u_ e=>e) ?_))))));refine aj (a:=some dx) ?_;exact Il (s:={s with toks:=s.toks+1}) D rfl (by simp[putL]) h
end
noncomputable def R1:Obj:=YI (qq (ql (qq pD 36)) 0) (S "Evaluator.__init__") uu 274 [] .none
noncomputable abbrev Bg:fV:=fdOf R1
theorem Lh:R1.data=.func Bg:=by kernel_rfl
theorem Yi:R1.cls=.type "function":=by kernel_rfl
theorem Yj(P:bB):(KT P).lookup 275=some R1:=by kernel_rfl
theorem aa6:Bg.body=.stmts [.Assign [.Attribute (.Name (aa "self") ⟨189,8,189,12⟩) (aa "scope") ⟨189,8,189,18⟩] (.Name (aa "scope") ⟨189,21,189,26⟩) ⟨189,8,189,26⟩]:=by kernel_rfl
theorem R2(a b:ag):eM Bg ⟨[a,b],[]⟩=pure [(aa "self", a),(aa "scope", b)]:=by kernel_rfl
theorem Li:∀x∈Bg.scope.names,x.2≠.cell:=by decide
theorem D7:Bg.scope.names.lookup (aa "self")=some .local/\Bg.scope.names.lookup (aa "scope")=some .local:=⟨by kernel_rfl,by kernel_rfl⟩
theorem D9:Bg.scope.kind=.function:=by kernel_rfl
theorem VB:(S "Evaluator.__init__", 274)∈(S "FdError.__init__", 64)::(S "SpotFault.__init__", 93)::rows.map (λr=>(r.f,r.a-1)):=.tail _ (.tail _ (by
 have e:((rows.map λr=>(r.f,r.a-1)).any λp=>p.1==S "Evaluator.__init__"&&p.2==274)=true:=by kernel_rfl
 refine o8 (List.any_eq_true.mp e) λp hp h=>?_;obtain⟨h1,h2⟩:=Bool.and_eq_true_iff.mp h;have:p=(S "Evaluator.__init__", 274):=jr (beq_iff_eq.mp h1) (beq_iff_eq.mp h2);exact(this)▸(hp)))
theorem Lj(a b:ag):(nG "type.__call__" ⟨[.ref 363,a],[]⟩).weight=1:=by kernel_rfl
theorem Lk{w:bQ}{b:bP}(F0:pM w b)(hl:b.NoLimit):SX w b:=by
 intro A E Q s a k hd h1 h2 M;obtain⟨h,g,d,t,os⟩:=s;have F:pM w h:=F0.keeps k;refine RZ (F.kt _ _ (aa4 w.params)) (gT F.kt (RY w.params)) (F.kt _ _ (Yj w.params)) Yi ?_;generalize hh:(h.push {cls:=.type "dict", data:=.dict #[]}).push {cls:=.ref 363,dict:=some h.objs.size,data:=.plain}=Ws;have up:∀b o,h.get? b=some o->Ws.get? b=some o:=λb o e=>by rw[<-hh];exact aq _ (aq _ e)
 have hx:Ws.get? (h.objs.size+1)=some ⟨.ref 363,some h.objs.size,.plain,#[]⟩:=by rw[<-hh];heap_get
 have hdd:Ws.get? h.objs.size=some (fT [] 0):=by rw[<-hh];exact aq _ (dr rfl rfl)
 have F1:=F.keeps up;refine fe (hM (binds:=[(aa "self", .ref (h.objs.size+1)),(aa "scope", .ref a)]) (by show A.depth+_<_;rw[Lj _ .none];exact qu (.a (.a .x (.n 10)) (.n 1)) (.n 1000) (.a (.a .x (.n 1)) (.n 1)) (.n 1000) rfl h1) (F1.kt _ _ (Yj w.params)) Lh (hl.keeps λb o e=>up _ _ (k b o e)) (F1.code _ VB) aa6 (jm (R2 _ _)) Li ?hloc (λH D z=>?_) (by kernel_rfl) (by kernel_rfl) D9)
 case hloc=>intro y hy;rcases List.mem_cons.mp hy with rfl|hy;exact D7.1;exact(List.mem_singleton.mp hy)▸(D7.2)
 refine iN (ed (jn ?_ rfl));refine d2 (cx D9 D7.2 D (v:=.ref a) rfl ?_) (rfl);refine d2 (cx D9 D7.1 D (v:=.ref (h.objs.size+1)) rfl ?_) (rfl);refine R0 (F1.keeps z).kt (z _ _ hx) (z _ _ hdd) λP9 e2 k2=>ed (aj ⟨rfl,?_⟩);refine(let C:Prop:=_;(?_:C))
 have Bh:h.get? h.objs.size=none:=eW (aL _);have sx:h.objs.size+1≠h.objs.size:=Nat.succ_ne_self _;exact M P9 (h.objs.size+1) h.objs.size _ _ _ _ (λb o e=>(k2 b (by rintro rfl;rw[e]at Bh;cases Bh)).trans (z _ _ (up _ _ e))) (eW (dT _)) Bh sx ((k2 _ sx).trans (z _ _ hx)) e2
end
section
open PySem PySem.Calls PyProof.Rows PySem.W
theorem O4:oP.fns (S "law")=some (tP (qq pD 62)):=by kernel_rfl
theorem O5 {w:bQ} {s:ah} {E:ag->ah->Prop} (F:pM w s.heap) {mg mb:Str->au ag} (hg:s.heap.Ns bT mg) (hb:s.heap.Ns cX mb) (hl:s.heap.NoLimit) {y lst:ay} (z:mg (S "law")=some (.ref y)) {vs:bx ag} (Cd:s.heap.get? lst=some {cls:=.type "list", dict:=none,data:=.seq vs,slots:=#[]})
  (Tg:vs.size<=qf) {is:af Int} (r:∀T D,oK T D [] vs.toList (is.map V.int)) :
  wpAny (model pV w) callerA (call (.ref y) [.ref lst]) (λv A=>v=.bool true/\(∀b o,s.heap.get? b=some o->A.heap.get? b=some o)/\A.gens=s.gens/\A.os=s.os) E s:=by
 have top:=Yd (gens:=s.gens) (os:=s.os) F hg hb hl (Lk F hl) (O2 F hl);obtain⟨H,h1,hf⟩:=top.fns (S "law") _ O4 (by decide +kernel)
 obtain rfl:H=y:=by have:=(show mg (S "law")=_ from h1).symm.trans z;cases this;rfl
 have ok:CW (o6 oP (0+3000) (149+1) (S "law") [.lst (is.map .int)] []) (λv u_=>v=.bool true) (λu_ u_ u_=>eu):=Vf (wf:=2100) (m:=0);rw[Av,O4,xF]at ok;dsimp only at ok;refine(let C:Prop:=_;(?_:C))
 split at ok
 rotate_left
 ·refine(let C:Prop:=_;(?_:C))
  exact ok.elim
 rename_i pd;generalize TF:pS ([]:af Cell).length _=res at ok;cases res with
 |stuck=>exact ok.elim
 |rQ a b c=>exact ok.elim
 |ok v M =>
  obtain rfl:v=.bool true:=ok
  refine Qu (T:=DW w s.heap mg mb s.gens s.os) (cc:=⟨oP,o6 oP (0+3000) 149,0+3000,(tP (qq pD 62)).names,[]⟩) (D:=λa=>(s.heap.get? a).map .fz) top hf rfl rfl rfl rfl rfl (by decide +kernel) (by decide +kernel)
   (λenv' F'=>Ff F' (Nc (0+3000) 149 _ ?_ ?_) _) rfl rfl rfl (λu_=>rfl) (.cons (.lst (by show(s.heap.get? lst).map _=_;rw[Cd];rfl) Tg (r _ _)) .nil) pd TF λmv Y D₂ O hv hk U Pt=>?_
  ·show callerA.depth+1+149+11<cy;decide +kernel
  ·show callerA.units+3+3*149+703<iq;decide +kernel
  ·cases hv;exact⟨rfl,hk,U,Pt⟩
end
section
set_option backward.match.sparseCases true
open PySem PySem.W PySem.Calls
noncomputable abbrev r8:OpenLaw:=mY
theorem has_int{x:km}(h:nt [] x .int=true):∃i,x=.int i:=by
 cases x with
 |int i=>exact⟨i,rfl⟩
 |_=>exact dA h
theorem has_list{x:km}(h:nt [] x (.list .int)=true):∃xs,x=.list xs/\iG [] xs .int=true:=by
 cases x with
 |list xs=>exact o5 xs rfl ((m9 _).symm.trans h)
 |_=>exact dA h
theorem O6{P:bB}{h:bP}{v:ag}{i:Int}(a:Well P h v (.int i)):∃t,v=.int i t:=by cases a;exact⟨_,rfl⟩
theorem Ll{P:bB}{h:bP}{vs:af ag}{x:km}{xs:af km}(a:nr P h vs (x::xs)):∃v r,vs=v::r/\Well P h v x/\nr P h r xs:=by cases a with|cons a b=>exact tD _ _ rfl a b
theorem O7{P:bB}{h:bP}{vs:af ag}(a:nr P h vs []):vs=[]:=by cases a;rfl
theorem Gr{T:pg}{P:bB}{h:bP}(D:oN):∀{xs:af km} {vs:af ag},nr P h vs xs->iG [] xs .int=true->∃is:af Int,xs=is.map iC/\vs.length=is.length/\oK T D [] vs (is.map V.int):=by
 intro xs
 induction xs with
 |nil=>intro vs a _;obtain rfl:=O7 a;exact qZ ([]) rfl rfl .nil
 |cons x xs ih =>
  intro vs a hi;refine qA (Bool.and_eq_true_iff.mp hi) λh1 h2=>?_;refine sF (Ll a) λv r o a1 b=>?_;subst o;refine tq (ih b h2) λis y hl q=>?_;subst y;obtain⟨i,rfl⟩:=has_int h1;obtain⟨t,rfl⟩:=O6 a1;exact qZ (i::is) rfl (aD (· + 1) hl) (.cons (.int i t) q)
noncomputable def aa7(o:au aN):aN:=match(match(match o.map je with|some (.bool b)=>some (je !b)|_=>none:au km)with|some (.bool false)=>some (je false)|some (.bool true)=>some (je true)|_=>none:au km)with
 |some (.bool true)=>true
 |_=>false
theorem R3{o:af km}(h:r8.row.toRowW.claim.pre o=true):∃xs,o=[.list xs]/\iG [] xs .int=true/\xs.length<=63:=by
 refine qA (pre_splitW h) λh1 h2=>?_;refine sF (hasAllW_cons h1) λd r y A h4=>?_;subst y;obtain rfl:=hasAllW_nil h4;refine o8 (has_list A) λxs z hi=>?_;subst z;refine qZ xs rfl hi ?_;have h2:aa7 (some (decide ((63:Int)<xs.length)))=true:=h2;by_cases ug:(63:Int)<xs.length
 ·rw[b5 ug]at h2;exact dA h2
 ·lia
theorem Ea:r8.row.toRowW.promised:=(o5 ([.list []]) (by decide +kernel) (by decide +kernel))
end
section
set_option tactic.hygienic true
open PySem PySem.W PySem.Calls
theorem lo1:sreFenced pV.main=true:=by kernel_rfl!
theorem lo2:((moduleNames pV.main.body).isEmpty||lookedIntoSs (moduleNames pV.main.body) pV.main.body)=true:=by kernel_rfl!
theorem lo3:namesResolve pV=true:=by kernel_rfl!
theorem lo4:pV.boundNames.all (λn=>!worldNames.contains n)=true:=by kernel_rfl!
theorem lo5:noRoadLSs {strict:=!(gY pV.main.body).all cThrough.contains,foot:=none,bare:=(["vars", "dir", "locals"]:af Str).filter (readsOut pV pV.main.body)} pV.main.body=true:=by kernel_rfl!
theorem lo6:lh pV pV.main.body (λu_ n=>attrL n)=true:=by kernel_rfl!
theorem lo:looksOpen pV=true:=by delta looksOpen;exact br (br (br (br (br lo1 lo2) lo3) lo4) lo5) lo6
theorem ps:r8.row.partSaid=true:=by
 delta OpenRow.partSaid;refine br (br (br (br (br (br (br (br (br (br (br (br (br lo ?_) ?_) ?_) ?_) ?_) ?_) ?_) ?_) ?_) ?_) ?_) ?_) ?_<;>kernel_rfl!
theorem ws2:r8.footing.all footLine=true:=by kernel_rfl!
theorem ws3:noClassBlock r8.prog r8.footing=true:=by kernel_rfl!
theorem ws5:noRoadLSs {strict:=true,foot:=some r8.bound',writes:=r8.writes,may:=r8.may} r8.footing=true:=by kernel_rfl!
theorem aa8:r8.bound'.all (λn=>!builtinNamed n||r8.about==[n] || !r8.reads n)=true:=by kernel_rfl!
theorem aa9:((r8.prog.main.body.flatMap importedNames).all λn=>!r8.reads n||(drawsOf n r8.prog.main.body).all λo=>o.2 != ("attrgetter" : Str)&&o.2 != ("methodcaller" : Str))=true:=by kernel_rfl!
theorem aba:(lh r8.prog r8.footing (λsc n=>(!(["type", "isinstance", "issubclass", "getattr", "hasattr"]:af Str).contains n||sc.names.lookup n==some .globalImplicit) &&
  (r8.may != some n||sc.kind==.module||sc.names.lookup n==some .globalImplicit)))=true:=by kernel_rfl!
theorem abb:lh r8.prog r8.above (λu_ n=>!r8.own.contains n)=true:=by kernel_rfl!
theorem abc:(lh r8.prog r8.footing λsc n=>sc.kind==.module||sc.names.lookup n != some .globalExplicit)=true:=by kernel_rfl!
theorem wsL:r8.wellSaid=true:=by
 delta OpenLaw.wellSaid;refine br (br (br (br (br (br (br (br (br (br (br (br (br (br (br (br (br (br ((br (br ps ?_) ?_)) ?_) ws2) ws3) ?_) ?_) ws5) ?_) ?_) ?_) aa8) ?_) aa9) aba) ?_) ?_) ?_) abb) abc<;>kernel_rfl!
theorem O8(call:∀d o,defOf qL r8.row.name=some (d,o)->WalkO qL Ih (λu_ u_=>fh) pM r8.row.toRowW d o λf vs=>PySem.call f vs):r8.Holds:=by
 refine holds_law wsL λy=>?_
 exact holds_open (r:=r8.row) (q:=qL) (loose:=Ih) (Xt:=λu_=>true) (XP:=λu_ u_=>fh) (YP:=pM) X2 (λw s e=>OJ e) (λw h h' F k=>F.keeps k) (λu_ u_=>trivial) (λu_ u_ u_ u_ u_=>trivial)
  (by rfl) (by rfl) (by rfl) (λs u_=>recFacts_of rfl) rfl y (by decide +kernel) ⟨rfl,rfl,rfl,rfl,rfl,by decide +kernel⟩ Ea (call _ _ (by rfl))
end
section
open PySem PySem.Calls PyProof.Rows PySem.W
theorem Gs:∀{a b:af Int},a.map iC=b.map iC->a=b:=by
 intro a
 induction a with
 |nil=>intro b h;cases b with
  |nil=>rfl
  |cons=>exact nomatch h
 |cons x a ih=>intro b h;cases b with
  |nil=>exact nomatch h
  |cons y b =>
   rw[a6,a6,kK]at h;obtain⟨h1,h2⟩:=h;cases h1;rw[ih h2]
theorem O9(is:af km):r8.row.toRowW.claim.post [.list is] (.bool true) [.list is]=true:=by
 with_unfolding_all rfl
theorem law_holds:PySem.Challenge.rw_pq0381_01.Holds:=O8 λd kwd H=>by
 intro w aek y mg mb G F a o pm cd doc dV kV ho hod U hdf Y A args vals as M LO hrd C TB;obtain⟨xs,rfl,hi,h63⟩:=R3 M;have Yk:d.name=S "law":=defOf_name H;cases C with
 |cons hw hr =>
  cases hr;cases hw with
  |@list lst vs _ Cd yl =>
   obtain⟨is,rfl,hl,-⟩:=Gr (T:=DW w y.heap mg mb y.gens y.os) (λu_=>none) yl hi;rw[aK]at h63;refine cE (O5 F G.T.g G.T.b G.T.nolimit (by rw[<-Yk];exact Y) Cd (uH (by rw[bo];exact aB (ak hl) (aB h63 (by decide)))) (is:=is) λT D=>?_) (λv s' hq=>?_) λu_ u_ z=>z
   ·obtain⟨O,e,-,r⟩:=Gr (T:=T) D yl hi
    obtain rfl:is=O:=by
     have:(is.map iC)=O.map iC:=e;exact Gs this
    exact r
   ·obtain⟨rfl,hk,hg',Pt⟩:=hq;exact GoodW.toG ⟨.inl ⟨.bool true,.bool true,[],rfl,λu_=>rfl,.bool true,O9 _,λu_=>⟨.nil,λu_ h=>(nM h).elim⟩⟩,hk,Pt,hg'.trans A⟩
end
end Internal
theorem PySem.Challenge.cw_pq0381_01_holds : PySem.Challenge.rw_pq0381_01.Holds :=
 Internal.law_holds
