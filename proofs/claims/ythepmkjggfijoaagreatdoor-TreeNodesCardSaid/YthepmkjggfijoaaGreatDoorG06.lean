/-
  PARTS of the proof: LawNodes, TreeNodes.
-/
import Derived.Test.YthepmkjggfijoaaGreatDoorC35
import Derived.Test.YthepmkjggfijoaaGreatDoorCards
import Derived.Test.YthepmkjggfijoaaGreatDoorG04
import Derived.Test.YthepmkjggfijoaaGreatDoorG05
set_option linter.all false
set_option maxRecDepth 100000
set_option maxHeartbeats 1000000
open Go.Lib (hid)
namespace Go.Proofs.YthepmkjggfijoaaGreatDoor
open Go.RowKit Mist
attribute [local go_sem] ofL_extract ofL_size ofL_get ofL_bytes ofL_append
theorem nodes_law (A B:Option Addr)(c g:Nat)(xs:List NV)(its:List Int)(node:Int)(w:World)(hE:Env w)(hw:TreeArg w A B c xs its) :
  Calls Tryz.prog 11 #[.agg #[.slice A xs.length c,.slice B its.length g],.int .i64 node] w fun e w'=>e=.returned (.bool true)∧Below w.heap.size w w':=by
 have HE:=hid hE;clear hE
 have HBG:=hid (hw.big g)
 have HSM:=hid hw.small;clear hw
 have HL0:=hid (balloc (Below.refl w.heap.size w) (Nat.le_refl _) (o:=.cells #[.slice A xs.length c,.slice B its.length g] 26))
 have HB0:=hid (Blk.new w 26 #[.slice A xs.length c,.slice B its.length g])
 go_enter Tryz.func11,Tryz.ntmps11
 go_wp2_with fail
 refine (HBG.out _ HL0.out).mono ?_
 rintro e w1⟨rfl,hb1⟩
 have HL1:=hid (HL0.out.trans (hb1.mono HL0.out.size))
 have HB1:=hid (HB0.out.below hb1 HB0.out.lt)
 clear hb1 HL0 HB0 HBG
 cases hbig:bigL ⟨nds xs,its⟩
 case true =>
  clear hbig
  go_wp2_with fail
  refine (known_any _ (HE.out.below HL1.out)).mono ?_
  rintro e w2⟨rfl,hb2⟩
  have HL2:=hid (btr HL1.out hb2);clear hb2
  go_wp2_with fail
  go_ret
  exact⟨by first | rfl | simp,HL2.out⟩
 obtain⟨hT,hTR,hn,hm,htx,hkr,hkl⟩:=HSM.out hbig
 clear hbig HSM
 have hnum:∀ n ∈ nds xs,lowN≤n.n∧n.n≤highN:=fun n hn=>(hTR n hn).num
 have HT:=hid hT
 have HTR:=hid hTR
 have HCP:=hid fun W (hb:Below w.heap.size w W)=>copy_any A B c g xs its W (hT.below hb) (by omega) (by omega) hkr
 have HRO:=hid fun W (hb:Below w.heap.size w W)=>ropen_any A B c g xs its node W (hT.below hb) (by omega) (by omega) htx hnum
 have HRS:=hid fun W (hb:Below w.heap.size w W)=>rsize_any A B c g xs its node W (hT.below hb) (by omega) (by omega) htx hnum
 have HRD:=hid fun W (hb:Below w.heap.size w W)=>rdepth_any A B c g xs its node W (hT.below hb) (by omega) (by omega) htx hnum
 have HRP:=hid fun W (hb:Below w.heap.size w W)=>rparent_any A B c g xs its node W (hT.below hb) (by omega) (by omega) htx hnum
 have HRT:=hid fun W (hb:Below w.heap.size w W)=>rpath_any A B c g xs its node W (hT.below hb) (by omega) (by omega) htx hnum
 have HRI:=hid fun W (hb:Below w.heap.size w W)=>ritemN_any A B c g xs its node W (hT.below hb) (by omega) (by omega) htx hnum
 have HZL:=hid (pathZ_len ⟨nds xs,its⟩ xs.length node (nds_len xs) (by omega))
 have HKL:=hid hkl
 have HNX:=hid hn
 have HNI:=hid hm
 clear hT hTR htx hkr hkl hn hm hnum
 have t0:=HB1.out.cell 0
 have t1:=HB1.out.cell 1
 go_wp2_with fail
 refine (HCP.out _ HL1.out).mono ?_
 rintro e w2⟨hb2,nv,iv,ext,rfl,hri,hex⟩
 obtain⟨An,cn,rfl⟩:=own_form hri.own
 obtain⟨Av,cv,rfl⟩:=own_form hri.row
 have HX:=hid (hri.tAt fun x hx=>HKL.out x.1 (by rw [← hex];exact List.mem_map.2 ⟨x,hx,rfl⟩))
 have HX2:=hid hex
 have hxl:ext.length=xs.length:=by rw [← nds_len,hex,nds_len]
 have HXL:=hid hxl
 rw [hxl]
 clear hxl hri hex HCP
 have HL2:=hid (btr HL1.out hb2)
 have HB2:=hid ((HB1.out.below hb2 HB1.out.lt).alloc (.cells #[.slice An xs.length cn,.slice Av its.length cv] 26))
 have HC2:=hid (Blk.new w2 26 #[.slice An xs.length cn,.slice Av its.length cv])
 have HD2:=hid (balloc (Below.refl w2.heap.size w2) (Nat.le_refl _) (o:=.cells #[.slice An xs.length cn,.slice Av its.length cv] 26))
 clear hb2 HB1 HL1 t0 t1
 have HTX:=hid (show TrR (nds ext) by rw [HX2.out];exact HTR.out)
 have HPS:=hid fun W (hb:Below w2.heap.size w2 W)=>treeSize_any An Av cn cv ext its node W (HX.out.below hb) HTX.out (HE.out.below (btr HL2.out hb))
 have HPD:=hid fun W (hb:Below w2.heap.size w2 W)=>treeDepth_any An Av cn cv ext its node W (HX.out.below hb) HTX.out (HE.out.below (btr HL2.out hb))
 have HPP:=hid fun W (hb:Below w2.heap.size w2 W)=>treeParent_any An Av cn cv ext its node W (HX.out.below hb) HTX.out (HE.out.below (btr HL2.out hb))
 have HPT:=hid fun W (hb:Below w2.heap.size w2 W)=>tpath_any An Av cn cv ext its node W (HX.out.below hb) HTX.out (HE.out.below (btr HL2.out hb))
 have HPI:=hid fun W (hb:Below w2.heap.size w2 W)=>treeItem_any An Av cn cv ext its node W (HX.out.below hb) HTX.out (HE.out.below (btr HL2.out hb))
 rw [HX2.out,HXL.out] at HPS HPD HPP HPT HPI
 have HSA:=hid fun W (hb:Below w2.heap.size w2 W)=>same_any An Av A B cn cv c g ext xs its W (HX.out.below hb) (HT.out.below (btr HL2.out hb)) HX2.out (by have:=HXL.out;have:=HNX.out;omega) (by have:=HNI.out;omega)
 rw [HXL.out] at HSA
 obtain⟨E,hE⟩:∃ E,E=askE ⟨nds xs,its⟩ xs.length node:=⟨_,rfl⟩
 obtain⟨Z,hZ⟩:∃ Z,Z=pathZ ⟨nds xs,its⟩ xs.length node:=⟨_,rfl⟩
 rw [← hE] at HPS HPD HPP HPT HPI HRO HRS HRD HRP HRT HRI
 rw [← hZ] at HPT HRT HZL
 obtain⟨V1,hV1⟩:∃ V,V=ansV (sizeV ⟨nds xs,its⟩ node) E:=⟨_,rfl⟩
 obtain⟨V2,hV2⟩:∃ V,V=ansV (depthV ⟨nds xs,its⟩ node) E:=⟨_,rfl⟩
 obtain⟨V3,hV3⟩:∃ V,V=ansV (parentV ⟨nds xs,its⟩ node) E:=⟨_,rfl⟩
 obtain⟨V4,hV4⟩:∃ V,V=ansV (itemV ⟨nds xs,its⟩ node) E:=⟨_,rfl⟩
 rw [← hV1] at HPS HRS
 rw [← hV2] at HPD HRD
 rw [← hV3] at HPP HRP
 rw [← hV4] at HPI HRI
 clear hE hZ hV1 hV2 hV3 hV4
 have e0:(E == E)=true:=by simp
 have e00:(E != E)=false:=by simp
 have e1:(V1 == V1)=true:=by simp
 have e2:(V2 == V2)=true:=by simp
 have e3:(V3 == V3)=true:=by simp
 have e4:(V4 == V4)=true:=by simp
 obtain⟨lz,hlz⟩:∃ lz,lz=Z.length:=⟨_,rfl⟩
 rw [← hlz] at HPT HRT HZL
 have HLZ:=hid hlz;clear hlz
 have t0:=HB2.out.cell 0
 have t1:=HB2.out.cell 1
 have x0:=HC2.out.cell 0
 have x1:=HC2.out.cell 1
 go_wp2_with fail
 refine (HPS.out _ HD2.out).mono ?_
 rintro e w3⟨rfl,hb3⟩
 have HB3:=hid (HB2.out.on hb3)
 have HC3:=hid (HC2.out.on hb3)
 have HD3:=hid (btr HD2.out hb3)
 clear hb3 HB2 HC2 HD2 t0 t1 x0 x1
 have t0:=HB3.out.cell 0
 have t1:=HB3.out.cell 1
 have x0:=HC3.out.cell 0
 have x1:=HC3.out.cell 1
 go_wp2_with fail
 refine (HPD.out _ HD3.out).mono ?_
 rintro e w4⟨rfl,hb4⟩
 have HB4:=hid (HB3.out.on hb4)
 have HC4:=hid (HC3.out.on hb4)
 have HD4:=hid (btr HD3.out hb4)
 clear hb4 HB3 HC3 HD3 t0 t1 x0 x1
 have t0:=HB4.out.cell 0
 have t1:=HB4.out.cell 1
 have x0:=HC4.out.cell 0
 have x1:=HC4.out.cell 1
 go_wp2_with fail
 refine (HPP.out _ HD4.out).mono ?_
 rintro e w5⟨rfl,hb5⟩
 have HB5:=hid (HB4.out.on hb5)
 have HC5:=hid (HC4.out.on hb5)
 have HD5:=hid (btr HD4.out hb5)
 clear hb5 HB4 HC4 HD4 t0 t1 x0 x1
 have t0:=HB5.out.cell 0
 have t1:=HB5.out.cell 1
 have x0:=HC5.out.cell 0
 have x1:=HC5.out.cell 1
 go_wp2_with fail
 refine (HPT.out _ HD5.out).mono ?_
 rintro e w6⟨hb6,Ap,cp,rfl,hi⟩
 have HB6:=hid (HB5.out.on hb6)
 have HC6:=hid (HC5.out.on hb6)
 have HD6:=hid (btr HD5.out hb6)
 have HIP6:=hid hi
 clear hb6 HB5 HC5 HD5 hi t0 t1 x0 x1
 have t0:=HB6.out.cell 0
 have t1:=HB6.out.cell 1
 have x0:=HC6.out.cell 0
 have x1:=HC6.out.cell 1
 go_wp2_with fail
 refine (HPI.out _ HD6.out).mono ?_
 rintro e w7⟨rfl,hb7⟩
 have HB7:=hid (HB6.out.on hb7)
 have HC7:=hid (HC6.out.on hb7)
 have HD7:=hid (btr HD6.out hb7)
 have HIP7:=hid (HIP6.out.below hb7)
 clear hb7 HB6 HC6 HD6 HIP6 t0 t1 x0 x1
 have t0:=HB7.out.cell 0
 have t1:=HB7.out.cell 1
 have x0:=HC7.out.cell 0
 have x1:=HC7.out.cell 1
 go_wp2_with fail
 refine (HRO.out _ (btr HL2.out HD7.out)).mono ?_
 rintro e w8⟨rfl,hb8⟩
 have HB8:=hid (HB7.out.on hb8)
 have HC8:=hid (HC7.out.on hb8)
 have HD8:=hid (btr HD7.out hb8)
 have HIP8:=hid (HIP7.out.below hb8)
 clear hb8 HB7 HC7 HD7 HIP7 t0 t1 x0 x1
 have t0:=HB8.out.cell 0
 have t1:=HB8.out.cell 1
 have x0:=HC8.out.cell 0
 have x1:=HC8.out.cell 1
 go_wp2_with fail
 refine (HSA.out _ HD8.out).mono ?_
 rintro e w9⟨hb9,rfl⟩
 have HB9:=hid (HB8.out.on hb9)
 have HC9:=hid (HC8.out.on hb9)
 have HD9:=hid (btr HD8.out hb9)
 have HIP9:=hid (HIP8.out.below hb9)
 clear hb9 HB8 HC8 HD8 HIP8 t0 t1 x0 x1
 have t0:=HB9.out.cell 0
 have t1:=HB9.out.cell 1
 have x0:=HC9.out.cell 0
 have x1:=HC9.out.cell 1
 go_wp2_with fail
 refine (HRS.out _ (btr HL2.out HD9.out)).mono ?_
 rintro e w10⟨rfl,hb10⟩
 have HB10:=hid (HB9.out.on hb10)
 have HC10:=hid (HC9.out.on hb10)
 have HD10:=hid (btr HD9.out hb10)
 have HIP10:=hid (HIP9.out.below hb10)
 clear hb10 HB9 HC9 HD9 HIP9 t0 t1 x0 x1
 have t0:=HB10.out.cell 0
 have t1:=HB10.out.cell 1
 have x0:=HC10.out.cell 0
 have x1:=HC10.out.cell 1
 go_wp2_with fail
 refine (HRD.out _ (btr HL2.out HD10.out)).mono ?_
 rintro e w11⟨rfl,hb11⟩
 have HB11:=hid (HB10.out.on hb11)
 have HC11:=hid (HC10.out.on hb11)
 have HD11:=hid (btr HD10.out hb11)
 have HIP11:=hid (HIP10.out.below hb11)
 clear hb11 HB10 HC10 HD10 HIP10 t0 t1 x0 x1
 have t0:=HB11.out.cell 0
 have t1:=HB11.out.cell 1
 have x0:=HC11.out.cell 0
 have x1:=HC11.out.cell 1
 go_wp2_with fail
 refine (HRP.out _ (btr HL2.out HD11.out)).mono ?_
 rintro e w12⟨rfl,hb12⟩
 have HB12:=hid (HB11.out.on hb12)
 have HC12:=hid (HC11.out.on hb12)
 have HD12:=hid (btr HD11.out hb12)
 have HIP12:=hid (HIP11.out.below hb12)
 clear hb12 HB11 HC11 HD11 HIP11 t0 t1 x0 x1
 have t0:=HB12.out.cell 0
 have t1:=HB12.out.cell 1
 have x0:=HC12.out.cell 0
 have x1:=HC12.out.cell 1
 go_wp2_with fail
 refine (HRT.out _ (btr HL2.out HD12.out)).mono ?_
 rintro e w13⟨hb13,Aq,cq,rfl,hi⟩
 have HB13:=hid (HB12.out.on hb13)
 have HC13:=hid (HC12.out.on hb13)
 have HD13:=hid (btr HD12.out hb13)
 have HIP13:=hid (HIP12.out.below hb13)
 have HIQ13:=hid hi
 clear hb13 HB12 HC12 HD12 HIP12 hi t0 t1 x0 x1
 have t0:=HB13.out.cell 0
 have t1:=HB13.out.cell 1
 have x0:=HC13.out.cell 0
 have x1:=HC13.out.cell 1
 go_wp2_with fail
 refine (HRI.out _ (btr HL2.out HD13.out)).mono ?_
 rintro e w14⟨rfl,hb14⟩
 have HB14:=hid (HB13.out.on hb14)
 have HC14:=hid (HC13.out.on hb14)
 have HD14:=hid (btr HD13.out hb14)
 have HIP14:=hid (HIP13.out.below hb14)
 have HIQ14:=hid (HIQ13.out.below hb14)
 clear hb14 HB13 HC13 HD13 HIP13 HIQ13 t0 t1 x0 x1
 go_wp2_with fail
 refine (ints_any Ap Aq lz cp cq Z Z _ HLZ.out.symm HLZ.out.symm HZL.out HIP14.out HIQ14.out).mono ?_
 rintro e wf⟨rfl,hbf⟩
 have d1:decide (Z=Z)=true:=decide_eq_true rfl
 rw [d1]
 have HLF:=hid (btr HL2.out (btr HD14.out hbf))
 clear hbf
 go_wp2_with fail
 refine (known_any _ (HE.out.below HLF.out)).mono ?_
 rintro e w9⟨rfl,hb9⟩
 have HL9:=hid (btr HLF.out hb9);clear hb9
 go_wp2_with fail
 go_ret
 exact⟨by first | rfl | simp,HL9.out⟩
end Go.Proofs.YthepmkjggfijoaaGreatDoor
namespace Go.Proofs.YthepmkjggfijoaaGreatDoor
open Go.ChangeShapes Go.WideShapes Go.ChangeAt Go.RowKit Go.MapKept Go.ChangeMaps Mist
theorem nodes_lifted (os:Os)(started:os.Started)(H:Type)(enc:TypeId × Value→H) :
  ReturnsInHanded {} Tryz.checked os 11 .any (fun w args=>(Rows.treeNodesSpec.pre enc Tryz.prog Tryz.f11 [] false w args∧laidMetH Tryz.prog Rows.treeNodesRow.laid w)∧sizedMet enc Tryz.prog Tryz.f11 (OpenSpec.ofChange Rows.treeNodesSpec) false w args)
   (Rows.treeNodesSpec.post enc Tryz.prog Tryz.f11 false true false false):=by
 refine returnsInHanded_of_change_and (C:=Tryz.checked) (X:=fun w _=>laidMetH Tryz.prog Rows.treeNodesRow.laid w) (fun _ _ _ hh h=>h.of_heap hh) own_knob started (by kernel_rfl) Tryz.func11
  (ChangeSpec.witness_shaped (enc:=enc) (C:=Tryz.checked) (os:=os) (X:=fun w _=>laidMetH Tryz.prog Rows.treeNodesRow.laid w) false (World.laidAll Tryz.prog os Rows.treeNodesRow.laid) #[.agg #[.slice none 0 0,.slice none 0 0],.int .i64 0] 8 (World.laidAll_os _ _ _)
   (World.shaped_of_ZipB (by kernel_rfl) (by kernel_rfl)) (by kernel_rfl) (by kernel_rfl) (by kernel_rfl)
   (by rw [MakeChecks.laidMetH_plain _ _ _ (by kernel_rfl)];exact laidMet_laidAll _ (by kernel_rfl) (by kernel_rfl))) ?_
 intro W base args ds gs before hval0 hW _ hsz hL _
 rw [MakeChecks.laidMetH_plain _ _ _ (by kernel_rfl)] at hL
 have hE:Env W:=env_of_laid hL (by simp [Rows.treeNodesRow])
 have hval:∀ (j:Nat) t v,Tryz.f11.params[j]? = some t→args[j]? = some v→Value.okWide Tryz.prog W .any base t v:=hval0
 have hW':=hW
 obtain⟨p,q,hA0,hV,rfl,_,_⟩:=hW
 have hA:DataW.TrodAll enc Tryz.prog W 0 (fun _=>true) true Tryz.f11.params.toList args.toList ds p:=hA0
 rw [Tryz.params11] at hA hval
 obtain⟨v0,v1,d0,d1,p0,p1,rfl,rfl,rfl,h0,h1⟩:=trodAll_two hA
 obtain⟨rfl,rfl⟩:=trodVars_none hV
 obtain⟨A0,B0,c0,g0,xs0,its0,rfl,hw0⟩:=tree_of_trod (j:=0) (hval 0 26 v0 rfl rfl) h0 hsz (by rw [Tryz.params11];rfl) rfl
 obtain⟨n1,rfl,rfl,rfl,hn1⟩:=open_int (show Tryz.prog.underlying 3=some (.int .i64) by kernel_rfl) (hval 1 3 v1 rfl rfl) h1
 have fin:=nodes_law A0 B0 c0 g0 xs0 its0 n1 W hE hw0
 refine fin.mono fun e W' ⟨he,hw⟩=>?_
 subst he
 exact⟨_,rfl,post_true (t:=4) laid_out (by kernel_rfl) rfl (by kernel_rfl) bool_row rfl hW' hw⟩
theorem nodes_said:Rows.TreeNodesSaid :=
 OpenClaim.holds_of_wide 11 Tryz.f11 rfl rfl rfl rfl rfl rfl rfl ⟨rfl,rfl,rfl,rfl,rfl⟩ rfl rfl rfl rfl rfl (by kernel_rfl) Tryz.func11 (by kernel_rfl)
  (of_decide_eq_true (by kernel_rfl)) (by unfold Func.isWrapper;first|(rw [if_pos (by decide +kernel)];kernel_rfl)|(rw [if_neg (by decide +kernel)];exact⟨rfl,rfl⟩))
  (fun os started H enc _=>nodes_lifted os started H enc)
theorem nodes_holds:Rows.TreeNodesCardSaid :=
 Claim7.holds_tied_plain_at .later [] [.data, .data, .data, .sentinel, .sentinel, .listed, .data] true (true, "930e7ddc3c177b6ac6c34496cd3f8d07608127284058b89a41b68245be8bebb1") true nodes_said (fun _ h => by cases h) (by kernel_rfl) (fun _ h => by cases h) treeNodes_row_tie rfl ⟨rfl, rfl⟩ (by kernel_rfl) rfl
  (fun f fn hf hfn=>by
   obtain rfl : f = 11 := Option.some.inj ((show Tryz.prog.funcNamed "mist/mistlaw03.TreeNodes" = some 11 by kernel_rfl).symm.trans hf) |>.symm
   obtain rfl:fn=Tryz.f11:=(Option.some.inj (Tryz.func11.symm.trans hfn)).symm
   exact⟨by kernel_rfl,fun j t ht=>by
    rw [Tryz.params11] at ht
    have hm:t ∈ [26,3]:=by simpa using Array.mem_of_getElem? ht
    have hall:([26,3].all fun u=>!Tryz.prog.wantsStandIn u)=true:=by kernel_rfl
    exact (show Tryz.prog.wantsStandIn t=false by simpa using List.all_eq_true.1 hall t hm)⟩)
  (by kernel_rfl)
end Go.Proofs.YthepmkjggfijoaaGreatDoor
