/-
  A part of the proof.
-/
import Derived.Test.YthepmkjggfijoaaGreatDoorSA
import Derived.Test.YthepmkjggfijoaaGreatDoorS32
import Derived.Test.YthepmkjggfijoaaGreatDoorCards
import Derived.Test.YthepmkjggfijoaaGreatDoorQ10
import Derived.Test.YthepmkjggfijoaaGreatDoorQ11
set_option linter.all false
set_option maxRecDepth 100000
set_option maxHeartbeats 4000000
open Go.Lib (hid)
namespace Go.Proofs.YthepmkjggfijoaaGreatDoor
open Go.RowKit Mist
attribute [local go_sem] aj aH aS aB ak
theorem tAt_nil (w:World):mq w none none [] []:=⟨fun h=>absurd h (by simp),⟨fun h=>absurd h (by simp)⟩⟩
theorem Sn (s:Bs)(w:World)(hE:Env w)(he:(Mist.read s).2.2 ≠ 0)(hl:s.length≤100000000) :
  Calls Tryz.prog 17 #[.string (aM s)] w fun e w'=>e=.returned (.tuple #[.agg #[.slice none 0 0,.slice none 0 0],.int .i64 (Mist.read s).2.1,.int .i64 (Mist.read s).2.2])∧Below w.heap.size w w':=by
 obtain⟨E,hE2⟩:∃ E,E=(Mist.read s).2.2:=⟨_,rfl⟩;rw [← hE2] at he
 have HE:=hid hE2;clear hE2;have HV:=hid hE;clear hE;have e0:((E:Int) == 0)=false:=by simpa using he
 clear he;go_in
 go_wp2_with fail;refine (IG s _ (HV.out.alloc _) hl).mono ?_;rintro e w2⟨v,rfl,ht,hb2⟩;rw [← HE.out];have HB2:=hid (yT hb2);have HL2:=hid ((ah (Below.refl w.heap.size w) (aaJ _) (o:=.cells #[.slice none 0 0,.slice none 0 0] 26)).trans (hb2.mono (by simp)));clear hb2 ht;have q0:=HB2.out.cell 0;have q1:=HB2.out.cell 1;have r0:=HB2.out.frozen 0;have r1:=HB2.out.frozen 1;go_wp2_with fail;have hz:=(HB2.out.d_ 0 (.slice none 0 0)).d_ 1 (.slice none 0 0);have z0:=hz.cell 0;have z1:=hz.cell 1;refine bodyPost_ret (v:=.tuple #[.agg #[.slice none 0 0,.slice none 0 0],.int .i64 (Mist.read s).2.1,.int .i64 E]) (by simp [results,Tryz.f17,go_sem,z0,z1]) rfl ⟨by rw [← HE.out],?_⟩
 repeat (first|(with_reducible exact HL2.out)|(with_reducible refine dx ?_ ?_) | omega)
def Rl (T:Tr)(X E:Int)(w:World)(e:Ending)(w':World):Prop :=
 Below w.heap.size w w'∧∃ (A B:Option Addr) (c d:Nat) (xs:List NV),e=.returned (.tuple #[.agg #[.slice A xs.length c,.slice B T.items.length d],.int .i64 X,.int .i64 E])∧aA xs=T.nodes∧mq w' A B xs T.items
theorem qc {w w':World}{e:Ending}{X E:Int}(h:e=.returned (.tuple #[.agg #[.slice none 0 0,.slice none 0 0],.int .i64 X,.int .i64 E]))(hb:Below w.heap.size w w'):Rl ⟨[],[]⟩ X E w e w' :=
 ⟨hb,none,none,0,0,[],h,rfl,tAt_nil _⟩
theorem Sr {T:Tr}(h:∀ x ∈ T.nodes,Mist.sized T x=gD T x):iy T=jy T:=by
 unfold iy jy;split
 ·rfl
 ·unfold outT wm;rcases hx:T.nodes.findIdx? (fun x=>!Mist.sized T x) with _ | i
  ·rw [List.findIdx?_eq_none_iff] at hx
   have h1:T.nodes.find? (fun x=>!gD T x)=none:=by
    rw [List.find?_eq_none];intro x hm;rw [← h x hm];simpa using hx x hm
   rw [h1];rfl
  ·rw [List.findIdx?_eq_some_iff_getElem] at hx
   obtain⟨hl,hp,hj⟩:=hx
   have h1:T.nodes.find? (fun x=>!gD T x)=some T.nodes[i]:=by
    rw [List.find?_eq_some_iff_getElem];exact⟨by rw [← h _ (List.getElem_mem hl)];exact hp,i,hl,rfl,fun j hji=>by have:=hj j hji;rw [← h _ (List.getElem_mem _)];simpa using this⟩
   rw [h1];have h2:nd T i=T.nodes[i]:=kH (aaD hl)
   show (if 0≤((i:Nat):Int) then ((nd T ((i:Nat):Int).toNat).at_,(3:Int)) else (0,0))=_
   rw [if_pos (Int.natCast_nonneg i),aaQ,h2]
theorem zG (s:Bs):∀ (f a:Nat) (acc l:List Mist.Tok) (x:Nat),dJ f s a acc=(l,x,0)→x=0
 | 0,a,acc,l,x,h=>by rw [dJ] at h;injection h with _ h;injection h with h _;exact h.symm
 | f+1,a,acc,l,x,h=>by
  by_cases ha:s.length≤a
  ·rw [jK f s a acc ha] at h;injection h with _ h;injection h with h _;exact h.symm
  ·by_cases hk:(first (s.drop a)).1=0
   ·rw [kR f s a acc ha hk] at h;injection h with _ h;injection h with _ h;cases h
   ·by_cases h8:acc.length=800
    ·rw [kQ f s a acc ha hk h8] at h;injection h with _ h;injection h with _ h;cases h
    ·rw [ji f s a acc ha hk h8] at h;exact zG s f _ _ _ _ h
theorem Wu {s:Bs}{l:List Mist.Tok}{a:Nat}(h:Mist.read s=(l,a,0)):a=0:=by
 unfold Mist.read at h
 split at h
 ·rename_i hc;injection h with _ h;injection h with _ h;exact absurd h hc
 ·exact zG s _ _ _ _ _ h
theorem Sq (s:Bs)(hl:s.length≤100000000):∃ (T:Tr) (X E:Int),T.nodes.length≤1000∧T.items.length≤1000 ∧
  (∀ w,Env w→Calls Tryz.prog 17 #[.string (aM s)] w (Rl T X E w))∧(∀ w,Calls Tryz.prog 18 #[.string (aM s)] w (Rl T X E w)):=by
 by_cases he:(Mist.read s).2.2=0
 case neg =>
  exact⟨⟨[],[]⟩,_,_,by simp,by simp,fun w hE=>(Sn s w hE he hl).mono fun e w' h=>qc h.1 h.2,fun w=>(SV s w he hl).mono fun e w' h=>qc h.1 h.2⟩
 obtain⟨l,a,z,hr⟩:∃ l a z,Mist.read s=(l,a,z):=⟨_,_,_,rfl⟩;obtain rfl:z=0:=by rw [hr] at he;exact he
 obtain rfl:a=0:=Wu hr;have hlen:l.length≤800:=by have:=Pg s;rw [hr] at this;exact this
 obtain⟨hT,hx,hs⟩:=Mist.rX hr;have EG:∀ t ∈ l,t.text.length≤100000000:=fun t ht=>Nat.le_trans (hx t ht) (by omega)
 have hF:PF l:=⟨by omega,hT.kind,hx⟩;rcases EK (s.length:Int) hT hlen with ⟨its,ns,hp,hq,hA,hW,hFo,hn,hi⟩ | ⟨k,its,ns,hp,hq,hn⟩
 ·have node:∀ x ∈ ns,x.kids.length≤1000000∧Mist.sized ⟨ns,its⟩ x=gD ⟨ns,its⟩ x∧nJ ⟨ns,its⟩ x:=fun x hm=>by
   obtain⟨i,hil,hix⟩:=List.mem_iff_getElem.1 hm;obtain⟨h1,h2,h3⟩:=yJ (T:=⟨ns,its⟩) hA hW hFo (i:=i) (x:=x) (by rw [← hix];exact aaD hil);exact⟨by omega,h2,h3⟩
  have hG:BD ⟨ns,its⟩:=⟨hW,fun x hm=>(node x hm).2.2,fun x hm=>(node x hm).1,by show ns.length≤1000;omega⟩;have hE9:iy ⟨ns,its⟩=jy ⟨ns,its⟩:=Sr fun x hm=>(node x hm).2.1
  have c1:=fun w hE=>y9 s l _ _ l.length ⟨ns,its⟩ w hr hF hp hE hl hG
  have c2:=fun w=>WA s l _ _ its ⟨l.length,false,ns⟩ w hr (by omega) EG hq rfl hl hG
  by_cases hz:(iy ⟨ns,its⟩).2=0
  ·refine⟨⟨ns,its⟩,0,0,by show ns.length≤1000;omega,by show its.length≤1000;omega,fun w hE=>(c1 w hE).mono fun e w' h=>?_,fun w=>(c2 w).mono fun e w' h=>?_⟩
   ·obtain⟨hb,h | ⟨_,v,xs,g,he,hxs,_,ht⟩⟩:=h
    ·exact absurd hz h.1
    ·obtain⟨A,B,c,d,rfl,hTA⟩:=ht.UH (fun x hx=>hG.kids x.1 (by rw [← hxs];exact List.mem_map_of_mem hx));exact⟨hb,A,B,c,d,xs,he,hxs,hTA⟩
   ·obtain⟨hb,h | ⟨_,A,B,c,d,xs,he,hxs,hTA⟩⟩:=h
    ·exact absurd (hE9 ▸ hz) h.1
    ·exact⟨hb,A,B,c,d,xs,he,hxs,hTA⟩
  ·refine⟨⟨[],[]⟩,(iy ⟨ns,its⟩).1,(iy ⟨ns,its⟩).2,by simp,by simp,fun w hE=>(c1 w hE).mono fun e w' h=>?_,fun w=>(c2 w).mono fun e w' h=>?_⟩
   ·obtain⟨hb,h | ⟨h,_⟩⟩:=h
    ·exact qc h.2 hb
    ·exact absurd h hz
   ·obtain⟨hb,h | ⟨h,_⟩⟩:=h
    ·rw [← hE9] at h;exact qc h.2 hb
    ·rw [← hE9] at h;exact absurd h hz
 ·exact⟨⟨[],[]⟩,_,_,by simp,by simp,fun w hE=>(Iz s l _ _ k w hr hF hp hE hl).mono fun e w' h=>qc h.1 h.2,fun w=>(SS s l _ _ its ⟨k,true,ns⟩ w hr (by omega) EG hq hn rfl hl).mono fun e w' h=>qc h.1 h.2⟩
theorem aaZ (s:Bs)(w:World)(hE:Env w) :
  Calls Tryz.prog 3 #[.string (aM s)] w fun e w'=>e=.returned (.bool true)∧Below w.heap.size w w':=by
 have HE:=hid hE;clear hE;by_cases h5:5000 < s.length
 ·have e5:decide (5000 < s.length)=true:=aaU h5;have e5':decide (5000 < (s.length:Int))=true:=aaU (by omega);clear h5;go_in
  go_wp2_with fail;refine (rV _ HE.out).mono ?_;rintro e w2⟨rfl,hb2⟩;go_wp2_with fail;go_ret;exact⟨rfl,hb2⟩
 ·have e5:decide (5000 < s.length)=false:=aaV h5;have e5':decide (5000 < (s.length:Int))=false:=aaV (by omega);obtain⟨T,X,E,hTn,hTi,hp,hq⟩:=Sq s (by omega);clear h5;have HPA:=hid hp;have Ey:=hid hq;clear hp hq;go_in
  go_wp2_with fail;refine (HPA.out _ HE.out).mono ?_;rintro e w1⟨hb1,A,B,c,d,xs,rfl,hxs,hta⟩;have HB1:=hid (aC.new w1 26 #[.slice A xs.length c,.slice B T.items.length d]);have uE:=hid (ah hb1 hb1.size (o:=.cells #[.slice A xs.length c,.slice B T.items.length d] 26));have HT1:=hid (hta.below (ah (Below.refl _ _) (aaJ _) (o:=.cells #[.slice A xs.length c,.slice B T.items.length d] 26)));have HX:=hid hxs;clear hb1 hta hxs;go_wp2_with fail;refine (Ey.out _).mono ?_;rintro e w2⟨hb2,A',B',c',d',ys,rfl,hys,htb⟩;have HB2:=hid ((HB1.out.below hb2 HB1.out.lt).alloc (.cells #[.slice A' ys.length c',.slice B' T.items.length d'] 26));have Bo:=hid (aC.new w2 26 #[.slice A' ys.length c',.slice B' T.items.length d']);have HL2:=hid (ah (uE.out.trans (hb2.mono uE.out.size)) (Nat.le_trans uE.out.size hb2.size) (o:=.cells #[.slice A' ys.length c',.slice B' T.items.length d'] 26));have HD2:=hid (ah (Below.refl w2.heap.size w2) (aaJ _) (o:=.cells #[.slice A' ys.length c',.slice B' T.items.length d'] 26));have HT2:=hid ((HT1.out.below hb2).below HD2.out);have HU2:=hid (htb.below HD2.out);have HY:=hid hys;clear hb2 htb hys HB1 HT1 uE;have t0:=HB2.out.cell 0;have t1:=HB2.out.cell 1;have x0:=Bo.out.cell 0;have x1:=Bo.out.cell 1;have eX:(X == X)=true:=by simp
  have eE:(E == E)=true:=by simp
  go_wp2_with fail;refine (Py A B A' B' c d c' d' xs ys T.items _ HT2.out HU2.out (by rw [HX.out,HY.out]) (by have:=HX.out;rw [← aD,this];omega) (by omega)).mono ?_;rintro e w3⟨hb3,rfl⟩;have lS:=hid (HL2.out.trans (hb3.mono HL2.out.size));clear hb3;go_wp2_with fail;refine (rV _ (HE.out.below lS.out)).mono ?_;rintro e w4⟨rfl,hb4⟩;have qx:=hid (lS.out.trans (hb4.mono lS.out.size));clear hb4;go_wp2_with fail;go_ret;exact⟨by first | rfl | simp,qx.out⟩
end Go.Proofs.YthepmkjggfijoaaGreatDoor
namespace Go.Proofs.YthepmkjggfijoaaGreatDoor
open Go.ChangeShapes Go.WideShapes Go.ChangeAt Go.RowKit Go.MapKept Go.ChangeMaps Mist
theorem aaz (os:Os)(started:os.Started)(H:Type)(enc:TypeId × Value→H) :
  ReturnsInHanded {} Tryz.checked os 3 .any (fun w args=>(Rows.treeParsesSpec.pre enc Tryz.prog Tryz.f3 [] false w args∧laidMetH Tryz.prog Rows.treeParsesRow.laid w)∧sizedMet enc Tryz.prog Tryz.f3 (OpenSpec.ofChange Rows.treeParsesSpec) false w args)
   (Rows.treeParsesSpec.post enc Tryz.prog Tryz.f3 false true false false):=by
 refine returnsInHanded_of_change_and (C:=Tryz.checked) (X:=fun w _=>laidMetH Tryz.prog Rows.treeParsesRow.laid w) (fun _ _ _ hh h=>h.of_heap hh) own_knob started (by kernel_rfl) Tryz.func3
  (ChangeSpec.witness_shaped (enc:=enc) (C:=Tryz.checked) (os:=os) (X:=fun w _=>laidMetH Tryz.prog Rows.treeParsesRow.laid w) false (World.laidAll Tryz.prog os Rows.treeParsesRow.laid) #[.string ⟨#[]⟩] 8 (World.laidAll_os _ _ _)
   (World.shaped_of_ZipB (by kernel_rfl) (by kernel_rfl)) (by kernel_rfl) (by kernel_rfl) (by kernel_rfl)
   (by rw [MakeChecks.laidMetH_plain _ _ _ (by kernel_rfl)];exact laidMet_laidAll _ (by kernel_rfl) (by kernel_rfl))) ?_
 intro W base args ds gs before hval0 hW _ hsz hL _;rw [MakeChecks.laidMetH_plain _ _ _ (by kernel_rfl)] at hL
 have hE:Env W:=env_of_laid hL (by simp [Rows.treeParsesRow]);have hval:∀ (j:Nat) t v,Tryz.f3.params[j]? = some t→args[j]? = some v→Value.okWide Tryz.prog W .any base t v:=hval0;have hW':=hW;obtain⟨p,q,hA0,hV,rfl,_,_⟩:=hW;have hA:DataW.TrodAll enc Tryz.prog W 0 (fun _=>true) true Tryz.f3.params.toList args.toList ds p:=hA0;rw [Tryz.params3] at hA hval
 obtain⟨v0,d0,rfl,rfl,h0⟩:=trodAll_one hA;obtain⟨rfl,rfl⟩:=trodVars_none hV;obtain⟨s0,rfl,rfl,rfl,hs0⟩:=open_string (show Tryz.prog.underlying 9=some .string by kernel_rfl) (hval 0 9 v0 rfl rfl) h0;have es0:ByteArray.mk s0.data=aM s0.data.toList:=by simp [aM]
 have fin:=aaZ s0.data.toList W hE;rw [← es0] at fin
 refine fin.mono fun e W' ⟨he,hw⟩=>?_
 subst he;exact⟨_,rfl,post_true (t:=4) laid_out (by kernel_rfl) rfl (by kernel_rfl) bool_row rfl hW' hw⟩
theorem aaY:Rows.TreeParsesSaid :=
 OpenClaim.holds_of_wide 3 Tryz.f3 rfl rfl rfl rfl rfl rfl rfl ⟨rfl,rfl,rfl,rfl,rfl⟩ rfl rfl rfl rfl rfl (by kernel_rfl) Tryz.func3 (by kernel_rfl)
  (of_decide_eq_true (by kernel_rfl)) (by unfold Func.isWrapper;first|(rw [if_pos (by decide +kernel)];kernel_rfl)|(rw [if_neg (by decide +kernel)];exact⟨rfl,rfl⟩))
  (fun os started H enc _=>aaz os started H enc)
theorem parses_holds:Rows.TreeParsesCardSaid :=
 Claim7.holds_tied_plain_at .later [] [.data, .data, .data, .sentinel, .sentinel, .listed, .data] true (true, "930e7ddc3c177b6ac6c34496cd3f8d07608127284058b89a41b68245be8bebb1") true aaY (fun _ h => by cases h) (by kernel_rfl) (fun _ h => by cases h) treeParses_row_tie rfl ⟨rfl, rfl⟩ (by kernel_rfl) rfl
  (fun f fn hf hfn=>by
   obtain rfl : f = 3 := aaP ((show Tryz.prog.funcNamed "mist/mistlaw03.TreeParses" = some 3 by kernel_rfl).symm.trans hf) |>.symm
   obtain rfl:fn=Tryz.f3:=(aaP (Tryz.func3.symm.trans hfn)).symm
   exact⟨by kernel_rfl,fun j t ht=>by
    rw [Tryz.params3] at ht
    have hm:t ∈ [9]:=by simpa using Array.mem_of_getElem? ht
    have hall:([9].all fun u=>!Tryz.prog.wantsStandIn u)=true:=by kernel_rfl
    exact (show Tryz.prog.wantsStandIn t=false by simpa using aaR.1 hall t hm)⟩)
  (by kernel_rfl)
end Go.Proofs.YthepmkjggfijoaaGreatDoor
