/-
  A part of the proof.
-/
import Derived.Test.YthepmkjggfijoaaGreatDoorSA
import Derived.Test.YthepmkjggfijoaaGreatDoorS29
import Derived.Test.YthepmkjggfijoaaGreatDoorS30
set_option linter.all false
set_option maxRecDepth 100000
set_option maxHeartbeats 1000000
open Go.Lib (hid)
namespace Go.Proofs.YthepmkjggfijoaaGreatDoor
open Go.RowKit Mist
def ka:Bs:=[108,101,116,32,115,32,61,32,97,32,43,32,98,32,42,32,50,59]
def kb:Bs:=[108,101,116,32,115,32,61,32,49,32,60,32,50,32,60,32,51,59]
def kc:Bs:=[99,104,111,111,115,101,32,100,58,32,51,46,46,49,59]
def kd:Bs:=[108,101,116,32,97,32,61,32,49,59,32,97,115,107,32,98,108,97,109,101,59]
def la:List Tok:=[⟨3,[108,101,116],0⟩,⟨1,[115],4⟩,⟨4,[61],6⟩,⟨1,[97],8⟩,⟨4,[43],10⟩,⟨1,[98],12⟩,⟨4,[42],14⟩,⟨2,[50],16⟩,⟨4,[59],17⟩]
def lb:List Tok:=[⟨3,[108,101,116],0⟩,⟨1,[115],4⟩,⟨4,[61],6⟩,⟨2,[49],8⟩,⟨4,[60],10⟩,⟨2,[50],12⟩,⟨4,[60],14⟩,⟨2,[51],16⟩,⟨4,[59],17⟩]
def lc:List Tok:=[⟨3,[99,104,111,111,115,101],0⟩,⟨1,[100],7⟩,⟨4,[58],8⟩,⟨2,[51],10⟩,⟨4,[46,46],11⟩,⟨2,[49],13⟩,⟨4,[59],14⟩]
def ld:List Tok:=[⟨3,[108,101,116],0⟩,⟨1,[97],4⟩,⟨4,[61],6⟩,⟨2,[49],8⟩,⟨4,[59],9⟩,⟨3,[97,115,107],11⟩,⟨3,[98,108,97,109,101],15⟩,⟨4,[59],20⟩]
def ta:Tr:=⟨[⟨3,[97],0,[],8⟩,⟨3,[98],0,[],12⟩,⟨1,[],2,[],16⟩,⟨8,[],0,[1,2],14⟩,⟨6,[],0,[0,3],10⟩,⟨43,[115],0,[4],0⟩],[5]⟩
def tc:Tr:=⟨[⟨1,[],3,[],10⟩,⟨1,[],1,[],13⟩,⟨40,[100],0,[0,1],0⟩],[2]⟩
def td:Tr:=⟨[⟨1,[],1,[],8⟩,⟨43,[97],0,[0],0⟩,⟨46,[],7,[],11⟩],[1,2]⟩
def goodB (T:Tr):Bool :=
 decide (T.nodes.length≤1000) && (List.range T.nodes.length).all (fun i=>(nd T i).kids.all (fun c=>decide (0≤c) && decide (c < (i:Int)))) && T.nodes.all (fun x=>decide (x.kids.length≤1000000)) &&
 T.nodes.all (fun x=>x.kind != 40 || (match x.kids with
  | [a,b]=>decide (0≤a) && decide (0≤b) && decide (a.toNat < T.nodes.length) && decide (b.toNat < T.nodes.length) && decide (-9999≤(nd T a.toNat).n∧(nd T a.toNat).n≤9999) && decide (-9999≤(nd T b.toNat).n∧(nd T b.toNat).n≤9999)
  | _=>false))
theorem IB {T:Tr}(h:goodB T=true):BD T:=by
 unfold goodB at h
 rw [aaS,aaS,aaS] at h
 obtain⟨⟨⟨h1,h2⟩,h3⟩,h4⟩:=h;rw [aaR] at h2 h3 h4
 refine⟨?_,?_,fun x hx=>of_decide_eq_true (h3 x hx),of_decide_eq_true h1⟩
 ·intro i x hx c hc
  have:=h2 i (List.mem_range.2 (aaE.1 hx).1)
  rw [kH hx,aaR] at this
  have:=this c hc
  simpa using this
 ·intro x hx rT
  have:=h4 x hx
  rw [rT] at this
  rcases hk:x.kids with _ | ⟨a,_ | ⟨b,_ | ⟨c,r⟩⟩⟩
  ·rw [hk] at this;simp at this
  ·rw [hk] at this;simp at this
  ·rw [hk] at this
   simp only [bne_self_eq_false,Bool.false_or,aaS,decide_eq_true_eq] at this
   obtain⟨⟨⟨⟨⟨q1,q2⟩,q3⟩,q4⟩,q5⟩,q6⟩:=this
   refine⟨a.toNat,b.toNat,?_,q3,q4,q5,q6⟩
   rw [Int.toNat_of_nonneg q1,Int.toNat_of_nonneg q2]
  ·rw [hk] at this;simp at this
def Zd (n:Nd):Bool:=decide (n.kind < 256) && decide (n.text.length≤100000000) && decide (jq≤n.n∧n.n≤gq) && decide (jq≤n.at_∧n.at_≤gq) && n.kids.all (fun c=>decide (jq≤c∧c≤gq))
theorem trR_of {ns:List Nd}(h:ns.all Zd=true):xO ns:=by
 intro n hn
 have:=aaR.1 h n hn
 unfold Zd at this
 simp only [aaS,decide_eq_true_eq,aaR] at this
 obtain⟨⟨⟨⟨h1,h2⟩,h3⟩,h4⟩,h5⟩:=this;exact⟨h1,h2,h3,h4,h5⟩
theorem ka_read:Mist.read ka=(la,0,0):=by decide +kernel
theorem kb_read:Mist.read kb=(lb,0,0):=by decide +kernel
theorem kc_read:Mist.read kc=(lc,0,0):=by decide +kernel
theorem kd_read:Mist.read kd=(ld,0,0):=by decide +kernel
def pfB (l:List Tok):Bool:=decide (l.length≤1000) && l.all (fun t=>(Mist.kind t.text == t.kind) && decide (t.text.length≤2000))
theorem Uy {l:List Tok}(h:pfB l=true):PF l:=by
 unfold pfB at h
 rw [aaS,aaR] at h
 refine⟨of_decide_eq_true h.1,fun t ht=>?_,fun t ht=>?_⟩
 ·have:=h.2 t ht
  rw [aaS] at this
  exact eq_of_beq this.1
 ·have:=h.2 t ht
  rw [aaS] at this
  exact of_decide_eq_true this.2
theorem la_pf:PF la:=Uy (by decide +kernel)
theorem lb_pf:PF lb:=Uy (by decide +kernel)
theorem lc_pf:PF lc:=Uy (by decide +kernel)
theorem ld_pf:PF ld:=Uy (by decide +kernel)
theorem la_prog:prog la (ka.length:Int) 200 20 0 [] []=some (.ok ta.items 9 ta.nodes):=by decide +kernel
theorem lb_prog:prog lb (kb.length:Int) 200 20 0 [] []=some (.bad 6):=by decide +kernel
theorem lc_prog:prog lc (kc.length:Int) 200 20 0 [] []=some (.ok tc.items 7 tc.nodes):=by decide +kernel
theorem ld_prog:prog ld (kd.length:Int) 200 20 0 [] []=some (.ok td.items 8 td.nodes):=by decide +kernel
theorem ta_good:BD ta:=IB (by decide +kernel)
theorem tc_good:BD tc:=IB (by decide +kernel)
theorem td_good:BD td:=IB (by decide +kernel)
theorem Xd:iy ta=(0,0):=by decide +kernel
theorem KW:iy tc=(0,3):=by decide +kernel
theorem Xe:iy td=(0,0):=by decide +kernel
theorem ta_check:dN ta=0:=by decide +kernel
theorem td_check:dN td=0:=by decide +kernel
theorem ta_bound:xO ta.nodes:=trR_of (by decide +kernel)
theorem td_bound:xO td.nodes:=trR_of (by decide +kernel)
theorem Mt {s:Bs}{l:List Tok}{n f k:Nat}{T:Tr}(w:World)(hr:Mist.read s=(l,0,0))(hF:PF l)(hp:prog l (s.length:Int) n f 0 [] []=some (.ok T.items k T.nodes))(hE:Env w)(hl:s.length≤100000000)(hG:BD T)(he:iy T=(0,0)) :
  Calls Tryz.prog 17 #[.string (aM s)] w fun e w'=>Below w.heap.size w w'∧∃ A B c d xs,e=.returned (.tuple #[.agg #[.slice A T.nodes.length c,.slice B T.items.length d],.int .i64 0,.int .i64 0])∧aA xs=T.nodes∧xs.length=T.nodes.length∧T.nodes.length≤c∧mq w' A B xs T.items:=by
 refine (y9 s l n f k T w hr hF hp hE hl hG).mono ?_;rintro e w' ⟨hb,⟨h1,_⟩ | ⟨_,v,xs,g,rfl,hx,hg,hT⟩⟩
 ·rw [he] at h1;exact absurd rfl h1
 ·have hxl:xs.length=T.nodes.length:=by rw [← hx,aD]
  have hkl:∀ x ∈ xs,x.1.kids.length≤1000000:=fun x hxx=>hG.kids x.1 (by rw [← hx];exact List.mem_map_of_mem hxx)
  obtain⟨A,B,c,d,hv,hA⟩:=hT.UH hkl;obtain⟨⟨nv,iv,q,hv2,ho,_,_⟩,_⟩:=hT;rw [hv] at hv2
  injection hv2 with h1
  injection h1 with h2
  injection h2 with hnv _
  rw [← hnv] at ho
  have hc:xs.length≤c:=by
   rcases ho.2 with ⟨e1,e2⟩ | ⟨g2,cap,cur,e1,_,_,h3,_⟩
   ·omega
   ·injection e1 with _ _ e4
    omega
  exact⟨hb,A,B,c,d,xs,by rw [hv,hxl],hx,hxl,by omega,hA⟩
theorem aaf (w:World)(hE:Env w) :
  Calls Tryz.prog 17 #[.string (aM kc)] w fun e w'=>Below w.heap.size w w'∧e=.returned (.tuple #[.agg #[.slice none 0 0,.slice none 0 0],.int .i64 0,.int .i64 3]):=by
 refine (y9 kc lc 200 20 7 tc w kc_read lc_pf lc_prog hE (by decide) tc_good).mono ?_;rintro e w' ⟨hb,⟨_,h1⟩ | ⟨h1,_⟩⟩
 ·rw [KW] at h1;exact⟨hb,h1⟩
 ·rw [KW] at h1;exact absurd h1 (by decide)
theorem aae (w:World)(hE:Env w) :
  Calls Tryz.prog 17 #[.string (aM kb)] w fun e w'=>e=.returned (.tuple #[.agg #[.slice none 0 0,.slice none 0 0],.int .i64 14,.int .i64 4])∧Below w.heap.size w w':=by
 refine (Iz kb lb 200 20 6 w kb_read lb_pf lb_prog hE (by decide)).mono ?_;rintro e w' ⟨rfl,hb⟩;exact⟨by rw [show pl lb (kb.length:Int) 6=14 by decide +kernel],hb⟩
theorem Uj {ns:List Nd}{a b:Nat}(h:Fo ns a b []):a=b:=by
 generalize hl:([]:List Int)=l at h
 cases h with
 | nil=>rfl
 | snoc h k e=>simp at hl
theorem k_cut (A B:Option Addr)(c d:Nat)(xs:List NV)(w:World)(hx:aA xs=td.nodes)(hT:mq w A B xs [1,2])(hE:Env w)(hc:3≤c) :
  Calls Tryz.prog 24 #[.agg #[.slice A 3 c,.slice B 2 d],.int .i64 1] w fun e w'=>Below w.heap.size w w'∧∃ gb cap Bi mi di,e=.returned (.tuple #[.agg #[.slice (some ⟨gb,0,none⟩) 1 cap,.slice Bi mi di],.int .i64 0])∧gb < w'.heap.size∧w'.cell? ⟨gb,2,none⟩=some (.int .i64 7):=by
 have hxl:xs.length=3:=by rw [← aD,hx];rfl
 have hT2:(⟨aA xs,[1,2]⟩:Tr)=td:=by rw [hx];rfl
 have hask:iC ⟨aA xs,[1,2]⟩ ([1,2]:List Int).length 1=0:=by
  unfold iC;rw [hT2,td_check]
  decide +kernel
 have h:=cut_any A B c d xs [1,2] 1 w hT (by rw [hx];exact td_bound) hE (by omega);rw [hxl] at h
 refine h.mono ?_;rintro e w' ⟨hb,⟨h1,_⟩ | ⟨_,q,la,out,hq,hla,hl3,hs,g,tb,nv,iv,ext,rfl,hg,hJ,hxe⟩⟩
 ·exact absurd hask h1
 ·obtain rfl:q=1:=by omega
  obtain rfl:la=2:=by
   have:(2:Int)=(la:Int):=by simpa using hla
   omega
  obtain⟨n,m,hn,hm,ho,hfo⟩:=hs.2 2 (by omega)
  have hk:n.kids=[]:=by
   rw [hx] at hn
   have:n=⟨46,[],7,[],11⟩:=by simpa [td] using hn.symm
   rw [this]
  rw [hk] at hfo
  obtain rfl:=Uj hfo;have ho1:(out.getD 2 0).toNat=1:=by rw [ho];rfl
  rw [ho1] at hJ hxe
  have hd:aA ((xs.drop (2+1 - 1)).take 1)=[⟨46,[],7,[],11⟩]:=by
   unfold aA;rw [List.map_take,List.map_drop]
   show ((aA xs).drop 2).take 1=_
   rw [hx];rfl
  rw [hd] at hxe
  have hel:ext.length=1:=by rw [← aD,hxe];rfl
  obtain⟨y,rfl⟩:∃ y,ext=[y]:=by
   match ext,hel with
   | [y],_=>exact⟨y,rfl⟩
  have hy:y.1.n=7:=by
   have h9:y.1=lI (-((2+1 - 1:Nat):Int)) ⟨46,[],7,[],11⟩:=by simpa [aA] using hxe
   rw [h9];rfl
  have ho:=hJ.own;obtain⟨gb,cap,hv,_,hlt⟩:=ho.form (by simp);have hcell:=ho.cells (g:=gb) (by rw [hv];rfl) 2 (.int .i64 7) (by simp [iO,fC,hy]);rw [sj,Nat.zero_add] at hcell
  obtain⟨Bi,di,hiv⟩:=dh hJ.row;exact⟨hb,gb,cap,Bi,_,di,by rw [hv,hiv];rfl,hlt,hcell⟩
theorem Ug {w:World}{a:Addr}{v:Value}(h:w.cell? a=some v):a.block < w.heap.size:=by
 unfold World.cell? at h
 split at h
 ·rename_i c e f hb
  exact (aaG.1 hb).1
 ·cases h
theorem k_path (A B:Option Addr)(c d:Nat)(xs:List NV)(w:World)(hx:aA xs=ta.nodes)(hT:mq w A B xs [5])(hE:Env w) :
  Calls Tryz.prog 36 #[.agg #[.slice A 6 c,.slice B 1 d],.int .i64 1] w fun e w'=>Below w.heap.size w w'∧∃ g cap,e=.returned (.tuple #[.slice (some ⟨g,0,none⟩) 4 cap,.int .i64 0])∧IntsIn w' (some ⟨g,0,none⟩) [5,4,3,1]:=by
 have hxl:xs.length=6:=by rw [← aD,hx];rfl
 have hT2:(⟨aA xs,[5]⟩:Tr)=ta:=by rw [hx];rfl
 have hask:iC ⟨aA xs,[5]⟩ xs.length 1=0:=by
  unfold iC;rw [hT2,ta_check,hxl]
  decide +kernel
 have h:=Dl A B c d xs [5] 1 w hT (by rw [hx];exact ta_bound) (fun W hb=>hE.below hb);rw [hxl] at h
 refine h.mono ?_;rw [hxl] at hask
 rintro e w' ⟨hb,⟨h1,_⟩ | ⟨_,_,_,g,cap,rfl,hg,hc⟩⟩
 ·exact absurd hask h1
 ·rw [hx] at hc ⊢
  have hu:zJ (cZ ta.nodes) (6+1) 1=[1,3,4,5]:=by decide +kernel
  rw [hu] at hc ⊢
  refine⟨hb,g,cap,rfl,⟨fun _=>⟨g,0,rfl,?_,fun j k hk=>?_⟩⟩⟩
  ·exact Ug (hc 0 5 rfl)
  ·rw [Nat.zero_add]
   match j,hk with
   | 0, hk => obtain rfl : (5 : Int) = k := by simpa using hk
              exact hc 0 5 rfl
   | 1, hk => obtain rfl : (4 : Int) = k := by simpa using hk
              exact hc 1 4 rfl
   | 2, hk => obtain rfl : (3 : Int) = k := by simpa using hk
              exact hc 2 3 rfl
   | 3, hk => obtain rfl : (1 : Int) = k := by simpa using hk
              exact hc 3 1 rfl
   | j+4,hk=>simp at hk
end Go.Proofs.YthepmkjggfijoaaGreatDoor
namespace Go.Proofs.YthepmkjggfijoaaGreatDoor
open Go.RowKit Mist
attribute [local go_sem] aj aH aS aB ak
theorem aad (w:World)(hE:Env w) :
  Calls Tryz.prog 17 #[.string (aM ka)] w fun e w'=>Below w.heap.size w w'∧∃ b o B c d xs,e=.returned (.tuple #[.agg #[.slice (some ⟨b,o,none⟩) 6 c,.slice B 1 d],.int .i64 0,.int .i64 0])∧Hid (aA xs=ta.nodes)∧Hid (mq w' (some ⟨b,o,none⟩) B xs [5]):=by
 refine (Mt w ka_read la_pf la_prog hE (by decide) ta_good Xd).mono ?_;rintro e w' ⟨hb,A,B,c,d,xs,rfl,hx,hl,hc,hT⟩;obtain⟨b,o,rfl,_⟩:=hT.nodes (by rw [hl];decide);exact⟨hb,b,o,B,c,d,xs,rfl,hid hx,hid hT⟩
theorem aag (w:World)(hE:Env w) :
  Calls Tryz.prog 17 #[.string (aM kd)] w fun e w'=>Below w.heap.size w w'∧∃ A ib io c d xs,e=.returned (.tuple #[.agg #[.slice A 3 c,.slice (some ⟨ib,io,none⟩) 2 d],.int .i64 0,.int .i64 0])∧Hid (aA xs=td.nodes)∧3≤c∧Hid (mq w' A (some ⟨ib,io,none⟩) xs [1,2]):=by
 refine (Mt w kd_read ld_pf ld_prog hE (by decide) td_good Xe).mono ?_;rintro e w' ⟨hb,A,B,c,d,xs,rfl,hx,hl,hc,hT⟩;obtain⟨ib,io,rfl,_⟩:=hT.items.ex (by decide);exact⟨hb,A,ib,io,c,d,xs,rfl,hid hx,hc,hid hT⟩
theorem kg {w W:World}{o:Obj}(h:Below w.heap.size w W):Below w.heap.size w (W.alloc o):=ah h h.size
theorem rV (w:World)(hE:Env w) :
  Calls Tryz.prog 16 #[] w fun e w'=>e=.returned (.bool true)∧Below w.heap.size w w':=by
 have HE:=hid hE;clear hE;go_in
 go_wp2_with fail;refine (aad _ HE.out).mono ?_;rintro e w1⟨hb1,b1,o1,B1,c1,d1,xs1,rfl,Xu,HT1⟩;have HB1:=hid (aC.new w1 26 #[.slice (some ⟨b1,o1,none⟩) 6 c1,.slice B1 1 d1]);have uE:=hid (kg (o:=.cells #[.slice (some ⟨b1,o1,none⟩) 6 c1,.slice B1 1 d1] 26) hb1);have Lx:=hid (HT1.out.below (kg (o:=.cells #[.slice (some ⟨b1,o1,none⟩) 6 c1,.slice B1 1 d1] 26) (Below.refl _ _)));clear hb1 HT1;go_wp2_with fail
 generalize w1.alloc (.cells #[.slice (some ⟨b1,o1,none⟩) 6 c1,.slice B1 1 d1] 26)=v1 at HB1 uE Lx ⊢
 obtain⟨p1,hp1⟩:∃ p,p=w1.heap.size:=⟨_,rfl⟩;rw [← hp1] at HB1 ⊢
 clear hp1 w1;refine (aae _ (HE.out.below uE.out)).mono ?_;rintro e w2⟨rfl,hb2⟩;have HB2:=hid ((HB1.out.below hb2 HB1.out.lt).alloc (.cells #[.slice none 0 0,.slice none 0 0] 26));have HL2:=hid (kg (o:=.cells #[.slice none 0 0,.slice none 0 0] 26) (uE.out.trans (hb2.mono uE.out.size)));have HT2:=hid (Lx.out.below (kg (o:=.cells #[.slice none 0 0,.slice none 0 0] 26) hb2));clear hb2 HB1 uE Lx;go_wp2_with fail
 generalize w2.alloc (.cells #[.slice none 0 0,.slice none 0 0] 26)=v2 at HB2 HL2 HT2 ⊢
 obtain⟨p2,hp2⟩:∃ p,p=w2.heap.size:=⟨_,rfl⟩;rw [← hp2];clear hp2 w2;refine (aaf _ (HE.out.below HL2.out)).mono ?_;rintro e w3⟨hb3,rfl⟩;have HB3:=hid ((HB2.out.below hb3 HB2.out.lt).alloc (.cells #[.slice none 0 0,.slice none 0 0] 26));have lS:=hid (kg (o:=.cells #[.slice none 0 0,.slice none 0 0] 26) (HL2.out.trans (hb3.mono HL2.out.size)));have HT3:=hid (HT2.out.below (kg (o:=.cells #[.slice none 0 0,.slice none 0 0] 26) hb3));clear hb3 HB2 HL2 HT2;go_wp2_with fail
 generalize w3.alloc (.cells #[.slice none 0 0,.slice none 0 0] 26)=v3 at HB3 lS HT3 ⊢
 obtain⟨p3,hp3⟩:∃ p,p=w3.heap.size:=⟨_,rfl⟩;rw [← hp3];clear hp3 w3;refine (aag _ (HE.out.below lS.out)).mono ?_;rintro e w4⟨hb4,A4,ib,io,c4,d4,xs4,rfl,Js,hc4,Ji⟩;have tO:=hid ((HB3.out.below hb4 HB3.out.lt).alloc (.cells #[.slice A4 3 c4,.slice (some ⟨ib,io,none⟩) 2 d4] 26));have qx:=hid (kg (o:=.cells #[.slice A4 3 c4,.slice (some ⟨ib,io,none⟩) 2 d4] 26) (lS.out.trans (hb4.mono lS.out.size)));have Lx:=hid (HT3.out.below (kg (o:=.cells #[.slice A4 3 c4,.slice (some ⟨ib,io,none⟩) 2 d4] 26) hb4));have HTD:=hid (Ji.out.below (kg (o:=.cells #[.slice A4 3 c4,.slice (some ⟨ib,io,none⟩) 2 d4] 26) (Below.refl _ _)));have HD4:=hid (aC.new w4 26 #[.slice A4 3 c4,.slice (some ⟨ib,io,none⟩) 2 d4]);clear hb4 HB3 lS HT3 Ji;have q0:=HD4.out.cell 0;have q1:=HD4.out.cell 1;go_wp2_with fail
 generalize w4.alloc (.cells #[.slice A4 3 c4,.slice (some ⟨ib,io,none⟩) 2 d4] 26)=v4 at tO qx Lx HTD HD4 ⊢
 obtain⟨p4,hp4⟩:∃ p,p=w4.heap.size:=⟨_,rfl⟩;rw [← hp4] at HD4 ⊢
 clear q0 q1;clear hp4 w4;refine (k_cut A4 (some ⟨ib,io,none⟩) c4 d4 xs4 _ Js.out HTD.out (HE.out.below qx.out) hc4).mono ?_;rintro e w5⟨hb5,gb,cap,Bi,mi,di,rfl,hgb,hcg⟩;have cu:=hid ((tO.out.below hb5 tO.out.lt).alloc (.cells #[.slice (some ⟨gb,0,none⟩) 1 cap,.slice Bi mi di] 26));have HD5:=hid ((HD4.out.below hb5 HD4.out.lt).alloc (.cells #[.slice (some ⟨gb,0,none⟩) 1 cap,.slice Bi mi di] 26));have jO:=hid (kg (o:=.cells #[.slice (some ⟨gb,0,none⟩) 1 cap,.slice Bi mi di] 26) (qx.out.trans (hb5.mono qx.out.size)));have HTA5:=hid (Lx.out.below (kg (o:=.cells #[.slice (some ⟨gb,0,none⟩) 1 cap,.slice Bi mi di] 26) hb5));have HTD5:=hid (HTD.out.below (kg (o:=.cells #[.slice (some ⟨gb,0,none⟩) 1 cap,.slice Bi mi di] 26) hb5));have HC5:=hid (aC.new w5 26 #[.slice (some ⟨gb,0,none⟩) 1 cap,.slice Bi mi di]);have HG5:=hid (show (w5.alloc (.cells #[.slice (some ⟨gb,0,none⟩) 1 cap,.slice Bi mi di] 26)).cell? ⟨gb,2,none⟩=some (.int .i64 7) from (World.cell?_alloc_lt w5 _ _ hgb).trans hcg);have hgl:gb < (w5.alloc (.cells #[.slice (some ⟨gb,0,none⟩) 1 cap,.slice Bi mi di] 26)).heap.size:=by simp;omega
 clear hb5 hgb hcg tO qx Lx HTD HD4;go_wp2_with fail
 generalize w5.alloc (.cells #[.slice (some ⟨gb,0,none⟩) 1 cap,.slice Bi mi di] 26)=v5 at cu HD5 jO HTA5 HTD5 HC5 HG5 hgl ⊢
 obtain⟨p5,hp5⟩:∃ p,p=w5.heap.size:=⟨_,rfl⟩;rw [← hp5] at HC5 ⊢
 clear hp5 w5;refine (rank_any 8 _).mono ?_;rw [show wJ 8=(7,0) by decide];rintro e w6⟨rfl,hb6⟩;have dA:=hid (cu.out.below hb6 cu.out.lt);have HD6:=hid (HD5.out.below hb6 HD5.out.lt);have HC6:=hid (HC5.out.below hb6 HC5.out.lt);have kT:=hid (jO.out.trans (hb6.mono jO.out.size));have HTA6:=hid (HTA5.out.below hb6);have HTD6:=hid (HTD5.out.below hb6);have HG6:=hid ((hb6.cell (p:=⟨gb,2,none⟩) (by exact hgl)).trans HG5.out);have z8:gb < w6.heap.size:=aaW hgl hb6.size;clear hb6 hgl cu HD5 jO HTA5 HTD5 HC5 HG5;have q0:=dA.out.cell 0;have q1:=dA.out.cell 1;have q2:=HD6.out.cell 1;have q3:=HC6.out.cell 0;go_wp2_with fail;refine (k_path (some ⟨b1,o1,none⟩) B1 c1 d1 xs1 _ Xu.out HTA6.out (HE.out.below kT.out)).mono ?_;rintro e w7⟨nI,gp,capp,rfl,hip⟩;have uN:=hid (dA.out.below nI dA.out.lt);have HD7:=hid (HD6.out.below nI HD6.out.lt);have HC7:=hid (HC6.out.below nI HC6.out.lt);have U0:=hid (kT.out.trans (nI.mono kT.out.size));have HTA7:=hid (HTA6.out.below nI);have HTD7:=hid (HTD6.out.below nI);have HG7:=hid ((nI.cell (p:=⟨gb,2,none⟩) (by exact z8)).trans HG6.out);have HIP:=hid hip;have hgl7:gb < w7.heap.size:=aaW z8 nI.size;clear nI z8 dA HD6 kT HTA6 HTD6 HC6 HG6 q0 q1 q2 q3 hip;go_wp2_with fail;have HW:=hid (show Below w7.heap.size w7 (w7.alloc (.cells #[.int .i64 5,.int .i64 4,.int .i64 3,.int .i64 1] 3)) from ah (Below.refl _ _) (aaJ _));have Yy:=hid (aC.new w7 3 #[.int .i64 5,.int .i64 4,.int .i64 3,.int .i64 1]);refine (Z7 (some ⟨gp,0,none⟩) (some ⟨w7.heap.size,0,none⟩) 4 capp 4 [5,4,3,1] [5,4,3,1] _ rfl rfl (by omega) (HIP.out.below HW.out) ⟨fun _=>⟨w7.heap.size,0,rfl,Yy.out.lt,fun j k hk=>?_⟩⟩).mono ?_
 ·rw [Nat.zero_add,Yy.out.cell j]
  match j,hk with
  | 0, hk => obtain rfl : (5 : Int) = k := by simpa using hk
             rfl
  | 1, hk => obtain rfl : (4 : Int) = k := by simpa using hk
             rfl
  | 2, hk => obtain rfl : (3 : Int) = k := by simpa using hk
             rfl
  | 3, hk => obtain rfl : (1 : Int) = k := by simpa using hk
             rfl
  | j+4,hk=>simp at hk
 rintro e w8⟨rfl,tZ⟩;have HW8:=hid (HW.out.trans (tZ.mono HW.out.size));have HB8:=hid (uN.out.below HW8.out uN.out.lt);have HD8:=hid (HD7.out.below HW8.out HD7.out.lt);have HC8:=hid (HC7.out.below HW8.out HC7.out.lt);have HTA8:=hid (HTA7.out.below HW8.out);have HTD8:=hid (HTD7.out.below HW8.out);have Yv:=hid (U0.out.trans (HW8.out.mono U0.out.size));have g2:=(HW8.out.cell (p:=⟨gb,2,none⟩) (by exact hgl7)).trans HG7.out;clear tZ HW Yy HIP uN HD7 HC7 HTA7 HTD7 U0 HG7;obtain⟨b',o',hbo,hN⟩:=HTA8.out.nodes (by rw [← aD,Xu.out];decide);injection hbo with hbo
 injection hbo with hbb hoo _
 subst hbb;subst hoo
 have hx3:∃ x,xs1[3]? = some x∧x.1=⟨8,[],0,[1,2],14⟩:=by
  obtain⟨x,hx⟩:∃ x,xs1[3]? = some x:=jD (by rw [← aD,Xu.out];decide);exact⟨x,hx,by have:=gP hx;rw [Xu.out] at this;simpa [ta] using this.symm⟩
 have hx4:∃ x,xs1[4]? = some x∧x.1=⟨6,[],0,[0,3],10⟩:=by
  obtain⟨x,hx⟩:∃ x,xs1[4]? = some x:=jD (by rw [← aD,Xu.out];decide);exact⟨x,hx,by have:=gP hx;rw [Xu.out] at this;simpa [ta] using this.symm⟩
 obtain⟨x3,hx3,AX⟩:=hx3;obtain⟨x4,hx4,Qr⟩:=hx4;have c3:=hN.c4 3 x3 hx3;have c4':=hN.c0 4 x4 hx4;rw [AX] at c3
 rw [Qr] at c4'
 obtain⟨ib',io',hio,_,hic⟩:=HTD8.out.items.ex (by decide);injection hio with hio
 injection hio with hbb hoo _
 subst hbb;subst hoo;have i0:=hic 0 1 rfl;have i1:=hic 1 2 rfl;rw [Nat.add_zero] at i0
 clear hic hN hx3 hx4 AX Qr;have q0:=HB8.out.cell 0;have q1:=HB8.out.cell 1;have q2:=HD8.out.cell 1;have q3:=HC8.out.cell 0;go_wp2_with fail;go_ret;exact⟨by first | rfl | simp,Yv.out⟩
end Go.Proofs.YthepmkjggfijoaaGreatDoor
