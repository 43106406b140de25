/-
  A part of the proof.
-/
import Derived.Test.YthepmkjggfijoaaGreatDoorSA
import Derived.Test.YthepmkjggfijoaaGreatDoorS29
import Derived.Test.YthepmkjggfijoaaGreatDoorS30
set_option linter.all false
set_option maxRecDepth 100000
set_option maxHeartbeats 1000000
namespace Go.Proofs.YthepmkjggfijoaaGreatDoor
open Go.RowKit Mist
def ka:Bs:=[108,101,116,32,115,32,61,32,97,32,43,32,98,32,42,32,50,59]
def kb:Bs:=[108,101,116,32,115,32,61,32,49,32,60,32,50,32,60,32,51,59]
def kc:Bs:=[99,104,111,111,115,101,32,100,58,32,51,46,46,49,59]
def kd:Bs:=[108,101,116,32,97,32,61,32,49,59,32,97,115,107,32,98,108,97,109,101,59]
def la:List Tok:=[⟨3,[108,101,116],0⟩,⟨1,[115],4⟩,⟨4,[61],6⟩,⟨1,[97],8⟩,⟨4,[43],10⟩,⟨1,[98],12⟩,⟨4,[42],14⟩,⟨2,[50],16⟩,⟨4,[59],17⟩]
def lb:List Tok:=[⟨3,[108,101,116],0⟩,⟨1,[115],4⟩,⟨4,[61],6⟩,⟨2,[49],8⟩,⟨4,[60],10⟩,⟨2,[50],12⟩,⟨4,[60],14⟩,⟨2,[51],16⟩,⟨4,[59],17⟩]
def lc:List Tok:=[⟨3,[99,104,111,111,115,101],0⟩,⟨1,[100],7⟩,⟨4,[58],8⟩,⟨2,[51],10⟩,⟨4,[46,46],11⟩,⟨2,[49],13⟩,⟨4,[59],14⟩]
def ld:List Tok:=[⟨3,[108,101,116],0⟩,⟨1,[97],4⟩,⟨4,[61],6⟩,⟨2,[49],8⟩,⟨4,[59],9⟩,⟨3,[97,115,107],11⟩,⟨3,[98,108,97,109,101],15⟩,⟨4,[59],20⟩]
def ta:Tr:=⟨[⟨3,[97],0,[],8⟩,⟨3,[98],0,[],12⟩,⟨1,[],2,[],16⟩,⟨8,[],0,[1,2],14⟩,⟨6,[],0,[0,3],10⟩,⟨43,[115],0,[4],0⟩],[5]⟩
def tc:Tr:=⟨[⟨1,[],3,[],10⟩,⟨1,[],1,[],13⟩,⟨40,[100],0,[0,1],0⟩],[2]⟩
def td:Tr:=⟨[⟨1,[],1,[],8⟩,⟨43,[97],0,[0],0⟩,⟨46,[],7,[],11⟩],[1,2]⟩
def goodB (T:Tr):Bool :=
 decide (T.nodes.length≤1000) && (List.range T.nodes.length).all (fun i=>(nd T i).kids.all (fun c=>decide (0≤c) && decide (c < (i:Int)))) && T.nodes.all (fun x=>decide (x.kids.length≤1000000)) &&
 T.nodes.all (fun x=>x.kind != 40 || (match x.kids with
  | [a,b]=>decide (0≤a) && decide (0≤b) && decide (a.toNat < T.nodes.length) && decide (b.toNat < T.nodes.length) && decide (-9999≤(nd T a.toNat).n∧(nd T a.toNat).n≤9999) && decide (-9999≤(nd T b.toNat).n∧(nd T b.toNat).n≤9999)
  | _=>false))
theorem IB {T:Tr}(h:goodB T=true):BD T:=by
 unfold goodB at h
 rw [aaS,aaS,aaS] at h
 obtain⟨⟨⟨h1,h2⟩,h3⟩,h4⟩:=h;rw [aaR] at h2 h3 h4
 refine⟨?_,?_,fun x d=>of_decide_eq_true (h3 x d),of_decide_eq_true h1⟩
 ·intro i x d c f
  have:=h2 i (List.mem_range.2 (aaE.1 d).1)
  rw [kH d,aaR] at this
  have:=this c f
  simpa using this
 ·intro x d o
  have:=h4 x d
  rw [o] at this
  rcases e:x.kids with _ | ⟨a,_ | ⟨b,_ | ⟨c,r⟩⟩⟩
  ·rw [e] at this;simp at this
  ·rw [e] at this;simp at this
  ·rw [e] at this
   simp only [bne_self_eq_false,Bool.false_or,aaS,decide_eq_true_eq] at this
   obtain⟨⟨⟨⟨⟨g,j⟩,k⟩,l⟩,m⟩,n⟩:=this
   refine⟨a.toNat,b.toNat,?_,k,l,m,n⟩
   rw [Int.toNat_of_nonneg g,Int.toNat_of_nonneg j]
  ·rw [e] at this;simp at this
def Zd (n:Nd):Bool:=decide (n.kind < 256) && decide (n.text.length≤100000000) && decide (jq≤n.n∧n.n≤gq) && decide (jq≤n.at_∧n.at_≤gq) && n.kids.all (fun c=>decide (jq≤c∧c≤gq))
theorem trR_of {ns:List Nd}(h:ns.all Zd=true):xO ns:=by
 intro n a
 have:=aaR.1 h n a
 unfold Zd at this
 simp only [aaS,decide_eq_true_eq,aaR] at this
 obtain⟨⟨⟨⟨h1,h2⟩,h3⟩,h4⟩,h5⟩:=this;exact⟨h1,h2,h3,h4,h5⟩
theorem ka_read:Mist.read ka=(la,0,0):=by decide +kernel
theorem kb_read:Mist.read kb=(lb,0,0):=by decide +kernel
theorem kc_read:Mist.read kc=(lc,0,0):=by decide +kernel
theorem kd_read:Mist.read kd=(ld,0,0):=by decide +kernel
def pfB (l:List Tok):Bool:=decide (l.length≤1000) && l.all (fun t=>(Mist.kind t.text == t.kind) && decide (t.text.length≤2000))
theorem Uy {l:List Tok}(h:pfB l=true):PF l:=by
 unfold pfB at h
 rw [aaS,aaR] at h
 refine⟨of_decide_eq_true h.1,fun t a=>?_,fun t a=>?_⟩
 ·have:=h.2 t a
  rw [aaS] at this
  exact eq_of_beq this.1
 ·have:=h.2 t a
  rw [aaS] at this
  exact of_decide_eq_true this.2
theorem la_pf:PF la:=Uy (by decide +kernel)
theorem lb_pf:PF lb:=Uy (by decide +kernel)
theorem lc_pf:PF lc:=Uy (by decide +kernel)
theorem ld_pf:PF ld:=Uy (by decide +kernel)
theorem la_prog:prog la (ka.length:Int) 200 20 0 [] []=some (.ok ta.items 9 ta.nodes):=by decide +kernel
theorem lb_prog:prog lb (kb.length:Int) 200 20 0 [] []=some (.bad 6):=by decide +kernel
theorem lc_prog:prog lc (kc.length:Int) 200 20 0 [] []=some (.ok tc.items 7 tc.nodes):=by decide +kernel
theorem ld_prog:prog ld (kd.length:Int) 200 20 0 [] []=some (.ok td.items 8 td.nodes):=by decide +kernel
theorem ta_good:BD ta:=IB (by decide +kernel)
theorem tc_good:BD tc:=IB (by decide +kernel)
theorem td_good:BD td:=IB (by decide +kernel)
theorem Xd:iy ta=(0,0):=by decide +kernel
theorem KW:iy tc=(0,3):=by decide +kernel
theorem Xe:iy td=(0,0):=by decide +kernel
theorem ta_check:dN ta=0:=by decide +kernel
theorem td_check:dN td=0:=by decide +kernel
theorem ta_bound:xO ta.nodes:=trR_of (by decide +kernel)
theorem td_bound:xO td.nodes:=trR_of (by decide +kernel)
theorem Mt {s:Bs}{l:List Tok}{n f k:Nat}{T:Tr}(w:World)(J:Mist.read s=(l,0,0))(hF:PF l)(I:prog l (s.length:Int) n f 0 [] []=some (.ok T.items k T.nodes))(E:Env w)(H:s.length≤100000000)(t:BD T)(G:iy T=(0,0)) :
  Calls Tryz.prog 17 #[.string (aM s)] w fun e o=>Below w.heap.size w o∧∃ A B c d xs,e=.returned (.tuple #[.agg #[.slice A T.nodes.length c,.slice B T.items.length d],.int .i64 0,.int .i64 0])∧aA xs=T.nodes∧xs.length=T.nodes.length∧T.nodes.length≤c∧mq o A B xs T.items:=by
 refine (y9 s l n f k T w J hF I E H t).mono ?_;rintro e o ⟨F,⟨h1,_⟩ | ⟨_,v,xs,g,rfl,j,P,u⟩⟩
 ·rw [G] at h1;exact absurd rfl h1
 ·have b:xs.length=T.nodes.length:=by rw [← j,aD]
  have h:∀ x ∈ xs,x.1.kids.length≤1000000:=fun x m=>t.kids x.1 (by rw [← j];exact List.mem_map_of_mem m)
  obtain⟨A,B,c,d,hv,D⟩:=u.UH h;obtain⟨⟨nv,iv,q,a,y,_,_⟩,_⟩:=u;rw [hv] at a
  injection a with h1
  injection h1 with h2
  injection h2 with i _
  rw [← i] at y
  have N:xs.length≤c:=by
   rcases y.2 with ⟨r,K⟩ | ⟨M,cap,C,r,_,_,h3,_⟩
   ·omega
   ·injection r with _ _ L
    omega
  exact⟨F,A,B,c,d,xs,by rw [hv,b],j,b,by omega,D⟩
theorem aaf (w:World)(b:Env w) :
  Calls Tryz.prog 17 #[.string (aM kc)] w fun e a=>Below w.heap.size w a∧e=.returned (.tuple #[.agg #[.slice none 0 0,.slice none 0 0],.int .i64 0,.int .i64 3]):=by
 refine (y9 kc lc 200 20 7 tc w kc_read lc_pf lc_prog b (by decide) tc_good).mono ?_;rintro e a ⟨c,⟨_,h1⟩ | ⟨h1,_⟩⟩
 ·rw [KW] at h1;exact⟨c,h1⟩
 ·rw [KW] at h1;exact absurd h1 (by decide)
theorem aae (w:World)(b:Env w) :
  Calls Tryz.prog 17 #[.string (aM kb)] w fun e a=>e=.returned (.tuple #[.agg #[.slice none 0 0,.slice none 0 0],.int .i64 14,.int .i64 4])∧Below w.heap.size w a:=by
 refine (Iz kb lb 200 20 6 w kb_read lb_pf lb_prog b (by decide)).mono ?_;rintro e a ⟨rfl,c⟩;exact⟨by rw [show pl lb (kb.length:Int) 6=14 by decide +kernel],c⟩
theorem Uj {ns:List Nd}{a b:Nat}(h:Fo ns a b []):a=b:=by
 generalize c:([]:List Int)=l at h
 cases h with
 | nil=>rfl
 | snoc h k e=>simp at c
theorem k_cut (A B:Option Addr)(c d:Nat)(xs:List NV)(w:World)(k:aA xs=td.nodes)(J:mq w A B xs [1,2])(I:Env w)(Q:3≤c) :
  Calls Tryz.prog 24 #[.agg #[.slice A 3 c,.slice B 2 d],.int .i64 1] w fun e o=>Below w.heap.size w o∧∃ f cap r P t,e=.returned (.tuple #[.agg #[.slice (some ⟨f,0,none⟩) 1 cap,.slice r P t],.int .i64 0])∧f < o.heap.size∧o.cell? ⟨f,2,none⟩=some (.int .i64 7):=by
 have G:xs.length=3:=by rw [← aD,k];rfl
 have v:(⟨aA xs,[1,2]⟩:Tr)=td:=by rw [k];rfl
 have i:iC ⟨aA xs,[1,2]⟩ ([1,2]:List Int).length 1=0:=by
  unfold iC;rw [v,td_check]
  decide +kernel
 have h:=cut_any A B c d xs [1,2] 1 w J (by rw [k];exact td_bound) I (by omega);rw [G] at h
 refine h.mono ?_;rintro e o ⟨K,⟨h1,_⟩ | ⟨_,q,la,out,T,D,M,N,g,tb,nv,iv,ext,rfl,R,u,b⟩⟩
 ·exact absurd i h1
 ·obtain rfl:q=1:=by omega
  obtain rfl:la=2:=by
   have:(2:Int)=(la:Int):=by simpa using D
   omega
  obtain⟨n,m,H,S,l,j⟩:=N.2 2 (by omega)
  have L:n.kids=[]:=by
   rw [k] at H
   have:n=⟨46,[],7,[],11⟩:=by simpa [td] using H.symm
   rw [this]
  rw [L] at j
  obtain rfl:=Uj j;have F:(out.getD 2 0).toNat=1:=by rw [l];rfl
  rw [F] at u b
  have hd:aA ((xs.drop (2+1 - 1)).take 1)=[⟨46,[],7,[],11⟩]:=by
   unfold aA;rw [List.map_take,List.map_drop]
   show ((aA xs).drop 2).take 1=_
   rw [k];rfl
  rw [hd] at b
  have x:ext.length=1:=by rw [← aD,b];rfl
  obtain⟨y,rfl⟩:∃ y,ext=[y]:=by
   match ext,x with
   | [y],_=>exact⟨y,rfl⟩
  have hy:y.1.n=7:=by
   have h9:y.1=lI (-((2+1 - 1:Nat):Int)) ⟨46,[],7,[],11⟩:=by simpa [aA] using b
   rw [h9];rfl
  have l:=u.own;obtain⟨f,cap,hv,_,E⟩:=l.form (by simp);have a:=l.cells (g:=f) (by rw [hv];rfl) 2 (.int .i64 7) (by simp [iO,fC,hy]);rw [sj,Nat.zero_add] at a
  obtain⟨r,t,C⟩:=dh u.row;exact⟨K,f,cap,r,_,t,by rw [hv,C];rfl,E,a⟩
theorem Ug {w:World}{a:Addr}{v:Value}(h:w.cell? a=some v):a.block < w.heap.size:=by
 unfold World.cell? at h
 split at h
 ·rename_i c e f b
  exact (aaG.1 b).1
 ·cases h
theorem k_path (A B:Option Addr)(c d:Nat)(xs:List NV)(w:World)(l:aA xs=ta.nodes)(r:mq w A B xs [5])(q:Env w) :
  Calls Tryz.prog 36 #[.agg #[.slice A 6 c,.slice B 1 d],.int .i64 1] w fun e o=>Below w.heap.size w o∧∃ g cap,e=.returned (.tuple #[.slice (some ⟨g,0,none⟩) 4 cap,.int .i64 0])∧IntsIn o (some ⟨g,0,none⟩) [5,4,3,1]:=by
 have i:xs.length=6:=by rw [← aD,l];rfl
 have m:(⟨aA xs,[5]⟩:Tr)=ta:=by rw [l];rfl
 have b:iC ⟨aA xs,[5]⟩ xs.length 1=0:=by
  unfold iC;rw [m,ta_check,i]
  decide +kernel
 have h:=Dl A B c d xs [5] 1 w r (by rw [l];exact ta_bound) (fun W n=>q.below n);rw [i] at h
 refine h.mono ?_;rw [i] at b
 rintro e o ⟨n,⟨h1,_⟩ | ⟨_,_,_,g,cap,rfl,u,f⟩⟩
 ·exact absurd b h1
 ·rw [l] at f ⊢
  have t:zJ (cZ ta.nodes) (6+1) 1=[1,3,4,5]:=by decide +kernel
  rw [t] at f ⊢
  refine⟨n,g,cap,rfl,⟨fun _=>⟨g,0,rfl,?_,fun j k a=>?_⟩⟩⟩
  ·exact Ug (f 0 5 rfl)
  ·rw [Nat.zero_add]
   match j,a with
   | 0, a =>  obtain rfl : (5 : Int) = k := by simpa using a
              exact f 0 5 rfl
   | 1, a =>  obtain rfl : (4 : Int) = k := by simpa using a
              exact f 1 4 rfl
   | 2, a =>  obtain rfl : (3 : Int) = k := by simpa using a
              exact f 2 3 rfl
   | 3, a =>  obtain rfl : (1 : Int) = k := by simpa using a
              exact f 3 1 rfl
   | j+4,a=>simp at a
end Go.Proofs.YthepmkjggfijoaaGreatDoor
namespace Go.Proofs.YthepmkjggfijoaaGreatDoor
open Go.RowKit Mist
attribute [local go_sem] aj aH aS aB ak
theorem aad (w:World)(g:Env w) :
  Calls Tryz.prog 17 #[.string (aM ka)] w fun e a=>Below w.heap.size w a∧∃ b o B c d xs,e=.returned (.tuple #[.agg #[.slice (some ⟨b,o,none⟩) 6 c,.slice B 1 d],.int .i64 0,.int .i64 0])∧Hid (aA xs=ta.nodes)∧Hid (mq a (some ⟨b,o,none⟩) B xs [5]):=by
 refine (Mt w ka_read la_pf la_prog g (by decide) ta_good Xd).mono ?_;rintro e a ⟨h,A,B,c,d,xs,rfl,j,i,k,f⟩;obtain⟨b,o,rfl,_⟩:=f.nodes (by rw [i];decide);exact⟨h,b,o,B,c,d,xs,rfl,O j,O f⟩
theorem aag (w:World)(h:Env w) :
  Calls Tryz.prog 17 #[.string (aM kd)] w fun e f=>Below w.heap.size w f∧∃ A a b c d xs,e=.returned (.tuple #[.agg #[.slice A 3 c,.slice (some ⟨a,b,none⟩) 2 d],.int .i64 0,.int .i64 0])∧Hid (aA xs=td.nodes)∧3≤c∧Hid (mq f A (some ⟨a,b,none⟩) xs [1,2]):=by
 refine (Mt w kd_read ld_pf ld_prog h (by decide) td_good Xe).mono ?_;rintro e f ⟨i,A,B,c,d,xs,rfl,k,l,j,g⟩;obtain⟨a,b,rfl,_⟩:=g.items.ex (by decide);exact⟨i,A,a,b,c,d,xs,rfl,O k,j,O g⟩
theorem kg {w W:World}{o:Obj}(h:Below w.heap.size w W):Below w.heap.size w (W.alloc o):=ah h h.size
theorem rV (w:World)(hE:Env w) :
  Calls Tryz.prog 16 #[] w fun e w'=>e=.returned (.bool true)∧Below w.heap.size w w':=by
 have HE:=O hE;clear hE;go_in
 go_wp2_with fail;refine (aad _ HE.o).mono ?_;rintro e w1⟨hb1,b1,o1,B1,c1,d1,r,rfl,Xu,HT1⟩;have g:=O (aC.new w1 26 #[.slice (some ⟨b1,o1,none⟩) 6 c1,.slice B1 1 d1]);have uE:=O (kg (o:=.cells #[.slice (some ⟨b1,o1,none⟩) 6 c1,.slice B1 1 d1] 26) hb1);have W:=O (HT1.o.below (kg (o:=.cells #[.slice (some ⟨b1,o1,none⟩) 6 c1,.slice B1 1 d1] 26) (Below.refl _ _)));clear hb1 HT1;go_wp2_with fail
 generalize w1.alloc (.cells #[.slice (some ⟨b1,o1,none⟩) 6 c1,.slice B1 1 d1] 26)=v1 at g uE W ⊢
 obtain⟨p1,hp1⟩:∃ p,p=w1.heap.size:=⟨_,rfl⟩;rw [← hp1] at g ⊢
 clear hp1 w1;refine (aae _ (HE.o.below uE.o)).mono ?_;rintro e w2⟨rfl,E⟩;have u:=O ((g.o.below E g.o.lt).alloc (.cells #[.slice none 0 0,.slice none 0 0] 26));have i:=O (kg (o:=.cells #[.slice none 0 0,.slice none 0 0] 26) (uE.o.trans (E.mono uE.o.size)));have U:=O (W.o.below (kg (o:=.cells #[.slice none 0 0,.slice none 0 0] 26) E));clear E g uE W;go_wp2_with fail
 generalize w2.alloc (.cells #[.slice none 0 0,.slice none 0 0] 26)=v2 at u i U ⊢
 obtain⟨p2,hp2⟩:∃ p,p=w2.heap.size:=⟨_,rfl⟩;rw [← hp2];clear hp2 w2;refine (aaf _ (HE.o.below i.o)).mono ?_;rintro e w3⟨F,rfl⟩;have v:=O ((u.o.below F u.o.lt).alloc (.cells #[.slice none 0 0,.slice none 0 0] 26));have lS:=O (kg (o:=.cells #[.slice none 0 0,.slice none 0 0] 26) (i.o.trans (F.mono i.o.size)));have V:=O (U.o.below (kg (o:=.cells #[.slice none 0 0,.slice none 0 0] 26) F));clear F u i U;go_wp2_with fail
 generalize w3.alloc (.cells #[.slice none 0 0,.slice none 0 0] 26)=v3 at v lS V ⊢
 obtain⟨p3,hp3⟩:∃ p,p=w3.heap.size:=⟨_,rfl⟩;rw [← hp3];clear hp3 w3;refine (aag _ (HE.o.below lS.o)).mono ?_;rintro e w4⟨G,Q,ib,io,c4,X,xs4,rfl,Js,hc4,Ji⟩;have tO:=O ((v.o.below G v.o.lt).alloc (.cells #[.slice Q 3 c4,.slice (some ⟨ib,io,none⟩) 2 X] 26));have qx:=O (kg (o:=.cells #[.slice Q 3 c4,.slice (some ⟨ib,io,none⟩) 2 X] 26) (lS.o.trans (G.mono lS.o.size)));have W:=O (V.o.below (kg (o:=.cells #[.slice Q 3 c4,.slice (some ⟨ib,io,none⟩) 2 X] 26) G));have C:=O (Ji.o.below (kg (o:=.cells #[.slice Q 3 c4,.slice (some ⟨ib,io,none⟩) 2 X] 26) (Below.refl _ _)));have c:=O (aC.new w4 26 #[.slice Q 3 c4,.slice (some ⟨ib,io,none⟩) 2 X]);clear G v lS V Ji;have q0:=c.o.cell 0;have q1:=c.o.cell 1;go_wp2_with fail
 generalize w4.alloc (.cells #[.slice Q 3 c4,.slice (some ⟨ib,io,none⟩) 2 X] 26)=v4 at tO qx W C c ⊢
 obtain⟨p4,hp4⟩:∃ p,p=w4.heap.size:=⟨_,rfl⟩;rw [← hp4] at c ⊢
 clear q0 q1;clear hp4 w4;refine (k_cut Q (some ⟨ib,io,none⟩) c4 X xs4 _ Js.o C.o (HE.o.below qx.o) hc4).mono ?_;rintro e w5⟨f,b,cap,t,K,D,rfl,hgb,hcg⟩;have cu:=O ((tO.o.below f tO.o.lt).alloc (.cells #[.slice (some ⟨b,0,none⟩) 1 cap,.slice t K D] 26));have A:=O ((c.o.below f c.o.lt).alloc (.cells #[.slice (some ⟨b,0,none⟩) 1 cap,.slice t K D] 26));have jO:=O (kg (o:=.cells #[.slice (some ⟨b,0,none⟩) 1 cap,.slice t K D] 26) (qx.o.trans (f.mono qx.o.size)));have l:=O (W.o.below (kg (o:=.cells #[.slice (some ⟨b,0,none⟩) 1 cap,.slice t K D] 26) f));have n:=O (C.o.below (kg (o:=.cells #[.slice (some ⟨b,0,none⟩) 1 cap,.slice t K D] 26) f));have h:=O (aC.new w5 26 #[.slice (some ⟨b,0,none⟩) 1 cap,.slice t K D]);have T:=O (show (w5.alloc (.cells #[.slice (some ⟨b,0,none⟩) 1 cap,.slice t K D] 26)).cell? ⟨b,2,none⟩=some (.int .i64 7) from (World.cell?_alloc_lt w5 _ _ hgb).trans hcg);have H:b < (w5.alloc (.cells #[.slice (some ⟨b,0,none⟩) 1 cap,.slice t K D] 26)).heap.size:=by simp;omega
 clear f hgb hcg tO qx W C c;go_wp2_with fail
 generalize w5.alloc (.cells #[.slice (some ⟨b,0,none⟩) 1 cap,.slice t K D] 26)=v5 at cu A jO l n h T H ⊢
 obtain⟨p5,hp5⟩:∃ p,p=w5.heap.size:=⟨_,rfl⟩;rw [← hp5] at h ⊢
 clear hp5 w5;refine (rank_any 8 _).mono ?_;rw [show wJ 8=(7,0) by decide];rintro e w6⟨rfl,a⟩;have dA:=O (cu.o.below a cu.o.lt);have B:=O (A.o.below a A.o.lt);have y:=O (h.o.below a h.o.lt);have kT:=O (jO.o.trans (a.mono jO.o.size));have m:=O (l.o.below a);have N:=O (n.o.below a);have HG6:=O ((a.cell (p:=⟨b,2,none⟩) (by exact H)).trans T.o);have z8:b < w6.heap.size:=aaW H a.size;clear a H cu A jO l n h T;have q0:=dA.o.cell 0;have q1:=dA.o.cell 1;have q2:=B.o.cell 1;have q3:=y.o.cell 0;go_wp2_with fail;refine (k_path (some ⟨b1,o1,none⟩) B1 c1 d1 r _ Xu.o m.o (HE.o.below kT.o)).mono ?_;rintro e w7⟨L,gp,capp,rfl,hip⟩;have uN:=O (dA.o.below L dA.o.lt);have S:=O (B.o.below L B.o.lt);have R:=O (y.o.below L y.o.lt);have U0:=O (kT.o.trans (L.mono kT.o.size));have M:=O (m.o.below L);have P:=O (N.o.below L);have HG7:=O ((L.cell (p:=⟨b,2,none⟩) (by exact z8)).trans HG6.o);have HIP:=O hip;have hgl7:b < w7.heap.size:=aaW z8 L.size;clear L z8 dA B kT m N y HG6 q0 q1 q2 q3 hip;go_wp2_with fail;have HW:=O (show Below w7.heap.size w7 (w7.alloc (.cells #[.int .i64 5,.int .i64 4,.int .i64 3,.int .i64 1] 3)) from ah (Below.refl _ _) (aaJ _));have Yy:=O (aC.new w7 3 #[.int .i64 5,.int .i64 4,.int .i64 3,.int .i64 1]);refine (Z7 (some ⟨gp,0,none⟩) (some ⟨w7.heap.size,0,none⟩) 4 capp 4 [5,4,3,1] [5,4,3,1] _ rfl rfl (by omega) (HIP.o.below HW.o) ⟨fun _=>⟨w7.heap.size,0,rfl,Yy.o.lt,fun j k q=>?_⟩⟩).mono ?_
 ·rw [Nat.zero_add,Yy.o.cell j]
  match j,q with
  | 0, q =>  obtain rfl : (5 : Int) = k := by simpa using q
             rfl
  | 1, q =>  obtain rfl : (4 : Int) = k := by simpa using q
             rfl
  | 2, q =>  obtain rfl : (3 : Int) = k := by simpa using q
             rfl
  | 3, q =>  obtain rfl : (1 : Int) = k := by simpa using q
             rfl
  | j+4,q=>simp at q
 rintro e w8⟨rfl,tZ⟩;have d:=O (HW.o.trans (tZ.mono HW.o.size));have HB8:=O (uN.o.below d.o uN.o.lt);have HD8:=O (S.o.below d.o S.o.lt);have HC8:=O (R.o.below d.o R.o.lt);have HTA8:=O (M.o.below d.o);have HTD8:=O (P.o.below d.o);have Yv:=O (U0.o.trans (d.o.mono U0.o.size));have g2:=(d.o.cell (p:=⟨b,2,none⟩) (by exact hgl7)).trans HG7.o;clear tZ HW Yy HIP uN S R M P U0 HG7;obtain⟨b',o',Z,hN⟩:=HTA8.o.nodes (by rw [← aD,Xu.o];decide);injection Z with Z
 injection Z with Y hoo _
 subst Y;subst hoo
 have I:∃ x,r[3]? = some x∧x.1=⟨8,[],0,[1,2],14⟩:=by
  obtain⟨x,hx⟩:∃ x,r[3]? = some x:=jD (by rw [← aD,Xu.o];decide);exact⟨x,hx,by have:=gP hx;rw [Xu.o] at this;simpa [ta] using this.symm⟩
 have J:∃ x,r[4]? = some x∧x.1=⟨6,[],0,[0,3],10⟩:=by
  obtain⟨x,hx⟩:∃ x,r[4]? = some x:=jD (by rw [← aD,Xu.o];decide);exact⟨x,hx,by have:=gP hx;rw [Xu.o] at this;simpa [ta] using this.symm⟩
 obtain⟨x3,I,AX⟩:=I;obtain⟨x4,J,Qr⟩:=J;have c3:=hN.c4 3 x3 I;have c4':=hN.c0 4 x4 J;rw [AX] at c3
 rw [Qr] at c4'
 obtain⟨ib',io',hio,_,hic⟩:=HTD8.o.items.ex (by decide);injection hio with hio
 injection hio with Y hoo _
 subst Y;subst hoo;have i0:=hic 0 1 rfl;have i1:=hic 1 2 rfl;rw [Nat.add_zero] at i0
 clear hic hN I J AX Qr;have q0:=HB8.o.cell 0;have q1:=HB8.o.cell 1;have q2:=HD8.o.cell 1;have q3:=HC8.o.cell 0;go_wp2_with fail;go_ret;exact⟨by first | rfl | simp,Yv.o⟩
end Go.Proofs.YthepmkjggfijoaaGreatDoor
