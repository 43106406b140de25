/-
  A part of the proof.
-/
import Derived.Test.YthepmkjggfijoaaGreatDoorSA
import Derived.BigQuiet
import Derived.Test.YthepmkjggfijoaaGreatDoorZ05
import Derived.Test.YthepmkjggfijoaaGreatDoorZ07
set_option linter.all false
set_option maxRecDepth 100000
set_option maxHeartbeats 8000000
namespace Go.Proofs.YthepmkjggfijoaaGreatDoor
open Go.RowKit Mist
attribute [local go_sem] aj aH aS aB ak
def zD (T U:Tr):Tr:=if kS T U=0 then ⟨T.nodes ++ U.nodes.map (lI (T.nodes.length:Int)),T.items ++ U.items.map (·+(T.nodes.length:Int))⟩ else ⟨[],[]⟩
theorem OI {T U:Tr}(h:kS T U=0):zD T U=⟨T.nodes ++ U.nodes.map (lI (T.nodes.length:Int)),T.items ++ U.items.map (·+(T.nodes.length:Int))⟩:=if_pos h
theorem yx {T U:Tr}(h:kS T U ≠ 0):zD T U=⟨[],[]⟩:=if_neg h
theorem VW {T U:Tr}(h1:T.nodes.length≤10000)(h2:U.nodes.length≤10000)(h3:T.items.length≤10000)(h4:U.items.length≤10000):(zD T U).nodes.length≤100000∧(zD T U).items.length≤100000:=by
 by_cases h:kS T U=0
 ·rw [OI h];simp only [aaO,List.length_map];omega
 ·rw [yx h];simp
def Y0 (T U:Tr)(w:World)(e:Ending)(w':World):Prop:=Below w.heap.size w w'∧∃ (Aj Bj:Option Addr) (cj dj:Nat) (ext:List NV),e=.returned (.tuple #[.agg #[.slice Aj (zD T U).nodes.length cj,.slice Bj (zD T U).items.length dj],.int .i64 (kS T U)])∧mq w' Aj Bj ext (zD T U).items∧aA ext=(zD T U).nodes∧ext.length=(zD T U).nodes.length
theorem bU (w:World):mq w none none [] []:=⟨fun h=>absurd h (by simp),⟨fun h=>absurd h (by simp)⟩⟩
theorem bg {xs ys:List NV}{its iB:List Int}{w i:World}{e:Ending}(q:∀ x ∈ aA xs,x.kids.length≤1000000)(f:∀ x ∈ aA ys,x.kids.length≤1000000)
  (h:Below w.heap.size w i ∧
   ((kS ⟨aA xs, its⟩ ⟨aA ys, iB⟩ ≠ 0 ∧ e = .returned (.tuple #[.agg #[.slice none 0 0, .slice none 0 0], .int .i64 (kS ⟨aA xs, its⟩ ⟨aA ys, iB⟩)])) ∨
    (kS ⟨aA xs,its⟩ ⟨aA ys,iB⟩=0∧∃ nv iv ext,e=.returned (.tuple #[.agg #[nv,iv],.int .i64 0])∧RowsIn w.heap.size i nv iv ext (its ++ iB.map (·+(xs.length:Int)))∧aA ext=aA xs ++ (aA ys).map (lI (xs.length:Int))))):Y0 ⟨aA xs,its⟩ ⟨aA ys,iB⟩ w e i:=by
 obtain⟨j,⟨a,rfl⟩ | ⟨a,nv,iv,ext,rfl,d,b⟩⟩:=h
 ·refine⟨j,none,none,0,0,[],?_,?_,?_,?_⟩
  ·rw [yx a];rfl
  ·rw [yx a];exact bU _
  ·rw [yx a];rfl
  ·rw [yx a];rfl
 ·obtain⟨k,m,rfl⟩:=dh d.own;obtain⟨l,n,rfl⟩:=dh d.row
  have g:∀ x ∈ ext,x.1.kids.length≤1000000:=fun x r=>by
   have h1:x.1 ∈ aA ext:=List.mem_map.2 ⟨x,r,rfl⟩;rw [b] at h1
   rcases List.mem_append.1 h1 with h1 | h1
   ·exact q _ h1
   ·obtain⟨y,hy,e⟩:=List.mem_map.1 h1;rw [← e]
    show (y.kids.map _).length≤1000000
    rw [List.length_map];exact f y hy
  have o:=d.UH g
  have c:zD ⟨aA xs,its⟩ ⟨aA ys,iB⟩=⟨aA ext,its ++ iB.map (·+(xs.length:Int))⟩:=by
   rw [OI a,b];simp only [aD]
  refine⟨j,k,l,m,n,ext,?_,?_,?_,?_⟩
  ·rw [c,a];simp only [aD]
  ·rw [c];exact o
  ·rw [c]
  ·rw [c];simp only [aD]
theorem aC.on {w a:World}{b:Nat}{T:TypeId}{cs:Array Value}(h:aC w b T cs)(c:Below w.heap.size w a):aC a b T cs:=h.below c h.lt
theorem RowsIn.alloc {g:Nat}{w:World}{nv iv:Value}{xs:List NV}{its:List Int}(h:RowsIn g w nv iv xs its)(o:Obj):RowsIn g (w.alloc o) nv iv xs its:=h.below (ah (Below.refl _ _) (aaJ _))
theorem RowsIn.drew {g:Nat}{w:World}{nv iv:Value}{xs:List NV}{its:List Int}(h:RowsIn g w nv iv xs its):RowsIn g w.drew nv iv xs its:=h.below (Below.drew (Below.refl _ _))
theorem kK (w:World)(o:Obj):(w.alloc o).heap.size=w.heap.size+1:=by simp
theorem BO {w:World}{b:Nat}{x y u v:Value}(h:aC w b 26 #[x,y]):aC ((w.setCell ⟨b,0,none⟩ u).setCell ⟨b,1,none⟩ v) b 26 #[u,v]:=by
 have:=(h.d_ 0 u).d_ 1 v
 simpa using this
theorem BN {w:World}{b p:Nat}{cs:Array Value}{u v:Value}(h:aC w b 26 cs)(a:b ≠ p):aC ((w.setCell ⟨p,0,none⟩ u).setCell ⟨p,1,none⟩ v) b 26 cs:=(h.far (p:=⟨p,0,none⟩) a u).far (p:=⟨p,1,none⟩) a v
theorem KQ {g:Nat}{w:World}{nv iv:Value}{xs:List NV}{its:List Int}{b:Nat}{x y u v:Value}(h:RowsIn g w nv iv xs its)(a:aC w b 26 #[x,y]):RowsIn g ((w.setCell ⟨b,0,none⟩ u).setCell ⟨b,1,none⟩ v) nv iv xs its:=(h.tY a).tY (a.d_ 0 u)
theorem bF (A B:Option Addr)(c d:Nat)(xs:List NV)(its:List Int)(A' B':Option Addr)(c' d':Nat)(ys:List NV)(iB:List Int)(w:World)(hE:Env w)(hw:vT w A B c xs its)(b8:vT w A' B' c' ys iB) :
  Calls Tryz.prog 15 #[.agg #[.slice A xs.length c,.slice B its.length d],.agg #[.slice A' ys.length c',.slice B' iB.length d']] w fun e Q=>e=.returned (.bool true)∧Below w.heap.size w Q:=by
 have HE:=O hE;clear hE;have c4:=O (hw.big d);have c5:=O (b8.big d');have uI:=O hw.small;have Ng:=O b8.small;clear hw b8;have uD:=O ((aC.new w 26 #[.slice A xs.length c,.slice B its.length d]).alloc (.cells #[.slice A' ys.length c',.slice B' iB.length d'] 26));have c1:=O (dL (W:=w.alloc (.cells #[.slice A xs.length c,.slice B its.length d] 26)) (T:=26) (cs:=#[.slice A' ys.length c',.slice B' iB.length d']) (k:=w.heap.size+1) (by simp));have eH:=O (ah (ah (Below.refl w.heap.size w) (aaJ _) (o:=.cells #[.slice A xs.length c,.slice B its.length d] 26)) (by simp) (o:=.cells #[.slice A' ys.length c',.slice B' iB.length d'] 26));go_in
 go_wp2_with fail;refine (c4.o _ eH.o).mono ?_;rintro e w1⟨rfl,b1⟩;have c0:=O (uD.o.on b1);have a7:=O (c1.o.on b1);have uE:=O (eH.o.trans (b1.mono eH.o.size));clear b1 uD c1 eH c4
 cases r:Rn ⟨aA xs,its⟩
 case true =>
  clear r;go_wp2_with fail;refine (rV _ (HE.o.below uE.o)).mono ?_;rintro e V⟨rfl,X⟩;have b4:=O (uE.o.trans (X.mono uE.o.size));clear X;go_wp2_with fail;go_ret;exact⟨by first | rfl | simp,b4.o⟩
 obtain⟨hT,c9,hn,hm,e0,d5,a2⟩:=uI.o r;have HT:=O hT;have kF:=O c9;have TI:=O a2;have Lf:=O fun W (f:Below w.heap.size w W)=>BS A B c d xs its W (hT.below f) (by omega) (by omega) d5
 clear r uI a2 hT c9 d5;have t0:=a7.o.cell 0;have t1:=a7.o.cell 1;go_wp2_with fail;refine (c5.o _ uE.o).mono ?_;rintro e V⟨rfl,X⟩;have HA:=O (c0.o.on X);have HB:=O (a7.o.on X);have HL:=O (uE.o.trans (X.mono uE.o.size));clear X c0 a7 uE c5 t0 t1
 cases r:Rn ⟨aA ys,iB⟩
 case true =>
  clear r;go_wp2_with fail;refine (rV _ (HE.o.below HL.o)).mono ?_;rintro e w3⟨rfl,d1⟩;have b4:=O (HL.o.trans (d1.mono HL.o.size));clear d1;go_wp2_with fail;go_ret;exact⟨by first | rfl | simp,b4.o⟩
 obtain⟨hU,ou,d8,d7,lW,lQ,b2⟩:=Ng.o r;have HU:=O hU;have qF:=O ou;have mI:=O b2;have Lg:=O fun W (f:Below w.heap.size w W)=>BS A' B' c' d' ys iB W (hU.below f) (by omega) (by omega) lQ
 have dz:=O fun W (f:Below w.heap.size w W)=>SH A B A' B' c d c' d' xs ys its iB W (HT.o.below f) (hU.below f) (by omega) (by omega) (by omega) (by omega) e0 lW (fun n hn=>(kF.o n hn).num) (fun n hn=>(ou n hn).num)
 have qE:=O fun W (f:Below w.heap.size w W)=>SQ A B A' B' c d c' d' xs ys its iB W (HT.o.below f) (hU.below f) kF.o ou (by omega) (by omega) (by omega) (by omega)
 have mD:=O (VW (T:=⟨aA xs,its⟩) (U:=⟨aA ys,iB⟩) (by show (aA xs).length≤_;rw [aD];omega) (by show (aA ys).length≤_;rw [aD];omega) (by show its.length≤_;omega) (by show iB.length≤_;omega));have rC:=O (And.intro hn (And.intro hm (And.intro d8 d7)));clear r Ng hU ou b2 lQ e0 lW hn hm d8 d7;obtain⟨n,a4⟩:∃ n,n=xs.length:=⟨_,rfl⟩;obtain⟨n',D_⟩:∃ n,n=ys.length:=⟨_,rfl⟩;obtain⟨m,a3⟩:∃ n,n=its.length:=⟨_,rfl⟩;obtain⟨m',P⟩:∃ n,n=iB.length:=⟨_,rfl⟩;rw [← a4,← a3] at Lf HA
 rw [← D_,← P] at Lg HB
 rw [← a4,← D_,← a3,← P] at dz qE
 have HN:=O (And.intro a4 (And.intro D_ (And.intro a3 P)));rw [← a4,← D_,← a3,← P];clear a4 D_ a3 P;have t0:=HA.o.cell 0;have t1:=HA.o.cell 1;have u0:=HB.o.cell 0;have u1:=HB.o.cell 1;have f2:=HL.o.size;go_upto_region 3 with (fail)
 go_cut [5,6] from 22 to 25 (fun u v wx=>∃ (p q C D H I:Nat) (t y F G:Option Addr) (a l:List NV),u=.pointer (some ⟨p,0,none⟩)∧v=.pointer (some ⟨q,0,none⟩)∧Hid (aC wx p 26 #[.slice t a.length C,.slice y its.length D])∧Hid (aC wx q 26 #[.slice F l.length H,.slice G iB.length I])∧Hid (RowsIn V.heap.size wx (.slice t a.length C) (.slice y its.length D) a its)∧Hid (RowsIn V.heap.size wx (.slice F l.length H) (.slice G iB.length I) l iB)∧Hid (aA a=aA xs)∧Hid (aA l=aA ys)∧Hid (Below V.heap.size V wx))
 case first =>
  go_region_held3 (fun Q=>Q.cell? ⟨w.heap.size,0,none⟩=some (.slice A n c)∧Q.cell? ⟨w.heap.size,1,none⟩=some (.slice B m d)∧Q.cell? ⟨w.heap.size+1,0,none⟩=some (.slice A' n' c')∧Q.cell? ⟨w.heap.size+1,1,none⟩=some (.slice B' m' d'))
   (first|(go_split_ands;refine⟨?_,?_,?_,?_⟩ <;> (repeat (first|(rw [World.cell?_setCell_other _ _ _ _ (by intro e;injection e with e;omega)])|(rw [World.cell?_alloc_lt _ _ _ (by first|(show _ < World.heap.size _;omega)|(simp;omega))])|(rw [World.cell?_drew]))) <;> assumption) | go_keep|(go_split_ands;refine⟨?_,?_,?_,?_⟩ <;> assumption))
   ((first
     | (go_at_call_of 21 (Value.slice A n c);refine (Lf.o _ (by (repeat (first|(with_reducible exact HL.o)|(with_reducible refine Below.drew ?_)|(with_reducible refine ah ?_ (by first | omega|(simp;omega)))));done)).mono ?_;rintro e Y⟨K,yH,Au,a,rfl,ZQ,lF⟩;obtain⟨t,C,rfl⟩:=dh ZQ.own;obtain⟨y,D,rfl⟩:=dh ZQ.row;have yg:=O K;have Ah:=O ZQ;have bM:=O lF;have qx:=O (show Below w.heap.size w Y from Below.trans (by (repeat (first|(with_reducible exact HL.o)|(with_reducible refine Below.drew ?_)|(with_reducible refine ah ?_ (by first | omega|(simp;omega)))));done) (K.mono (by first | omega|(simp;omega))));have f3:=qx.o.size;have Xt:=O (show Below V.heap.size V Y from Below.trans (by (repeat (first|(with_reducible exact Below.refl _ _)|(with_reducible refine Below.drew ?_)|(with_reducible refine ah ?_ (by first | omega|(simp;done)|(simp;omega)))));done) (K.mono (by first | omega|(simp;done)|(simp;omega))));have f4:=Xt.o.size;have xI:=O (ZQ.up (show V.heap.size≤_ by first | omega|(simp;done)|(simp;omega)));(try (have P1:=O (show aC Y (V.heap.size) 26 #[.slice none 0 0,.slice none 0 0] from aC.on (by first|((repeat (with_reducible refine aC.drew ?_));(with_reducible refine dL ?_);(first | rfl | exact kK _ _))|((repeat (with_reducible refine aC.drew ?_));(with_reducible refine aC.alloc ?_ _);(repeat (with_reducible refine aC.drew ?_));(with_reducible refine dL ?_);(first | rfl | exact kK _ _))) K);have yA:=P1.o.cell 0;have yC:=P1.o.cell 1;have yD:=P1.o.frozen 0;have yJ:=P1.o.frozen 1;have yK:=P1.o.lt));(try (have P2:=O (show aC Y (V.heap.size+1) 26 #[.slice none 0 0,.slice none 0 0] from aC.on (by ((repeat (with_reducible refine aC.drew ?_));(with_reducible refine dL ?_);(first | rfl | exact kK _ _))) K);have yL:=P2.o.cell 0;have yM:=P2.o.cell 1;have yN:=P2.o.frozen 0;have yO:=P2.o.frozen 1;have yP:=P2.o.lt));have fq:=O (show aC Y w.heap.size 26 #[.slice A n c,.slice B m d] from aC.on (by (repeat (first|(with_reducible exact HA.o)|(with_reducible refine aC.drew ?_)|(with_reducible refine aC.alloc ?_ _)));done) K);have tO:=O (show aC Y (w.heap.size+1) 26 #[.slice A' n' c',.slice B' m' d'] from aC.on (by (repeat (first|(with_reducible exact HB.o)|(with_reducible refine aC.drew ?_)|(with_reducible refine aC.alloc ?_ _)));done) K);clear K ZQ lF t0 t1 u0 u1;have t0:=fq.o.cell 0;have t1:=fq.o.cell 1;have u0:=tO.o.cell 0;have u1:=tO.o.cell 1)
     | (go_at_call_of 21 (Value.slice A' n' c');go_loud (refine (Lg.o _ (by (repeat (first|(with_reducible exact qx.o)|(with_reducible refine Below.drew ?_)|(with_reducible refine ah ?_ (by first | omega|(simp;omega)))));done)).mono ?_;rintro e w6⟨g,XB,Az,l,rfl,ZR,lG⟩;obtain⟨F,H,rfl⟩:=dh ZR.own;obtain⟨G,I,rfl⟩:=dh ZR.row;have yj:=O g;have Ap:=O ZR;have bN:=O lG;have Xy:=g.size;have bJ:=O (show Below V.heap.size V w6 from Below.trans (by (repeat (first|(with_reducible exact Xt.o)|(with_reducible refine Below.drew ?_)|(with_reducible refine ah ?_ (by first | omega|(simp;done)|(simp;omega)))));done) (g.mono (by first | omega|(simp;done)|(simp;omega))));have vW:=bJ.o.size;have f1:=HB.o.lt;have h46:Y.heap.size≤w6.heap.size:=Nat.le_trans (by first | exact aaJ _|(simp;done)|(simp;omega)) g.size;have bP:=O (show RowsIn V.heap.size w6 (.slice t a.length C) (.slice y its.length D) a its from RowsIn.below (by (repeat (first|(with_reducible exact xI.o)|(with_reducible refine RowsIn.drew ?_)|(with_reducible refine RowsIn.alloc ?_ _)));done) g);have bR:=O (ZR.up (show V.heap.size≤_ by first | omega|(simp;done)|(simp;omega)));(try (have i:=O (show aC w6 (V.heap.size) 26 #[.slice none 0 0,.slice none 0 0] from aC.on (by ((repeat (first|(with_reducible refine aC.drew ?_)|(with_reducible refine aC.alloc ?_ _)));with_reducible exact P1.o)) g);have yQ:=i.o.cell 0;have yT:=i.o.cell 1;have yV:=i.o.frozen 0;have yX:=i.o.frozen 1;have y7:=i.o.lt));(try (have Q2:=O (show aC w6 (V.heap.size+1) 26 #[.slice none 0 0,.slice none 0 0] from aC.on (by ((repeat (first|(with_reducible refine aC.drew ?_)|(with_reducible refine aC.alloc ?_ _)));with_reducible exact P2.o)) g);have zn:=Q2.o.cell 0;have zo:=Q2.o.cell 1;have zx:=Q2.o.frozen 0;have zB:=Q2.o.frozen 1;have zF:=Q2.o.lt));(try (have j:=O (show aC w6 (Y.heap.size) 26 #[.slice none 0 0,.slice none 0 0] from aC.on (by first|((repeat (with_reducible refine aC.drew ?_));(with_reducible refine dL ?_);(first | rfl | exact kK _ _))|((repeat (with_reducible refine aC.drew ?_));(with_reducible refine aC.alloc ?_ _);(repeat (with_reducible refine aC.drew ?_));(with_reducible refine dL ?_);(first | rfl | exact kK _ _))) g);have zG:=j.o.cell 0;have zR:=j.o.cell 1;have zS:=j.o.frozen 0;have zU:=j.o.frozen 1;have zV:=j.o.lt));(try (have Q4:=O (show aC w6 (Y.heap.size+1) 26 #[.slice none 0 0,.slice none 0 0] from aC.on (by ((repeat (with_reducible refine aC.drew ?_));(with_reducible refine dL ?_);(first | rfl | exact kK _ _))) g);have zX:=Q4.o.cell 0;have zZ:=Q4.o.cell 1;have Ad:=Q4.o.frozen 0;have Af:=Q4.o.frozen 1;have Ag:=Q4.o.lt));have ow:=O (show aC w6 w.heap.size 26 #[.slice A n c,.slice B m d] from aC.on (by (repeat (first|(with_reducible exact fq.o)|(with_reducible refine aC.drew ?_)|(with_reducible refine aC.alloc ?_ _)));done) g);have dA:=O (show aC w6 (w.heap.size+1) 26 #[.slice A' n' c',.slice B' m' d'] from aC.on (by (repeat (first|(with_reducible exact tO.o)|(with_reducible refine aC.drew ?_)|(with_reducible refine aC.alloc ?_ _)));done) g);clear g ZR lG t0 t1 u0 u1;have t0:=ow.o.cell 0;have t1:=ow.o.cell 1;have u0:=dA.o.cell 0;have u1:=dA.o.cell 1))))
  all_goals
   go_wp2_with fail;go_meet
  ·exact⟨_,_,C,D,H,I,t,y,F,G,a,l,rfl,rfl,O ((aC.new w6 _ _).alloc _),O (dL (by simp)),O ((bP.o.alloc _).alloc _),O ((bR.o.alloc _).alloc _),bM,bN,O (ah (ah bJ.o vW) (by simp;omega))⟩
  ·exact⟨_,_,C,D,H,I,t,y,F,G,a,l,rfl,rfl,O (dL (by simp)),O ((aC.new w6 _ _).alloc _),O ((bP.o.alloc _).alloc _),O ((bR.o.alloc _).alloc _),bM,bN,O (ah (ah bJ.o vW) (by simp;omega))⟩
  ·exact⟨_,_,C,D,H,I,t,y,F,G,a,l,rfl,rfl,O ((BO j.o).alloc _),O (dL (by simp)),O ((KQ bP.o j.o).alloc _),O ((KQ bR.o j.o).alloc _),bM,bN,O (ah (dx (dx bJ.o (by omega)) (by omega)) (by simp;omega))⟩
  ·exact⟨_,_,C,D,H,I,t,y,F,G,a,l,rfl,rfl,O (BN (BO j.o) (by omega)),O (BO (BN Q4.o (by omega))),O (KQ (KQ bP.o j.o) (BN Q4.o (by omega))),O (KQ (KQ bR.o j.o) (BN Q4.o (by omega))),bM,bN,O (dx (dx (dx (dx bJ.o (by omega)) (by omega)) (by omega)) (by omega))⟩
  ·exact⟨_,_,C,D,H,I,t,y,F,G,a,l,rfl,rfl,O (dL (by simp)),O ((BO j.o).alloc _),O ((KQ bP.o j.o).alloc _),O ((KQ bR.o j.o).alloc _),bM,bN,O (ah (dx (dx bJ.o (by omega)) (by omega)) (by simp;omega))⟩
  ·exact⟨_,_,C,D,H,I,t,y,F,G,a,l,rfl,rfl,O (BN (BO Q4.o) (by omega)),O (BO (BN j.o (by omega))),O (KQ (KQ bP.o Q4.o) (BN j.o (by omega))),O (KQ (KQ bR.o Q4.o) (BN j.o (by omega))),bM,bN,O (dx (dx (dx (dx bJ.o (by omega)) (by omega)) (by omega)) (by omega))⟩
  ·exact⟨_,_,C,D,H,I,t,y,F,G,a,l,rfl,rfl,O ((BO i.o).alloc _),O (dL (by simp)),O ((KQ bP.o i.o).alloc _),O ((KQ bR.o i.o).alloc _),bM,bN,O (ah (dx (dx bJ.o (by omega)) (by omega)) (by simp;omega))⟩
  ·exact⟨_,_,C,D,H,I,t,y,F,G,a,l,rfl,rfl,O (BN (BO i.o) (by omega)),O (BO (BN j.o (by omega))),O (KQ (KQ bP.o i.o) (BN j.o (by omega))),O (KQ (KQ bR.o i.o) (BN j.o (by omega))),bM,bN,O (dx (dx (dx (dx bJ.o (by omega)) (by omega)) (by omega)) (by omega))⟩
  ·exact⟨_,_,C,D,H,I,t,y,F,G,a,l,rfl,rfl,O (BN (BO i.o) (by omega)),O (BO (BN Q2.o (by omega))),O (KQ (KQ bP.o i.o) (BN Q2.o (by omega))),O (KQ (KQ bR.o i.o) (BN Q2.o (by omega))),bM,bN,O (dx (dx (dx (dx bJ.o (by omega)) (by omega)) (by omega)) (by omega))⟩
  ·exact⟨_,_,C,D,H,I,t,y,F,G,a,l,rfl,rfl,O (dL (by simp)),O ((BO i.o).alloc _),O ((KQ bP.o i.o).alloc _),O ((KQ bR.o i.o).alloc _),bM,bN,O (ah (dx (dx bJ.o (by omega)) (by omega)) (by simp;omega))⟩
  ·exact⟨_,_,C,D,H,I,t,y,F,G,a,l,rfl,rfl,O (BN (BO j.o) (by omega)),O (BO (BN i.o (by omega))),O (KQ (KQ bP.o j.o) (BN i.o (by omega))),O (KQ (KQ bR.o j.o) (BN i.o (by omega))),bM,bN,O (dx (dx (dx (dx bJ.o (by omega)) (by omega)) (by omega)) (by omega))⟩
  ·exact⟨_,_,C,D,H,I,t,y,F,G,a,l,rfl,rfl,O (BN (BO Q2.o) (by omega)),O (BO (BN i.o (by omega))),O (KQ (KQ bP.o Q2.o) (BN i.o (by omega))),O (KQ (KQ bR.o Q2.o) (BN i.o (by omega))),bM,bN,O (dx (dx (dx (dx bJ.o (by omega)) (by omega)) (by omega)) (by omega))⟩
 case rest =>
  clear t0 t1 u0 u1 Lf Lg;obtain⟨p,q,C,D,H,I,t,y,F,G,a,l,rfl,rfl,HP,HQ,vD,vE,Li,bZ,HW⟩:=hcut;have a0:a.length=n:=by rw [← aD,Li.o,aD];exact HN.o.1.symm
  have a5:l.length=n':=by rw [← aD,bZ.o,aD];exact HN.o.2.1.symm
  have a1:its.length=m:=HN.o.2.2.1.symm;have L:iB.length=m':=HN.o.2.2.2.symm;have b9:xs.length=n:=HN.o.1.symm;have e4:ys.length=n':=HN.o.2.1.symm;obtain⟨e7,e8,e9,f0⟩:=rC.o;rw [a0,a1] at HP
  rw [a5,L] at HQ
  have a6:∀ {us vs:List NV},aA us=aA vs→(∀ x ∈ aA vs,x.kids.length≤1000000)→∀ x ∈ us,x.1.kids.length≤1000000:=fun e h x hx=>h x.1 (by rw [← e];exact List.mem_map.2 ⟨x,hx,rfl⟩)
  have b0:=O (vD.o.UH (a6 Li.o TI.o));have mW:=O (vE.o.UH (a6 bZ.o mI.o));obtain⟨T,ni⟩:∃ T:Tr,T=⟨aA xs,its⟩:=⟨_,rfl⟩;obtain⟨U,Jk⟩:∃ U:Tr,U=⟨aA ys,iB⟩:=⟨_,rfl⟩;have fu:=O fun W (f:Below wc.heap.size wc W)=>bE t y F G C D H I a l its iB W (b0.o.below f) (mW.o.below f) (by rw [Li.o];exact kF.o) (by rw [bZ.o];exact qF.o) (HE.o.below (HL.o.trans ((HW.o.trans (f.mono HW.o.size)).mono HL.o.size))) (by omega) (by omega) (by omega) (by omega)
  have pJ:=O fun W (f:Below wc.heap.size wc W)=>bL t y F G C D H I a l its iB W (b0.o.below f) (mW.o.below f) (by rw [Li.o];exact kF.o) (by rw [bZ.o];exact qF.o) (HE.o.below (HL.o.trans ((HW.o.trans (f.mono HW.o.size)).mono HL.o.size)))
  rw [a0,a5,a1,L,Li.o,bZ.o,← ni,← Jk] at fu
  rw [a0,a5,a1,L] at pJ
  rw [← ni,← Jk] at dz mD
  have wE:=O fun W (f:Below wc.heap.size wc W)=>(pJ.o W f).mono fun e Q h=>(show Y0 T U W e Q by
   have h2:=bg (xs:=a) (ys:=l) (its:=its) (iB:=iB) (by rw [Li.o];exact TI.o) (by rw [bZ.o];exact mI.o) (by rw [a0];exact h);rw [Li.o,bZ.o,← ni,← Jk] at h2
   exact h2)
  have wI:=O fun W (f:Below w.heap.size w W)=>(qE.o W f).mono fun e Q h=>(show Y0 T U W e Q by
   have h2:=bg (xs:=xs) (ys:=ys) (its:=its) (iB:=iB) TI.o mI.o (by rw [b9];exact h);rw [← ni,← Jk] at h2
   exact h2)
  have bC:=O (HL.o.trans (HW.o.mono HL.o.size));have sH:=O (HA.o.on HW.o);have sK:=O (HB.o.on HW.o);obtain⟨b,d0⟩:∃ b,b=(Zo T U).1:=⟨_,rfl⟩;obtain⟨E,c7⟩:∃ E,E=(Zo T U).2:=⟨_,rfl⟩;rw [← d0,← c7] at fu dz
  obtain⟨J,c8⟩:∃ J,J=kS T U:=⟨_,rfl⟩;obtain⟨N,b7⟩:∃ N,N=(zD T U).nodes.length:=⟨_,rfl⟩;obtain⟨M,b6⟩:∃ M,M=(zD T U).items.length:=⟨_,rfl⟩;have sZ:=O (show ∀ W e Q,Y0 T U W e Q→Below W.heap.size W Q∧∃ (R S:Option Addr) (Z dj:Nat) (a:List NV),e=.returned (.tuple #[.agg #[.slice R N Z,.slice S M dj],.int .i64 J])∧mq Q R S a (zD T U).items∧aA a=(zD T U).nodes∧a.length=N from by rw [b7,b6,c8];exact fun W e Q h=>h);have JV:=O fun W (f:Below wc.heap.size wc W)=>Py t y A B C D c d a xs its W (b0.o.below f) (HT.o.below (bC.o.trans (f.mono bC.o.size))) Li.o (by omega) (by omega)
  have uJ:=O fun W (f:Below wc.heap.size wc W)=>Py F G A' B' H I c' d' l ys iB W (mW.o.below f) (HU.o.below (bC.o.trans (f.mono bC.o.size))) bZ.o (by omega) (by omega)
  rw [a0,b9,a1] at JV
  rw [a5,e4,L] at uJ
  have wN:=O fun W R S Ak Bk (Z dj ck dk:Nat) (e1 e2:List NV) (h1:mq W R S e1 (zD T U).items) (h2:mq W Ak Bk e2 (zD T U).items) (h3:aA e1=(zD T U).nodes) (h4:aA e2=(zD T U).nodes) (l1:e1.length=N) (l2:e2.length=N)=>(show Calls Tryz.prog 19 #[.agg #[.slice R N Z,.slice S M dj],.agg #[.slice Ak N ck,.slice Bk M dk]] W fun e Q=>Below W.heap.size W Q∧e=.returned (.bool true) by
   have h:=Py R S Ak Bk Z dj ck dk e1 e2 (zD T U).items W h1 h2 (h3.trans h4.symm) (by rw [l1,b7];exact mD.o.1) mD.o.2;rw [l1,l2,← b6] at h
   exact h)
  clear a0 a5 a1 L b9 e4 e7 e8 e9 f0 a6 vD vE Li bZ b0 mW ni Jk pJ qE d0 c7 c8 b7 b6 kF qF TI mI HT HU HN rC mD HL HA HB HW;have W0:=O (Below.refl wc.heap.size wc);have p0:=HP.o.cell 0;have p1:=HP.o.cell 1;have q0:=HQ.o.cell 0;have q1:=HQ.o.cell 1;go_wp2_with fail;refine (fu.o _ W0.o).mono ?_;rintro e w3⟨rfl,h3⟩;have W3:=O h3;have a9:=O (HP.o.on h3);have mP:=O (HQ.o.on h3);have gM:=O (sH.o.on h3);have c2:=O (sK.o.on h3);clear h3 HP HQ sH sK p0 p1 q0 q1;have p0:=a9.o.cell 0;have p1:=a9.o.cell 1;have q0:=mP.o.cell 0;have q1:=mP.o.cell 1;go_wp2_with fail;refine (wE.o _ W3.o).mono ?_;intro e Y g4;obtain⟨h4,R,S,Z,dj,js,rfl,d3,d2,L⟩:=sZ.o _ _ _ g4;clear g4;have W4:=O (W3.o.trans (h4.mono W3.o.size));have iU:=O ((a9.o.on h4).alloc (.cells #[.slice R N Z,.slice S M dj] 26));have qz:=O ((mP.o.on h4).alloc (.cells #[.slice R N Z,.slice S M dj] 26));have jX:=O ((gM.o.on h4).alloc (.cells #[.slice R N Z,.slice S M dj] 26));have cu:=O ((c2.o.on h4).alloc (.cells #[.slice R N Z,.slice S M dj] 26));have a8:=O (aC.new Y 26 #[.slice R N Z,.slice S M dj]);have W5:=O (ah W4.o W4.o.size (o:=.cells #[.slice R N Z,.slice S M dj] 26));have L5:=O (bC.o.trans (W5.o.mono bC.o.size));have qL:=O (d3.below (ah (Below.refl Y.heap.size Y) (aaJ _) (o:=.cells #[.slice R N Z,.slice S M dj] 26)));have wF:=O d2;have wD:=O L;clear h4 d3 d2 L a9 mP gM c2 W3 W4 p0 p1 q0 q1;have t0:=jX.o.cell 0;have t1:=jX.o.cell 1;have u0:=cu.o.cell 0;have u1:=cu.o.cell 1;go_wp2_with fail
  generalize Y.alloc (.cells #[.slice R N Z,.slice S M dj] 26)=w5 at iU qz jX cu a8 W5 L5 qL ⊢
  generalize Y.heap.size=jb at a8 ⊢
  refine (dz.o _ L5.o).mono ?_;rintro e w6⟨rfl,h6⟩;have W6:=O (W5.o.trans (h6.mono W5.o.size));have L6:=O (L5.o.trans (h6.mono L5.o.size));have uX:=O (qL.o.below h6);have xG:=O (iU.o.on h6);have tX:=O (qz.o.on h6);have ow:=O (jX.o.on h6);have dA:=O (cu.o.on h6);have c6:=O (a8.o.on h6);clear h6 iU qz jX cu a8 W5 L5 qL t0 t1 u0 u1;have t0:=ow.o.cell 0;have t1:=ow.o.cell 1;have u0:=dA.o.cell 0;have u1:=dA.o.cell 1;go_wp2_with fail;refine (wI.o _ L6.o).mono ?_;intro e w7 g7;obtain⟨h7,Ak,Bk,ck,dk,ks,rfl,d6,d4,a2⟩:=sZ.o _ _ _ g7;clear g7;have tZ:=ah (Below.refl w7.heap.size w7) (aaJ _) (o:=.cells #[.slice Ak N ck,.slice Bk M dk] 26);have h8:=h7.trans (tZ.mono h7.size);have W8:=O (W6.o.trans (h8.mono W6.o.size));have L8:=O (L6.o.trans (h8.mono L6.o.size));have qQ:=O (uX.o.below h8);have qX:=O (d6.below tZ);have mH:=O (aC.new w7 26 #[.slice Ak N ck,.slice Bk M dk]);have e6:=O d4;have e5:=O a2;have Xr:=O (xG.o.on h8);have qB:=O (tX.o.on h8);have zL:=O (ow.o.on h8);have b3:=O (dA.o.on h8);have pI:=O (c6.o.on h8);clear h7 h8 tZ d6 d4 a2 xG tX ow dA c6 W6 L6 uX t0 t1 u0 u1;have t0:=zL.o.cell 0;have t1:=zL.o.cell 1;have p0:=Xr.o.cell 0;have p1:=Xr.o.cell 1;go_wp2_with fail
  generalize w7.alloc (.cells #[.slice Ak N ck,.slice Bk M dk] 26)=w8 at Xr qB zL b3 pI mH W8 L8 qQ qX ⊢
  generalize w7.heap.size=kb at mH ⊢
  refine (JV.o _ W8.o).mono ?_;rintro e w9⟨h9,rfl⟩;have oo:=O (W8.o.trans (h9.mono W8.o.size));have vg:=O (qQ.o.below h9);have vk:=O (qX.o.below h9);have b5:=O (qB.o.on h9);have oH:=O (b3.o.on h9);have Xn:=O (pI.o.on h9);have tq:=O (mH.o.on h9);clear h9 Xr qB zL b3 pI mH W8 L8 qQ qX t0 t1 p0 p1;have u0:=oH.o.cell 0;have u1:=oH.o.cell 1;have q0:=b5.o.cell 0;have q1:=b5.o.cell 1;go_wp2_with fail;refine (uJ.o _ oo.o).mono ?_;rintro e Qv⟨h10,rfl⟩;have vw:=O (oo.o.trans (h10.mono oo.o.size));have qK:=O (vg.o.below h10);have qU:=O (vk.o.below h10);have iX:=O (Xn.o.on h10);have jr:=O (tq.o.on h10);clear h10 b5 oH Xn tq oo vg vk u0 u1 q0 q1;have j0:=iX.o.cell 0;have j1:=iX.o.cell 1;have k0:=jr.o.cell 0;have k1:=jr.o.cell 1;have e1:(b == b)=true:=by simp
  have e2:(E == E)=true:=by simp
  have e3:(J == J)=true:=by simp
  go_wp2_with fail;refine (wN.o _ R S Ak Bk Z dj ck dk js ks qK.o qU.o wF.o e6.o wD.o e5.o).mono ?_;rintro e Et⟨h11,rfl⟩;have qY:=O (bC.o.trans ((vw.o.trans (h11.mono vw.o.size)).mono bC.o.size));clear h11 j0 j1 k0 k1;go_wp2_with fail;refine (rV _ (HE.o.below qY.o)).mono ?_;rintro e wQ⟨rfl,h12⟩;have wP:=O (qY.o.trans (h12.mono qY.o.size));clear h12;go_wp2_with fail;go_ret;exact⟨by first | rfl | simp,wP.o⟩
end Go.Proofs.YthepmkjggfijoaaGreatDoor
