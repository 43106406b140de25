/-
  A part of the proof.
-/
import Derived.Test.YtalghggmkojblaaGreatDoorS20
import Derived.Test.YtalghggmkojblaaGreatDoorS46
set_option linter.all false
set_option maxRecDepth 100000
set_option maxHeartbeats 4000000
namespace Go.Proofs.YtalghggmkojblaaGreatDoor
open Go.RowKit Mist
attribute [local go_sem] ak aN aV aF aj
def Si (r:Gl):Bs:=ah r.pc ++ (if r.ix=[] then [] else [10])
theorem WV (a:Bool)(m:Nat){r:Gl}(h:r.st.left=[]):lF a m r=r:=by
 cases m with
 | zero=>rfl
 | succ m=>rw [lF,if_pos h]
def qE (wild:Bool)(r:Gl):Gl:=⟨r.pc ++ (if r.ix=[] then (iF wild r.st).pc else eO.on [10] (iF wild r.st).pc),r.ix ++ [(iF wild r.st).ix],(iF wild r.st).st⟩
theorem WY (a:Bool)(m:Nat){r:Gl}(h:r.st.left ≠ []):lF a (m+1) r=lF a m (qE a r):=by
 rw [lF,if_neg h];rfl
theorem Ke (a:Bool)(r:Gl)(h:r.ix=[]→r.pc=[]):Si (qE a r)=Si r ++ (ah (iF a r.st).pc ++ [10]):=by
 have b:=(JC a r.st).2
 show ah (r.pc ++ (if r.ix=[] then (iF a r.st).pc else eO.on [10] (iF a r.st).pc)) ++ (if r.ix ++ [(iF a r.st).ix]=[] then [] else [10])=ah r.pc ++ (if r.ix=[] then [] else [10]) ++ (ah (iF a r.st).pc ++ [10])
 have e:¬ (r.ix ++ [(iF a r.st).ix]=[]):=by simp
 rw [if_neg e,aX];by_cases h0:r.ix=[]
 ·rw [if_pos h0,if_pos h0,h h0];simp only [ah,List.nil_append,List.append_nil,List.append_assoc]
 ·rw [if_neg h0,if_neg h0,b.text];simp only [List.append_assoc]
theorem adf (a:Bool)(r:Gl)(h:r.ix=[]→r.pc=[]):(Si (qE a r)).length≤(Si r).length+12001∧(qE a r).st.ns.length≤r.st.ns.length+900:=by
 obtain⟨h1,h2⟩:=OD a r.st
 refine⟨?_,h2⟩
 rw [Ke a r h,amQ,amQ];have h1:(ah (iF a r.st).pc).length≤12000:=h1
 show _+(_+1)≤_
 omega
def NI (t:Bs):Nat:=(t.filter fun b=>!(b == 32) && !(b == 10)).length
theorem UZ (t:Bs):NI t≤t.length:=List.length_filter_le _ _
theorem WC {t:Bs}{k:Nat}(e:k < t.length):NI (t.take (k+1))=NI (t.take k)+if (gt t k == 32 || gt t k == 10)=true then 0 else 1:=by
 have a:t[k]? = some (gt t k):=by unfold gt;rw [amJ,amF e];rfl
 unfold NI;rw [List.take_add_one,a,List.filter_append,amQ]
 generalize gt t k=b
 show _+(List.filter _ [b]).length=_
 cases h1:b == 32 <;> cases h2:b == 10 <;> simp [h1,h2]
theorem K5 (a:Bool)(b:Bs):qh a b=Si (grown a b):=rfl
theorem agi (b:UInt8):(if (b == 32 || b == 10)=true then 0 else 1)=if b.toNat=32∨b.toNat=10 then 0 else 1:=by
 have e:∀ k:UInt8,(b == k)=decide (b.toNat=k.toNat):=fun k=>by
  by_cases h:b=k
  ·subst h;simp
  ·have h2:¬ b.toNat=k.toNat:=fun a=>h (UInt8.toNat_inj.1 a)
   rw [amX h2];simpa using h
 rw [e 32,e 10];have h1:(32:UInt8).toNat=32:=rfl;have h2:(10:UInt8).toNat=10:=rfl;rw [h1,h2];simp
theorem nY.up {w:World}{g g':Nat}{lv:Value}{l:Bs}(h:nY w g lv l)(i:g≤g'):nY w g' lv l:=by
 obtain⟨A,c,rfl,e,a,f⟩:=h
 refine⟨A,c,rfl,e,a,fun h0=>?_⟩
 obtain⟨b,o,rfl,h1,h2,h3⟩:=f h0;exact⟨b,o,rfl,by omega,h2,h3⟩
def UL (w:World)(A B:Option Addr)(xs:List NV)(its:List Int):Prop:=(∀ x ∈ xs,x.1.kids.length≤1000000)→uZ w A B xs its
structure yX (w:World) (A B:Option Addr) (c d:Nat) (xs:List NV) (its:List Int):Prop where
 own:∃ g,w.ownsRow g 56 5 (.slice A xs.length c) xs.length (jC xs)
 kids:∀ x ∈ xs,dw w x.2 x.1.kids
 row:dw w (.slice B its.length d) its
section
variable {w w':World} {A B:Option Addr} {c d:Nat} {xs:List NV} {its:List Int}
theorem yX.set (h:yX w A B c d xs its){tb:Nat}{cs:Array Value}(a:bY w tb 28 cs)(i:Nat)(u:Value):yX (w.setCell ⟨tb,i,none⟩ u) A B c d xs its:=by
 obtain⟨g,b⟩:=h.own;exact⟨⟨g,ownsRow_setCell_other b (aW b a (by decide)) u⟩,fun x e=>ownsRow_setCell_other (h.kids x e) (aW (h.kids x e) a (by decide)) u,ownsRow_setCell_other h.row (aW h.row a (by decide)) u⟩
theorem yX.below (h:yX w A B c d xs its)(a:Below w.heap.size w w'):yX w' A B c d xs its:=by
 obtain⟨g,b⟩:=h.own;exact⟨⟨g,own_below b a⟩,fun x e=>own_below (h.kids x e) a,own_below h.row a⟩
theorem yX.tree (h:yX w A B c d xs its):UL w A B xs its:=fun b=>by
 obtain⟨g,i⟩:=h.own
 refine⟨fun h0=>?_,BS h.row rfl⟩
 obtain⟨a,e,f⟩:=DI i h0 (fun x j=>⟨_,h.kids x j⟩) b;exact⟨a,0,e,f⟩
theorem PL.rows {g:Nat}{a:Bool}{iv lv:Value}{w0:World}{s:Gs}(h:PL g a iv w s xs (.slice A xs.length c) lv)(b:LG w0 w xs (.slice B its.length d) its):yX w A B c d xs its:=⟨⟨g,h.own⟩,h.kids,b.row⟩
end
def MO (wild:Bool)(vF:Bs)(w:World)(e:Ending)(w':World):Prop :=
 Below w.heap.size w w'∧∃ A B c d xs,e=.returned (.tuple #[.string (aG (qh wild vF)),.agg #[.slice A xs.length c,.slice B (grown wild vF).ix.length d],.bool (Af (qh wild vF))]) ∧
  aH xs=(grown wild vF).st.ns∧UL w' A B xs (grown wild vF).ix
theorem Wu {w a w':World}{g:Nat}(h1:Below w.heap.size w a)(h2:Below g a w')(b:w.heap.size≤g):Below w.heap.size w w':=h1.trans (h2.mono b)
theorem ahZ (f:Bool)(q:Bs)(lv0:Value)(w:World)(hP:Pow w)(hS:nY w w.heap.size lv0 q) :
  Calls Tryz.prog 4 #[lv0,.bool f] w (MO f q w):=by
 obtain⟨K,D,rfl,_⟩:=id hS;have J:Below w.heap.size w ((w.alloc (.cells #[.slice none 0 0,.slice none 0 0] 28)).alloc (.cells #[.slice K q.length D,.slice none 0 0,.slice none 0 0,.bool f] 41)):=aU (aU (Below.refl _ _) (amL _)) (by simp)
 have G:=O (show PL (w.heap.size+1) f (.slice none 0 0) ((w.alloc (.cells #[.slice none 0 0,.slice none 0 0] 28)).alloc (.cells #[.slice K q.length D,.slice none 0 0,.slice none 0 0,.bool f] 41)) ⟨q,[]⟩ [] (.slice none 0 0) (.slice K q.length D) from
  ⟨zH (W:=w.alloc (.cells #[.slice none 0 0,.slice none 0 0] 28)) (by simp),(hS.below J (amL _)).up (by omega),World.ownsRow_nil _ _ _ _,(fun x hx=>nomatch hx),rfl,fun Z S=>hP Z (J.trans (S.mono (by omega)))⟩)
 have Ri:=O ((bY.new w 28 #[.slice none 0 0,.slice none 0 0]).alloc (.cells #[.slice K q.length D,.slice none 0 0,.slice none 0 0,.bool f] 41));have P:=O (LG.nil ((w.alloc (.cells #[.slice none 0 0,.slice none 0 0] 28)).alloc (.cells #[.slice K q.length D,.slice none 0 0,.slice none 0 0,.bool f] 41)) ((w.alloc (.cells #[.slice none 0 0,.slice none 0 0] 28)).alloc (.cells #[.slice K q.length D,.slice none 0 0,.slice none 0 0,.bool f] 41)) []);have g_:=O J;clear J hS hP;go_in
 go_wp2_with fail;obtain⟨g,hg⟩:∃ g,g=w.heap.size+1:=⟨_,rfl⟩;rw [← hg] at G ⊢
 have hg1:w.heap.size < g:=by omega
 have hsz:g < ((w.alloc (.cells #[.slice none 0 0,.slice none 0 0] 28)).alloc (.cells #[.slice K q.length D,.slice none 0 0,.slice none 0 0,.bool f] 41)).heap.size:=by simp;omega
 clear hg
 generalize (w.alloc (.cells #[.slice none 0 0,.slice none 0 0] 28)).alloc (.cells #[.slice K q.length D,.slice none 0 0,.slice none 0 0,.bool f] 41)=Z at G Ri P g_ hsz ⊢
 go_loopw [8,9] (fun sv i wr=>∃ (k:Nat) (r:Gl) (X:Bs) (iv nv lv:Value) (xs:List NV),k≤12∧i=.int .i64 k∧sv=.string (aG X)∧Hid (X=Si r)∧Hid (lF f (12 - k) r=grown f q)∧Hid (r.ix=[]→r.pc=[])∧r.ix.length≤k∧X.length≤k * 12001∧r.st.ns.length≤k * 900∧Hid (PL g f iv wr r.st xs nv lv)∧Hid (LG Z wr xs iv r.ix)∧Hid (Below g Z wr)) (fun _ i _=>12 - (intOf i).toNat)
 case atStart=>exact⟨0,⟨[],[],⟨q,[]⟩⟩,[],_,_,_,[],amN _,rfl,rfl,O rfl,O rfl,O fun _=>rfl,amL _,amL _,amL _,G,P,O (Below.refl _ _)⟩
 case round =>
  clear G P;obtain⟨wo,rfl⟩:∃ wo:World,wo=wr:=⟨_,rfl⟩;obtain⟨k,r,X,iv,nv,lv,xs,hk,rfl,rfl,HX,HR,HN,hil,hXl,hnl,H,L,HB⟩:=hrel;have hws:=HB.o.size;obtain⟨A1,c1,rfl,_⟩:=id H.o.seed;have D:=H.o.blk.cell 0;obtain⟨n,hn⟩:∃ n,n=r.st.left.length:=⟨_,rfl⟩;rw [← hn] at D H
  by_cases hgo:k < 12∧0 < n
  ·obtain⟨h12,hn0⟩:=hgo;have hne:r.st.left ≠ []:=fun h=>by rw [h] at hn;simp at hn;omega
   obtain⟨mm,hmm⟩:∃ mm,12 - k=mm+1:=⟨12 - k - 1,by omega⟩;have R:=HR.o;rw [hmm,WY f mm hne] at R
   have HRR:=O R;have xu:=O (show 12 - (k+1)=mm by omega);have HSL:=O (adf f r HN.o);have HST:=O (Ke f r HN.o);have z12:(k:Int) < 12:=by omega
   have zn:(0:Int) < (n:Int):=by omega
   have U:=(OD f r.st).1;obtain⟨a,ha⟩:∃ a,a=iF f r.st:=⟨_,rfl⟩;have HA:=O ha;clear hne hmm R ha hn;rw [← HA.o] at U
   go_wp2_with fail;refine (aeX f g iv Z _ r.st xs nv _ r.ix H.o L.o hws hsz (by omega) (by omega)).mono ?_;rintro e w3⟨rfl,D_,xs',gY,nH,h,l,b⟩;rw [← HA.o] at h l ⊢
   have H3:=O h;have L3:=O l;have B3:=O (HB.o.trans b);clear h l b H L HB;obtain⟨T,hT⟩:∃ T,T=ah a.pc:=⟨_,rfl⟩;have hTl:T.length≤12000:=by rw [hT];exact U
   rw [← hT];have HT:=O hT;clear hT U;have q0:¬ 9223372036854775807 < T.length+1:=by omega
   have q1:¬ 9223372036854775807 < X.length+(T.length+1):=by omega
   go_wp2_with fail;have HXN:=O (show X ++ (T ++ [10])=Si (qE f r) by rw [HST.o,HX.o,HT.o,HA.o])
   refine⟨⟨k+1,qE f r,X ++ (T ++ [10]),_,_,_,_,by omega,by go_num,?_,HXN,O (by rw [xu.o];exact HRR.o),O fun h=>by simp [qE] at h,by show (r.ix ++ [_]).length≤_;rw [amQ];exact Nat.add_le_add_right hil 1,by simp only [amQ,List.length_cons,List.length_nil];omega,by have:=HSL.o.2;omega,by show Hid (PL g f D_ w3 (iF f r.st).st xs' gY nH);rw [← HA.o];exact H3,by show Hid (LG Z w3 xs' D_ (r.ix ++ [(iF f r.st).ix]));rw [← HA.o];exact L3,B3⟩,by simp [intOf];omega⟩
   refine congrArg Value.string ?_;rw [← aj,← aj];rfl
  ·have N:lF f (12 - k) r=r:=by
    by_cases h12:k < 12
    ·exact WV f _ (List.eq_nil_of_length_eq_zero (by omega))
    ·rw [show 12 - k=0 by omega];rfl
   have HE:=O (show r=grown f q by rw [← HR.o,N]);clear N HR hn
   have hcond:(decide ((k:Int) < 12) && decide ((0:Int) < (n:Int)))=false:=by
    rcases Nat.lt_or_ge k 12 with h | h
    ·rw [amX (by omega:¬ (0:Int) < (n:Int)),Bool.and_false]
    ·rw [amX (by omega:¬ (k:Int) < 12),Bool.false_and]
   have hX5:X.length≤200000:=by omega
   have xA:=O (show X=qh f q by rw [K5,← HE.o,HX.o]);have DX:=O (show r.ix=(grown f q).ix by rw [← HE.o]);have Y5:=O (show r.st.ns=(grown f q).st.ns by rw [← HE.o]);obtain⟨C,E,rfl⟩:=dA H.o.own;obtain⟨F,I,rfl⟩:=dA L.o.row;have hgb:g < wo.heap.size:=H.o.lt;have h12:((k:Int) < 12∧¬ (0:Int) < (n:Int))∨¬ (k:Int) < 12:=by omega
   rcases h12 with ⟨z12,zn⟩ | z12
   all_goals
    go_wp2_with fail;go_loopw [10,11] (fun t i wq=>∃ j:Nat,j≤X.length∧i=.int .i64 j∧t=.int .i64 (NI (X.take j))∧wq=wo) (fun _ i _=>X.length - (intOf i).toNat)
    case atStart=>exact⟨0,amN _,rfl,by simp [NI],rfl⟩
    case round =>
     obtain⟨j,hj,rfl,rfl,rfl⟩:=hrel;by_cases hlt:j < X.length
     ·obtain⟨b,S⟩:∃ b,b=gt X j:=⟨_,rfl⟩;have m:=WC hlt;have V:=UZ (X.take j);have alV:(X.take j).length≤X.length:=by rw [List.length_take];omega
      rw [← S,agi] at m
      obtain⟨u,Y⟩:∃ u,u=NI (X.take j):=⟨_,rfl⟩;rw [← Y] at m V ⊢
      have hbg:gt X j=b:=S.symm;have z0:(0:Int)≤(j:Int):=by omega
      have z1:(j:Int) < (X.length:Int):=by omega
      obtain⟨v,hv⟩:∃ v,v=b.toNat:=⟨_,rfl⟩;rw [← hv] at m
      have hbv:(gt X j).toNat=v:=by rw [hbg,hv]
      clear S Y hbg hv;have hul:u≤200000:=by omega
      by_cases e32:v=32
      ·subst e32;rw [if_pos (.inl rfl)] at m
       have y:=O m;clear m;go_wp2_with fail;exact⟨⟨j+1,by omega,by go_num,by rw [y.o];go_num,trivial⟩,by simp [intOf];omega⟩
      have z32:((v:Int) != 32)=true:=by simp;omega
      by_cases e10:v=10
      ·subst e10;rw [if_pos (.inr rfl)] at m
       have y:=O m;clear m;go_wp2_with fail;exact⟨⟨j+1,by omega,by go_num,by rw [y.o];go_num,trivial⟩,by simp [intOf];omega⟩
      have z10:((v:Int) != 10)=true:=by simp;omega
      rw [if_neg (by omega)] at m
      have y:=O m;clear m;go_wp2_with fail;exact⟨⟨j+1,by omega,by go_num,by rw [y.o];go_num,trivial⟩,by simp [intOf];omega⟩
     ·obtain rfl:j=X.length:=by omega
      rw [List.take_length];have V:=UZ X;obtain⟨u,Y⟩:∃ u,u=NI X:=⟨_,rfl⟩;rw [← Y] at V ⊢
      have Q:=O (show Af X=(decide (X.length≤2000) && decide (u≤800)) by rw [Y];rfl);clear Y;have d1:=H.o.blk.cell 1;have d2:=H.o.blk.cell 2;have M:=O (Ri.o.below HB.o hg1);have e0:=M.o.cell 0;have e1:=M.o.cell 1;have f0:=M.o.frozen 0;have f1:=M.o.frozen 1;have xM:=O ((((M.o.jX 0 (.slice C xs.length E)).jX 1 (.slice F r.ix.length I))).below (Below.drew (Below.refl ((wr.setCell ⟨w.heap.size,0,none⟩ (.slice C xs.length E)).setCell ⟨w.heap.size,1,none⟩ (.slice F r.ix.length I)).heap.size _)) (by have:=M.o.lt;simpa using this));have Y4:=O ((((H.o.rows L.o).set M.o 0 (.slice C xs.length E)).set (M.o.jX 0 (.slice C xs.length E)) 1 (.slice F r.ix.length I)).below (Below.drew (Below.refl _ _)));have HBB:=O (Below.drew (gQ (b:=w.heap.size) (i:=1) (u:=.slice F r.ix.length I) (gQ (b:=w.heap.size) (i:=0) (u:=.slice C xs.length E) (Wu g_.o HB.o (by omega)) (amL _)) (amL _)));have ZM:=O fun (b:Bool) (S:Af X=b)=>(show MO f q w (.returned (.tuple #[.string (aG X),.agg #[.slice C xs.length E,.slice F r.ix.length I],.bool b])) _ from ⟨HBB.o,C,F,E,I,xs,by rw [← xA.o,← DX.o,S],by rw [← Y5.o];exact H.o.ns,by rw [← DX.o];exact Y4.o.tree⟩)
      by_cases k1:X.length≤2000
      ·have z1:(X.length:Int)≤2000:=by omega
       by_cases k2:u≤800
       ·have z2:(u:Int)≤800:=by omega
        go_wp2_with fail;go_region
        go_wp2_with fail;have r0:=xM.o.cell 0;have r1:=xM.o.cell 1;refine bodyPost_ret (v:=.tuple #[.string (aG X),.agg #[.slice C xs.length E,.slice F r.ix.length I],.bool true]) (by simp [results,Tryz.f4,go_sem,r0,r1] <;> omega) rfl ?_;exact ZM.o true (by rw [Q.o];rw [amW k1,amW k2];rfl)
       ·have z2:¬ (u:Int)≤800:=by omega
        go_wp2_with fail;go_region
        go_wp2_with fail;have r0:=xM.o.cell 0;have r1:=xM.o.cell 1;refine bodyPost_ret (v:=.tuple #[.string (aG X),.agg #[.slice C xs.length E,.slice F r.ix.length I],.bool false]) (by simp [results,Tryz.f4,go_sem,r0,r1] <;> omega) rfl ?_;exact ZM.o false (by rw [Q.o];rw [amX k2,Bool.and_false])
      ·have z1:decide ((X.length:Int)≤2000)=false:=amX (by omega);have K1:=O k1;clear k1;go_wp2_with fail;go_region
       go_wp2_with fail;have r0:=xM.o.cell 0;have r1:=xM.o.cell 1;refine bodyPost_ret (v:=.tuple #[.string (aG X),.agg #[.slice C xs.length E,.slice F r.ix.length I],.bool false]) (by simp [results,Tryz.f4,go_sem,r0,r1] <;> omega) rfl ?_;exact ZM.o false (by rw [Q.o];rw [amX K1.o,Bool.false_and])
