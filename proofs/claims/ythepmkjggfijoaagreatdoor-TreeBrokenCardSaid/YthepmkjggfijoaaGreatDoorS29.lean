/-
  A part of the proof.
-/
import Derived.Test.YthepmkjggfijoaaGreatDoorSA
import Derived.Maps.AppendAt
import Derived.Sort.OwnSortedInts
import Derived.Test.YthepmkjggfijoaaGreatDoorS03
import Derived.Test.YthepmkjggfijoaaGreatDoorS04
import Derived.Test.YthepmkjggfijoaaGreatDoorS22
import Derived.Test.YthepmkjggfijoaaGreatDoorS28
set_option linter.all false
set_option maxRecDepth 100000
set_option maxHeartbeats 4000000
namespace Go.Proofs.YthepmkjggfijoaaGreatDoor
open Go.RowKit Go.Shelf Mist
attribute [local go_sem] Oper.semAt_some
def sQ (l:List Nat):List Value:=l.map fun (k:Nat)=>Value.int .i64 (k:Int)
theorem MP (u N nd:Nat)(P S:List Int)(tv iv:Value)(w:World)(hW:qW w u tv iv N S P)(hP:xH P)(hN:P.length=N)(hN6:N≤100000)(hnd:nd < N) :
  Calls Tryz.prog 81 #[.pointer (some ⟨u,0,none⟩),.int .i64 (nd:Int)] w fun e w'=>Below w.heap.size w w'∧∃ g c,e=.returned (.slice (some ⟨g,0,none⟩) (zJ P (N+1) (nd:Int)).length c)∧w.heap.size≤g∧∀ (j k:Nat),(zJ P (N+1) (nd:Int)).reverse[j]? = some k→w'.cell? ⟨g,j,none⟩=some (.int .i64 (k:Int)):=by
 obtain⟨sb,pb,h1,h2,h3,h4⟩:=hW.ex;obtain⟨i0,hi0,hz0,hz1,hz2⟩:=info_parts gN;refine (callsIn_wide (n:=3)).1 ?_;refine callsIn_of_wp_marks Tryz.func81 rfl trivial ?_ rfl;simp only [Tryz.ntmps81,List.size_toArray,List.length_cons,List.length_nil,Nat.reduceAdd,Nat.reduceSub,Array.replicate_succ,Array.replicate_zero,List.push_toArray,List.append_toArray,List.nil_append,List.cons_append]
 gi_wp2_with (refine⟨trivial,?_⟩;gi_at_call 120;refine (up_in Fence.wide _ trivial rfl _ _ _).mono ?_;rintro e w' ⟨rfl,rfl⟩)
 have bO:=((aC.new w 24 #[.slice none 0 0]).alloc (.cells #[.pointer (some ⟨u,0,none⟩)] 71)).alloc (.cells #[.int .i64 (nd:Int)] 3);have b2:=(dL (W:=w.alloc (.cells #[.slice none 0 0] 24)) (T:=71) (cs:=#[.pointer (some ⟨u,0,none⟩)]) (k:=w.heap.size+1) (by simp)).alloc (.cells #[.int .i64 (nd:Int)] 3);have b1:=dL (W:=(w.alloc (.cells #[.slice none 0 0] 24)).alloc (.cells #[.pointer (some ⟨u,0,none⟩)] 71)) (T:=3) (cs:=#[.int .i64 (nd:Int)]) (k:=w.heap.size+1+1) (by simp);have B:Below w.heap.size w (((w.alloc (.cells #[.slice none 0 0] 24)).alloc (.cells #[.pointer (some ⟨u,0,none⟩)] 71)).alloc (.cells #[.int .i64 (nd:Int)] 3)):=ah (ah (ah (Below.refl _ _) (aaJ _)) (by simp)) (by simp;omega);have hsz:(((w.alloc (.cells #[.slice none 0 0] 24)).alloc (.cells #[.pointer (some ⟨u,0,none⟩)] 71)).alloc (.cells #[.int .i64 (nd:Int)] 3)).heap.size=w.heap.size+3:=by simp
 obtain⟨A,Y⟩:∃ A,((w.alloc (.cells #[.slice none 0 0] 24)).alloc (.cells #[.pointer (some ⟨u,0,none⟩)] 71)).alloc (.cells #[.int .i64 (nd:Int)] 3)=A:=⟨_,rfl⟩;rw [Y] at bO b1 b2 B hsz ⊢
 clear Y;have h1':=h1.below B h1.lt;have h3':=h3.below B h3.lt;have hl1:=h1.lt;have hl3:=h3.lt;have hKp:∀ {W W':World} {b:Nat} {T:TypeId} {cs:Array Value},(b=w.heap.size+1∨b=u∨b=pb)→r_ w.heap.size A.heap.size W W'→aC W b T cs→aC W' b T cs:=fun hb hk h=>(hk _ (by omega) (by omega)).trans h
 refine wpIn_rangeFunc_ownG rfl (by omega) (gf:=178) (lb:=#[.pointer (some ⟨w.heap.size+1+1,0,none⟩),.pointer (some ⟨w.heap.size+1,0,none⟩)]) rfl trivial (enters_of Tryz.func178 (by kernel_rfl) rfl)
  (up_stops Fence.wide _ trivial rfl (by omega) (w.heap.size+1+1) (w.heap.size+1) u pb N P _ tv iv nd hP hN hN6 hnd (r_ w.heap.size A.heap.size) hKp A b1 b2 h1' h3') R9 (R7 (aaJ _)) (Below.refl _ _) (fun _=>rfl)
  (fun d W=>((∃ v,Boxed W w.heap.size 24 v∧W.ownsRow A.heap.size 3 1 v d.length (sQ d)∧True)∧Boxed W (w.heap.size+1+1) 3 (.int .i64 (nd:Int)))∧Below w.heap.size w W)
  (fun _ _ _=>False)
  (OwnFrom.and (OwnFrom.and (Own.from (holdsRow_own A.heap.size w.heap.size 24 3 1 (fun (d:List Nat)=>d.length) (fun d=>sQ d) (fun _ _=>True)) _) (Own.from (boxed_own _ _ _) _)) (ownFrom_below (aaJ _) (by omega)))
  (fun _ _ _ _ _ hs _ _=>hs)
  ⟨⟨⟨_,bO,World.ownsRow_nil _ _ _ _,trivial⟩,b1⟩,B⟩
  (fun x=>{ tmps:=#[.pointer (some ⟨u,0,none⟩),.int .i64 (nd:Int),undef,undef,.slice none 0 0,.pointer (some ⟨w.heap.size,0,none⟩),.int .i64 (x:Int),.pointer (some ⟨u,0,none⟩),.int .i64 (nd:Int),.func (.func 178) #[] #[.pointer (some ⟨w.heap.size+1+1,0,none⟩),.pointer (some ⟨w.heap.size+1,0,none⟩)],.int .i64 (x:Int),undef,undef,undef,undef,undef,undef,undef],defers:=[] })
  ?assign ?body ?done ?stop
 case assign =>
  intro l x W K hK
  dsimp only [encN]
  gi_wp2
  exact hK
 case body =>
  rintro l d x W⟨⟨⟨v,hv,a,_⟩,L⟩,hB⟩ hlt;have hbl2:=L.lt;have hvc:=hv.cell;have hvf:=hv.frozen;have hbl:=hv.lt;obtain⟨Av,cv,rfl⟩:=dh a
  gi_wp2_with (gi_at_builtin
               refine wpListIn_append_own _ rfl _ _ 24 rfl A.heap.size 3 i0 (.int .i64 0) 1 8 Tryz.underlying24 hi0 hz0 hz1 hz2 rfl (by decide) _ _ _ rfl (a.alloc _) ⟨W.heap.size,0,none⟩ 1 1 [.int .i64 (x:Int)] rfl rfl (cell_one_new _ _ _) (by simp [Value.oneCell']) (by simp only [maxLen];omega) (by omega) (by simp;omega) ?_;intro v' w1 i ZE _;have f:(W.alloc (.cells #[.int .i64 (x:Int)] 3)).grownBy w1 (Value.slice Av d.length cv).ownBlock:=ZE;clear ZE;obtain⟨g',q,rfl⟩:=ownsRow_succ i;have G:=(hv.alloc (.cells #[.int .i64 (x:Int)] 3)).kept f (hv.not_row (by decide) a);have hc1:=G.cell;have hf1:=G.frozen)
  have hk:KeepsOthers W (w1.setCell ⟨w.heap.size,0,none⟩ (.slice (some ⟨g',0,none⟩) (d.length+1) q)):=by
   refine ((KeepsOthers.alloc W (.cells #[.int .i64 (x:Int)] 3)).trans (KeepsOthers.of_grownBy f fun j o U y=>?_)).trans (KeepsOthers.setCell _ _ _);rcases (a.alloc (.cells #[.int .i64 (x:Int)] 3)).2 with ⟨J,_⟩ | ⟨g,cap,cur,J,_,F,_⟩
   ·rw [J] at U;simp [Value.ownBlock] at U
   ·rw [J] at U
    obtain rfl:g=j:=by simpa [Value.ownBlock] using U
    rw [F] at y;cases y;rfl
  have hkb:r_ w.heap.size A.heap.size W (w1.setCell ⟨w.heap.size,0,none⟩ (.slice (some ⟨g',0,none⟩) (d.length+1) q)):=fun b hb hne =>
   (Below.heap_setCell w1 ⟨w.heap.size,0,none⟩ _ b hne).trans ((f.block b (by simp;omega) (fun e=>by have:=(a.lt b e.symm).1;omega)).trans (Below.heap_alloc W _ b (by omega)))
  have hr':=i.kept (grownBy_setCell' w1 w.heap.size (.slice (some ⟨g',0,none⟩) (d.length+1) q)) (.inr (G.not_row (by decide) i).symm);have hv2':=((L.alloc (.cells #[.int .i64 (x:Int)] 3)).kept f (fun e=>by have:=(a.lt _ e.symm).1;omega)).other (B':=w.heap.size) (by omega) (.slice (some ⟨g',0,none⟩) (d.length+1) q)
  refine⟨hk.from _,hkb,⟨⟨_,G.set _,?_,trivial⟩,hv2'⟩,?_⟩
  ·rw [aaO];have e:sQ (d ++ [x])=sQ d ++ [.int .i64 (x:Int)]:=by simp [sQ]
   rw [e];exact hr'
  ·exact dx (hB.trans ((ah (Below.refl w.heap.size W) (by omega) (o:=.cells #[.int .i64 (x:Int)] 3)).grown f (by simp;omega) (fun b hb=>by have:=(a.lt b hb).1;omega))) (aaJ _)
 case done =>
  rintro D V W hD Q⟨⟨⟨v,hv,a,_⟩,L⟩,hB⟩ hK;have hvc:=hv.cell;have hvf:=hv.frozen;have hbl:=hv.lt
  have hpos:0 < V.length:=by
   rw [Q,tC];simp
  have I:=a.2;have hrow1:=a;rcases I with ⟨_,h0⟩ | ⟨t,cap,cur,rfl,hbase,F,hle,hcap,hcs,htk⟩
  ·omega
  obtain⟨m,R⟩:∃ m:List Int,m=V.map fun (k:Nat)=>(k:Int):=⟨_,rfl⟩
  have H:m.length=V.length:=by simp [R]
  have hnz:sQ V=m.map (Value.int .i64):=by simp [R,sQ]
  have hH:Go.Sort.Holds (Value.int .i64) W t 0 m.toArray:=holds_of_blockI F (by rw [H,← hnz];simpa using htk)
  gi_wp2_with (refine ⟨trivial, ?_⟩
               rw [← Q];rw [← H];refine (callsIn_wide.2 (Tryz.slices_Reverse_int t 0 cap m W hH (by rw [H];simp only [maxLen] at hcap;omega))).mono ?_;rintro e w' ⟨rfl,n,rfl⟩;have E:W.grownBy (Go.Sort.putRow (Value.int .i64) (Go.Sort.ahead W n) t 0 m.reverse.toArray) (some t):=by simpa using grownBy_sortedI (w:=W) (g:=t) (n:=n) (os:=#[]) m.reverse.toArray
               have hq:∀ (j k:Nat),V.reverse[j]? = some k→(Go.Sort.putRow (Value.int .i64) (Go.Sort.ahead W n) t 0 m.reverse.toArray).cell? ⟨t,j,none⟩=some (.int .i64 (k:Int)):=by
                 intro j k y;have hjl:j < V.length:=by have:=(aaE.1 y).1;simpa using this
                 have hHa:Go.Sort.Holds (Value.int .i64) (Go.Sort.ahead W n) t 0 m.toArray:=Go.Sort.holds_ahead _ _ _ _ _ _ hH
                 have:=Go.Sort.cell?_putRow (Value.int .i64) (Go.Sort.ahead W n) t 0 m.toArray m.reverse.toArray hHa (by simp) j (by simp [H];exact hjl)
                 rw [Nat.zero_add] at this
                 rw [this];have hz:m.reverse[j]? = some (k:Int):=by rw [R,← List.map_reverse,List.getElem?_map,y];rfl
                 simp only [List.getElem!_toArray];rw [List.getElem!_eq_getElem?_getD,hz];rfl
               have hko:KeepsOthers W (Go.Sort.putRow (Value.int .i64) (Go.Sort.ahead W n) t 0 m.reverse.toArray):=KeepsOthers.of_grownBy E fun j o U y=>by cases U;rw [F] at y;cases y;rfl
               have M:=hv.kept E (fun e=>by simp at e;omega);have X:=hB.grown E (by omega) (fun k e=>by cases e;omega);have C:=hko.same D _ hK rfl;have hc3:=M.cell;have hf3:=M.frozen;obtain⟨W3,Z⟩:∃ W3,Go.Sort.putRow (Value.int .i64) (Go.Sort.ahead W n) t 0 m.reverse.toArray=W3:=⟨_,rfl⟩;rw [Z] at E hq hko M X C hc3 hf3 ⊢
               clear Z)
  rw [Q] at hq
  refine⟨by simp,.inl ⟨_,_,rfl,run_takeDeferred C,?_⟩⟩
  refine⟨.slice (some ⟨t,0,none⟩) (zJ P (N+1) (nd:Int)).length cap,?_,X.trans (belowK_b (w:=w) (aaJ _) W3 D _ _ (by omega) C rfl rfl),t,cap,rfl,by omega,fun j k y=>?_⟩
  ·simp [results,Tryz.f81,go_sem]
  ·exact cell_kept (hq j k y) (grownBy_putObj' _ D (.deferred none)) (fun r e=>by cases e;exact⟨_,C,rfl⟩)
 case stop =>
  rintro D c d W _ _ h _;exact h.elim
end Go.Proofs.YthepmkjggfijoaaGreatDoor
namespace Go.Proofs.YthepmkjggfijoaaGreatDoor
open Go.RowKit Mist
theorem PZ (A B:Option Addr)(c d:Nat)(xs:List NV)(a:List Int)(b:Int)(v:Nat→Nat)(w:World)(r:mq w A B xs a)(C:xO (aA xs))(y:Env w)(E:dN ⟨aA xs,a⟩=0)(H:xs.length≤100000)(D:Wf (aA xs))(hS:SzIs (aA xs) v)(h:Mist.within b 0 ((xs.length:Int) - 1)=true) :
  Calls Tryz.prog 80 #[.agg #[.slice A xs.length c,.slice B a.length d],.int .i64 b] w fun e F=>Below w.heap.size w F∧∃ j S,e=.returned (.tuple #[.pointer (some ⟨j,0,none⟩),.int .i64 0])∧qW F j (.slice A xs.length c) (.slice B a.length d) xs.length S (cZ (aA xs))∧w.heap.size≤j∧S.length=xs.length∧∀ i,i < xs.length→S.getD i 0=(v i:Int):=by
 have x:=O (jk A B c d xs a (w.alloc (.cells #[.slice A xs.length c,.slice B a.length d] 26)) (r.below (ah (Below.refl _ _) (aaJ _))) C (y.alloc _));rw [E] at x
 have G:=O h;have m:=O (fun (l:World) (k:Below w.heap.size w l)=>EU A B c a.length d xs a v l (r.below k) H D hS);clear r C y E h D hS;go_in
 go_wp2_with fail;refine x.o.mono ?_;rintro e l⟨rfl,k⟩;have g:=O (gF k);have J:=g.o.cell 0;have K:=g.o.cell 1;have f:Below w.heap.size w l:=(ah (Below.refl _ _) (aaJ _)).trans (k.mono (by simp));go_wp2_with fail;refine (dU b 0 _ true G.o _).mono ?_;rintro e L⟨rfl,rfl⟩;go_wp2_with fail;refine (m.o _ f).mono ?_;rintro e M⟨u,j,S,rfl,t,I,n,q⟩;go_wp2_with fail;go_ret2
 exact⟨f.trans (u.mono (by have:=f.size;omega)),j,S,rfl,t,by have:=f.size;omega,n,q⟩
theorem Dm (A B:Option Addr)(n m c d:Nat)(a r:Int)(w:World)(j:r ≠ 0)
  (g:∀ W,Below w.heap.size w W→Calls Tryz.prog 80 #[.agg #[.slice A n c,.slice B m d],.int .i64 a] W fun e f=>e=.returned (.tuple #[.pointer none,.int .i64 r])∧Below W.heap.size W f) :
  Calls Tryz.prog 36 #[.agg #[.slice A n c,.slice B m d],.int .i64 a] w fun e f=>e=.returned (.tuple #[.slice none 0 0,.int .i64 r])∧Below w.heap.size w f:=by
 have h:=O g;clear g;have k0:(r != 0)=true:=by simpa using j
 go_in
 go_wp2_with fail;refine (h.o _ (ah (Below.refl _ _) (aaJ _))).mono ?_;rintro e k⟨rfl,b⟩;have i:Below w.heap.size w k:=(ah (Below.refl _ _) (aaJ _)).trans (b.mono (by simp));go_wp2_with fail;go_ret2
 exact⟨rfl,i⟩
theorem P8 (A B:Option Addr)(c d N:Nat)(a P:List Int)(b:Nat)(w:World)(x:xH P)(v:P.length=N)(i:N≤100000)(hnd:b < N)
  (q:∀ W,Below w.heap.size w W→Calls Tryz.prog 80 #[.agg #[.slice A N c,.slice B a.length d],.int .i64 (b:Int)] W fun e f=>Below W.heap.size W f∧∃ h S,e=.returned (.tuple #[.pointer (some ⟨h,0,none⟩),.int .i64 0])∧qW f h (.slice A N c) (.slice B a.length d) N S P) :
  Calls Tryz.prog 36 #[.agg #[.slice A N c,.slice B a.length d],.int .i64 (b:Int)] w fun e f=>Below w.heap.size w f∧∃ g c,e=.returned (.tuple #[.slice (some ⟨g,0,none⟩) (zJ P (N+1) (b:Int)).length c,.int .i64 0])∧w.heap.size≤g∧∀ (j k:Nat),(zJ P (N+1) (b:Int)).reverse[j]? = some k→f.cell? ⟨g,j,none⟩=some (.int .i64 (k:Int)):=by
 have u:=O q;clear q;go_in
 go_wp2_with fail;refine (u.o _ (ah (Below.refl _ _) (aaJ _))).mono ?_;rintro e t⟨l,h,S,rfl,y⟩;have r:Below w.heap.size w t:=(ah (Below.refl _ _) (aaJ _)).trans (l.mono (by simp));go_wp2_with fail;refine (MP h N b P S _ _ t y x v i hnd).mono ?_;rintro e D⟨m,g,c2,rfl,C,n⟩;go_wp2_with fail;go_ret2
 have:=r.size
 exact⟨r.trans (m.mono (by omega)),g,c2,rfl,by omega,n⟩
theorem cut_bad (A B:Option Addr)(c d:Nat)(xs:List NV)(a:List Int)(item:Int)(w:World)(r:mq w A B xs a)(q:xO (aA xs))(m:Env w)(t:dN ⟨aA xs,a⟩ ≠ 0) :
  Calls Tryz.prog 24 #[.agg #[.slice A xs.length c,.slice B a.length d],.int .i64 item] w fun e D=>e=.returned (.tuple #[.agg #[.slice none 0 0,.slice none 0 0],.int .i64 (dN ⟨aA xs,a⟩)])∧Below w.heap.size w D:=by
 have f:Below w.heap.size w ((w.alloc (.cells #[.slice A xs.length c,.slice B a.length d] 26)).alloc (.cells #[.slice none 0 0,.slice none 0 0] 26)):=ah (ah (Below.refl _ _) (aaJ _)) (by simp);have l:=O (jk A B c d xs a ((w.alloc (.cells #[.slice A xs.length c,.slice B a.length d] 26)).alloc (.cells #[.slice none 0 0,.slice none 0 0] 26)) (r.below f) q ((m.alloc _).alloc _));have g:=O f;obtain⟨K,n⟩:∃ K,K=dN ⟨aA xs,a⟩:=⟨_,rfl⟩;rw [← n] at l t ⊢
 have k0:(K != 0)=true:=by simpa using t
 clear r q m n f;go_in
 go_wp2_with fail;refine l.o.mono ?_;rintro e k⟨rfl,i⟩;have b:=O (show aC k (w.heap.size+1) 26 #[.slice none 0 0,.slice none 0 0] by have h9:=gF i;simpa using h9);have j:Below w.heap.size w k:=g.o.trans (i.mono g.o.size);have x:=i.size;have G:=b.o.cell 0;have H:=b.o.cell 1;have E:=b.o.frozen 0;have F:=b.o.frozen 1;go_wp2_with fail;have h:w.heap.size≤w.heap.size+1:=by omega
 have u:=O (show aC ((k.setCell ⟨w.heap.size+1,0,none⟩ (.slice none 0 0)).setCell ⟨w.heap.size+1,1,none⟩ (.slice none 0 0)) (w.heap.size+1) 26 #[.slice none 0 0,.slice none 0 0] by have h9:=(b.o.d_ 0 (.slice none 0 0)).d_ 1 (.slice none 0 0);simpa using h9);have y:=u.o.cell 0;have C:=u.o.cell 1;exact bodyPost_ret (v:=.tuple #[.agg #[.slice none 0 0,.slice none 0 0],.int .i64 K]) (by simp [results,Tryz.f24,go_sem,y,C]) rfl ⟨rfl,dx (dx j h) h⟩
theorem Zj (A B:Option Addr)(c d:Nat)(xs:List NV)(a:List Int)(item:Int)(w:World)(t:mq w A B xs a)(r:xO (aA xs))(q:Env w)(u:dN ⟨aA xs,a⟩=0)(I:a.length≤100000)(j:Mist.within item 0 ((a.length:Int) - 1)=false) :
  Calls Tryz.prog 24 #[.agg #[.slice A xs.length c,.slice B a.length d],.int .i64 item] w fun e F=>e=.returned (.tuple #[.agg #[.slice none 0 0,.slice none 0 0],.int .i64 7])∧Below w.heap.size w F:=by
 have f:Below w.heap.size w ((w.alloc (.cells #[.slice A xs.length c,.slice B a.length d] 26)).alloc (.cells #[.slice none 0 0,.slice none 0 0] 26)):=ah (ah (Below.refl _ _) (aaJ _)) (by simp);have n:=O (jk A B c d xs a ((w.alloc (.cells #[.slice A xs.length c,.slice B a.length d] 26)).alloc (.cells #[.slice none 0 0,.slice none 0 0] 26)) (t.below f) r ((q.alloc _).alloc _));have g:=O f;have y:=O j;rw [u] at n
 clear t r q f u j;go_in
 go_wp2_with fail;refine n.o.mono ?_;rintro e m⟨rfl,k⟩;have h:=O ((dL (W:=w) (T:=26) (cs:=#[.slice A xs.length c,.slice B a.length d]) rfl).alloc (.cells #[.slice none 0 0,.slice none 0 0] 26) |>.below k (by simp;omega));have b:=O (show aC m (w.heap.size+1) 26 #[.slice none 0 0,.slice none 0 0] by have h9:=gF k;simpa using h9);have l:Below w.heap.size w m:=g.o.trans (k.mono g.o.size);have C:=k.size;have L:=h.o.cell 0;have M:=h.o.cell 1;have J:=b.o.cell 0;have K:=b.o.cell 1;have G:=b.o.frozen 0;have H:=b.o.frozen 1;go_wp2_with fail;refine (dU item 0 _ false y.o _).mono ?_;rintro e N⟨rfl,rfl⟩;go_wp2_with fail;have i:w.heap.size≤w.heap.size+1:=by omega
 have x:=O (show aC ((m.setCell ⟨w.heap.size+1,0,none⟩ (.slice none 0 0)).setCell ⟨w.heap.size+1,1,none⟩ (.slice none 0 0)) (w.heap.size+1) 26 #[.slice none 0 0,.slice none 0 0] by have h9:=(b.o.d_ 0 (.slice none 0 0)).d_ 1 (.slice none 0 0);simpa using h9);have D:=x.o.cell 0;have E:=x.o.cell 1;exact bodyPost_ret (v:=.tuple #[.agg #[.slice none 0 0,.slice none 0 0],.int .i64 7]) (by simp [results,Tryz.f24,go_sem,D,E]) rfl ⟨rfl,dx (dx l i) i⟩
theorem oZ.part {w:World}{b o:Nat}{xs:List NV}(h:oZ w b o xs)(f k:Nat):oZ w b (o+f * 5) ((xs.drop f).take k):=by
 have a:∀ (i:Nat) x,((xs.drop f).take k)[i]? = some x→xs[f+i]? = some x:=fun i x a=>by
  rw [List.getElem?_take] at a
  split at a
  ·rwa [List.getElem?_drop] at a
  ·cases a
 have c:∀ i,o+f * 5+i * 5=o+(f+i) * 5:=fun i=>by omega
 refine⟨⟨h.kids.lt,fun i x h1=>?_,fun x h1=>h.kids.kids x (List.mem_of_mem_drop (List.mem_of_mem_take h1))⟩,fun i x h1=>?_,fun i x h1=>?_,fun i x h1=>?_,fun i x h1=>?_⟩
 ·rw [c];exact h.kids.kv _ x (a i x h1)
 ·rw [c];exact h.c0 _ x (a i x h1)
 ·rw [c];exact h.c1 _ x (a i x h1)
 ·rw [c];exact h.c2 _ x (a i x h1)
 ·rw [c];exact h.c4 _ x (a i x h1)
theorem JS.put {g:Nat}{w:World}{tb:Nat}{nv iv:Value}{xs:List NV}{a:List Int}(h:JS g w tb nv iv xs a)(i:Nat)(u:Value)(b:(#[nv,iv]:Array Value).setIfInBounds i u=#[nv,iv]):JS g (w.setCell ⟨tb,i,none⟩ u) tb nv iv xs a :=
 ⟨by have:=h.blk.d_ i u;rwa [b] at this,h.lo,ownsRow_setCell_other h.own (aT h.own h.blk (by decide)) _,fun y hy=>ownsRow_setCell_other (h.kids y hy) (aT (h.kids y hy) h.blk (by decide)) _,ownsRow_setCell_other h.row (aT h.row h.blk (by decide)) _,h.far⟩
theorem cut_ok (b o:Nat)(B:Option Addr)(c d:Nat)(xs:List NV)(a:List Int)(q la:Nat)(j:Nat→Nat)(w:World)(Q:mq w (some ⟨b,o,none⟩) B xs a)(hR:xO (aA xs))(hE:Env w)(hc:dN ⟨aA xs,a⟩=0)(hn:xs.length≤10000)(hni:a.length≤10000)(hW:Wf (aA xs))(hS:SzIs (aA xs) j)
  (hcap:xs.length≤c) (hq:a[q]? = some (la:Int)) (hla:la < xs.length) (hsz:0 < j la∧j la≤la+1) :
  Calls Tryz.prog 24 #[.agg #[.slice (some ⟨b,o,none⟩) xs.length c,.slice B a.length d],.int .i64 (q:Int)] w fun e M=>Below w.heap.size w M∧∃ g tb nv iv ext,e=.returned (.tuple #[.agg #[nv,iv],.int .i64 0])∧w.heap.size≤g∧JS g M tb nv iv ext (gJ 0 (aA ((xs.drop (la+1 - j la)).take (j la))))∧aA ext=(aA ((xs.drop (la+1 - j la)).take (j la))).map (lI (-((la+1 - j la:Nat):Int))):=by
 have D:Below w.heap.size w ((w.alloc (.cells #[.slice (some ⟨b,o,none⟩) xs.length c,.slice B a.length d] 26)).alloc (.cells #[.slice none 0 0,.slice none 0 0] 26)):=ah (ah (Below.refl _ _) (aaJ _)) (by simp);have HC:=O (jk (some ⟨b,o,none⟩) B c d xs a ((w.alloc (.cells #[.slice (some ⟨b,o,none⟩) xs.length c,.slice B a.length d] 26)).alloc (.cells #[.slice none 0 0,.slice none 0 0] 26)) (Q.below D) hR ((hE.alloc _).alloc _));have t:=O D;have hql:q < a.length:=(aaE.1 hq).1;have Xq:=O (show Mist.within (q:Int) 0 ((a.length:Int) - 1)=true by simp [Mist.within];omega);have HWK:=O (fun (H:World) (C:Below w.heap.size w H)=>EU (some ⟨b,o,none⟩) B c a.length d xs a j H (Q.below C) (by omega) hW hS);have HT:=O Q
 have HKB:=O (show ∀ x ∈ xs,∀ k ∈ x.1.kids,-1000000≤k∧k≤1000000 from fun x Z k hk=>by
  obtain⟨i,hi⟩:=List.mem_iff_getElem?.1 Z;have hil:=(aaE.1 hi).1
  have:=hW i x.1 (by unfold aA;rw [List.getElem?_map,hi];rfl) k hk
  omega)
 obtain⟨K,L,rfl,X,Y⟩:=Q.items.ex (by omega);have HI:=O (Y q la hq);rw [hc] at HC
 clear Q hR hE D hc hW hS Y;go_in
 go_wp2_with fail;refine HC.o.mono ?_;rintro e H⟨rfl,C⟩;have A:=O ((dL (W:=w) (T:=26) (cs:=#[.slice (some ⟨b,o,none⟩) xs.length c,.slice (some ⟨K,L,none⟩) a.length d]) rfl).alloc (.cells #[.slice none 0 0,.slice none 0 0] 26) |>.below C (by simp;omega));have l:=O (show aC H (w.heap.size+1) 26 #[.slice none 0 0,.slice none 0 0] by have h9:=gF C;simpa using h9);have E:Below w.heap.size w H:=t.o.trans (C.mono t.o.size);have hs2:w.heap.size+2≤H.heap.size:=by have h9:=C.size;simp at h9;omega
 have u0:=A.o.cell 0;have u1:=A.o.cell 1;have t0:=l.o.cell 0;have t1:=l.o.cell 1;have f0:=l.o.frozen 0;have f1:=l.o.frozen 1;have i0:H.cell? ⟨K,L+q,none⟩=some (.int .i64 (la:Int)):=(E.cell (by exact X)).trans HI.o;go_wp2_with fail;refine (dU (q:Int) 0 _ true Xq.o _).mono ?_;rintro e w3⟨rfl,rfl⟩;go_wp2_with fail;have EZ:=O E;clear E C t HC
 go_region_held3 (fun M=>M.cell? ⟨w.heap.size,0,none⟩=some (.slice (some ⟨b,o,none⟩) xs.length c)∧M.cell? ⟨w.heap.size,1,none⟩=some (.slice (some ⟨K,L,none⟩) a.length d)∧M.cell? ⟨K,L+q,none⟩=some (.int .i64 (la:Int)))
  (first | go_keep|(go_split_ands;refine⟨?_,?_,?_⟩ <;> assumption)|(go_split_ands;refine⟨?_,?_,?_⟩ <;> go_keep))
  ((go_at_call 66;refine (HWK.o _ (by repeat (first|(with_reducible exact EZ.o)|(with_reducible refine Below.drew ?_)))).mono ?_;rintro e I⟨m,wb,S,rfl,R,hwb,hSl,P⟩;have n:=O (show aC I w.heap.size 26 #[.slice (some ⟨b,o,none⟩) xs.length c,.slice (some ⟨K,L,none⟩) a.length d] from aC.below (by repeat (first|(with_reducible exact A.o)|(with_reducible refine aC.drew ?_))) m (by first | omega|(simp;omega)));have J:=O (show aC I (w.heap.size+1) 26 #[.slice none 0 0,.slice none 0 0] from aC.below (by repeat (first|(with_reducible exact l.o)|(with_reducible refine aC.drew ?_))) m (by first | omega|(simp;omega)));have qx:=O (show Below w.heap.size w I from Below.trans (by repeat (first|(with_reducible exact EZ.o)|(with_reducible refine Below.drew ?_))) (m.mono (by first | omega|(simp;omega))));have Xt:=O R;have E_:=O P;clear m R P;clear u0 u1 t0 t1 f0 f1 i0;have u0:=n.o.cell 0;have u1:=n.o.cell 1;have t0:=J.o.cell 0;have t1:=J.o.cell 1;have f0:=J.o.frozen 0;have f1:=J.o.frozen 1;have i0:I.cell? ⟨K,L+q,none⟩=some (.int .i64 (la:Int)):=(qx.o.cell (by exact X)).trans HI.o))
 all_goals
  obtain⟨sb,pb,h1,h2,h3,h4⟩:=Xt.o;have x2:=h1.cell 2;have s0:I.cell? ⟨sb,la,none⟩=some (.int .i64 (j la:Int)):=(h2.cell la).trans (by rw [nE S la (by omega),E_.o la hla]);have HFR:=O (show (la:Int) - (j la:Int)+1=((la+1 - j la:Nat):Int) by omega);obtain⟨z,hz⟩:∃ z,z=j la:=⟨_,rfl⟩;rw [← hz] at s0 HFR hsz
  have HZ:=O hz;clear hz;go_wp2_with fail;obtain⟨fr,F⟩:∃ fr,fr=la+1 - z:=⟨_,rfl⟩;have U_:((la:Int) - (z:Int)+1).toNat=fr:=by omega
  have hfz:la+1 - fr=z:=by omega
  obtain⟨N,h⟩:∃ N,N=(xs.drop fr).take z:=⟨_,rfl⟩;have G:N.length=z:=by rw [h,List.length_take,List.length_drop];omega
  rw [U_,hfz,← G];have hJ:JS (w.heap.size+2) I (w.heap.size+1) (.slice none 0 0) (.slice none 0 0) [] []:=⟨J.o,by omega,World.ownsRow_nil _ _ _ _,fun x Z=>(by cases Z),World.ownsRow_nil _ _ _ _,fun x Z=>(by cases Z)⟩;refine (Z_ (w.heap.size+2) (w.heap.size+1) (.slice none 0 0) (.slice none 0 0) [] [] (some ⟨b,o+fr * 5,none⟩) (c - fr) N ((la:Int) - (N.length:Int)+1) w I hJ (fun _=>⟨b,o+fr * 5,rfl,?hnd⟩) qx.o (by omega) (by have:=qx.o.size;have:=J.o.lt;omega) (by simp) (by simp) (by omega) (by omega) (fun y hy=>HKB.o y (List.mem_of_mem_drop (List.mem_of_mem_take (by rw [h] at hy;exact hy))))).mono ?_
  case hnd =>
   obtain⟨b',o',e1,h9⟩:=HT.o.nodes (by omega);cases e1;rw [h];exact h9.part fr z
  rintro e w5⟨rfl,U,nv,iv,ext,f,r⟩;obtain⟨An,cn,rfl⟩:=dh f.own;obtain⟨Av,cv,rfl⟩:=dh f.row;clear t0 t1 f0 f1 u0 u1 i0;have t0:=f.blk.cell 0;have t1:=f.blk.cell 1;have f0:=f.blk.frozen 0;have f1:=f.blk.frozen 1;have V:w.heap.size≤w.heap.size+1:=by omega
  have HJ5:=O f;have cu:=O U;have Li:=O r;clear f U r;go_wp2_with fail
  have HJ6:JS (w.heap.size+2) w5 (w.heap.size+1) (.slice An ext.length cn) (.slice Av (gJ 0 (aA (List.take z (List.drop (la+1 - z) xs)))).length cv) ext (gJ 0 (aA (List.take z (List.drop (la+1 - z) xs)))):=by
   have h9:=HJ5.o;rw [h,F] at h9
   simpa only [List.nil_append,List.length_nil] using h9
  have u:=(HJ6.put 0 (.slice An ext.length cn) rfl).put 1 (.slice Av (gJ 0 (aA (List.take z (List.drop (la+1 - z) xs)))).length cv) rfl;have q0:=u.blk.cell 0;have q1:=u.blk.cell 1;refine bodyPost_ret (v:=.tuple #[.agg #[.slice An ext.length cn,.slice Av (gJ 0 (aA (List.take z (List.drop (la+1 - z) xs)))).length cv],.int .i64 0]) (by simp [results,Tryz.f24,go_sem,q0,q1]) rfl ⟨dx (dx cu.o V) V,w.heap.size+2,w.heap.size+1,_,_,ext,rfl,by omega,?_,?_⟩
  ·rw [← HZ.o];exact u
  ·have h9:=Li.o;have h8:(((ext.length - ext.length:Nat):Int)) - ((la:Int) - (N.length:Int)+1)=-((la+1 - z:Nat):Int):=by rw [G];omega
   rw [← HZ.o,h9,h,F]
   congr 1
   refine congrArg lI ?_;rw [← F,← h,G];simp only [List.length_nil];omega
end Go.Proofs.YthepmkjggfijoaaGreatDoor
namespace Go.Proofs.YthepmkjggfijoaaGreatDoor
open Mist
theorem kX {ns:List Nd}{out:List Int}(h:uQ ns out ns.length):Wf ns:=by
 intro i nd hi c a;obtain⟨n,m,e,d,_,b⟩:=h.2 i (aaE.1 hi).1;rw [hi] at e;cases e
 have:=b.ids c a
 omega
theorem fo_sum {ns:List Nd}{out:List Int}(h:uQ ns out ns.length){a b:Nat}{ks:List Int}(f:Fo ns a b ks):(ks.map fun k=>(out.getD k.toNat 0).toNat).sum=b - a:=by
 induction f with
 | nil=>simp
 | @snoc a m b ks n h1 k1 e i1 i2 =>
  obtain⟨l,j,d,i,g,c⟩:=h.2 b (aaE.1 e).1;rw [e] at d;cases d
  have:=c.uniq _ k1
  subst this;have h1:=h1.le;simp only [List.map_append,List.sum_append,List.map_cons,List.map_nil,List.sum_cons,List.sum_nil,aaQ];rw [i1,g];omega
theorem Nb {ns:List Nd}{out:List Int}(h:uQ ns out ns.length)(f:ns.length≤100000):SzIs ns (fun i=>(out.getD i 0).toNat):=by
 constructor
 ·intro i x hi;obtain⟨n,m,e,c,a,b⟩:=h.2 i (aaE.1 hi).1;rw [hi] at e;cases e
  have d:=fo_sum h b
  show (out.getD i 0).toNat=1+(x.kids.map fun k=>(out.getD k.toNat 0).toNat).sum
  rw [d,a];omega
 ·intro i;by_cases hi:i < ns.length
  ·obtain⟨n,m,e,c,a,b⟩:=h.2 i hi
   show (out.getD i 0).toNat≤1000000
   rw [a];omega
  ·have:out.getD i 0=0:=by rw [aaH,List.getElem?_eq_none (by rw [h.1];omega)];rfl
   show (out.getD i 0).toNat≤1000000
   rw [this];simp
theorem szPos {ns:List Nd}{out:List Int}(h:uQ ns out ns.length){i:Nat}(hi:i < ns.length):0 < (out.getD i 0).toNat∧(out.getD i 0).toNat≤i+1:=by
 obtain⟨n,m,e,c,a,b⟩:=h.2 i hi;rw [a];omega
def Y1 (n i:Nat)(P:List Int):Prop:=P.length=n∧∀ j,j < i→P.getD j 0=-1∨((j:Int) < P.getD j 0∧P.getD j 0 < (i:Int))
theorem Iy (n i:Nat)(hi:i < n):∀ (ks:List Int) (P:List Int),(∀ k ∈ ks,0≤k∧k < (i:Int))→Y1 n (i+1) P→Y1 n (i+1) (um (i:Int) ks P)
 | [],_,_,h=>h
 | k :: r,P,hk,h=>by
  rw [um];refine Iy n i hi r _ (fun x b=>hk x (List.mem_cons_of_mem _ b)) ⟨by rw [List.length_set];exact h.1,fun j a=>?_⟩;have h0:=hk k (List.mem_cons_self ..);rw [lU];split
  ·rename_i h1
   right;omega
  ·exact h.2 j a
theorem KI {ns:List Nd}(b:Wf ns):∀ i,i≤ns.length→Y1 ns.length i (wH ns i)
 | 0,_=>⟨by simp [wH],fun j e=>by omega⟩
 | i+1,hi=>by
  have a:=KI b i (by omega);rw [wH,KJ];refine Iy ns.length i (by omega) _ _ ?_ ⟨by rw [List.length_set];exact a.1,fun j e=>?_⟩
  ·intro k c;obtain⟨x,d⟩:∃ x,ns[i]? = some x:=⟨_,aaD (by omega)⟩;rw [d] at c
   exact b i x d k c
  ·rw [lU];split
   ·exact .inl rfl
   ·rename_i h1
    have f:=a.1;rcases a.2 j (by omega) with h2 | h2
    ·exact .inl h2
    ·right;omega
theorem nL {ns:List Nd}(a:Wf ns):xH (cZ ns)∧(cZ ns).length=ns.length:=by
 have h:=KI a ns.length (aaJ _)
 refine⟨fun i hi=>?_,h.1⟩
 unfold cZ at hi ⊢
 rw [h.1] at hi ⊢
 exact h.2 i hi
theorem iF {t:Tr}(h:dN t=0):Mist.large t=false∧qV t∧∃ out,uQ t.nodes out t.nodes.length:=by
 unfold dN at h
 split at h
 ·omega
 rename_i h1
 split at h
 ·omega
 rename_i h2
 split at h
 ·omega
 rename_i h3
 have d:∀ i,i < t.nodes.length→Mist.formed t i=true:=by
  have h9:(List.range t.nodes.length).all (Mist.formed t)=true:=by simpa using h2
  intro i hi;exact aaR.1 h9 i (List.mem_range.2 hi)
 have e:∀ (i:Nat) n,t.nodes[i]? = some n→∀ c ∈ n.kids,0≤c∧c≤(i:Int) - 1:=by
  intro i n hi c b;have h9:=((nW t i).1 (d i (aaE.1 hi).1)).2.2 c;rw [kH hi] at h9
  exact h9 b
 have f:Mist.ordered t=true:=by
  rcases h8:Mist.ordered t with _ | _
  ·exact absurd (Or.inl h8) h3
  ·rfl
 have a:=Al e f;obtain⟨j,_,g⟩:=qV.sizes a.fo;exact⟨by simpa using h1,a,j,g⟩
theorem Um {t:Tr}(h:qV t){q:Nat}{c:Int}(a:t.items[q]? = some c):∃ la:Nat,c=(la:Int)∧la < t.nodes.length:=by
 have:=h.fo.ids c (aaM a)
 exact⟨c.toNat,by omega,by omega⟩
end Go.Proofs.YthepmkjggfijoaaGreatDoor
namespace Go.Proofs.YthepmkjggfijoaaGreatDoor
open Go.RowKit Mist
def iC (t:Tr)(n:Nat)(i:Int):Int:=if dN t ≠ 0 then dN t else if Mist.within i 0 ((n:Int) - 1)=false then 7 else 0
theorem jJ (xs:List NV):(aA xs).length=xs.length:=by simp [aA]
theorem Cu {t:Tr}(h:Mist.large t=false):t.nodes.length≤800∧t.items.length≤60:=by
 unfold Mist.large at h
 simp at h
 omega
theorem Dl (A B:Option Addr)(c d:Nat)(xs:List NV)(b:List Int)(a:Int)(w:World)(r:mq w A B xs b)(q:xO (aA xs))(o:∀ W,Below w.heap.size w W→Env W) :
  Calls Tryz.prog 36 #[.agg #[.slice A xs.length c,.slice B b.length d],.int .i64 a] w fun e l=>Below w.heap.size w l ∧
   ((iC ⟨aA xs, b⟩ xs.length a ≠ 0 ∧ e = .returned (.tuple #[.slice none 0 0, .int .i64 (iC ⟨aA xs, b⟩ xs.length a)])) ∨
    (iC ⟨aA xs,b⟩ xs.length a=0∧0≤a∧a < (xs.length:Int)∧∃ g c,e=.returned (.tuple #[.slice (some ⟨g,0,none⟩) (zJ (cZ (aA xs)) (xs.length+1) a).length c,.int .i64 0])∧w.heap.size≤g∧∀ (j k:Nat),(zJ (cZ (aA xs)) (xs.length+1) a).reverse[j]? = some k→l.cell? ⟨g,j,none⟩=some (.int .i64 (k:Int)))):=by
 by_cases i:dN ⟨aA xs,b⟩=0
 ·obtain⟨E,F,out,x⟩:=iF i;have t:=Cu E;simp only [jJ] at t x
  have n:uQ (aA xs) out (aA xs).length:=by rw [jJ];exact x
  cases h:Mist.within a 0 ((xs.length:Int) - 1)
  ·have m:iC ⟨aA xs,b⟩ xs.length a=7:=by unfold iC;rw [if_neg (by simpa using i),if_pos h]
   rw [m];refine (Dm A B xs.length b.length c d a 7 w (by decide) (fun W f=>I_ A B c d xs b a W (r.below f) q (o W f) i (by omega) h)).mono ?_;rintro e l ⟨rfl,f⟩;exact⟨f,.inl ⟨by decide,rfl⟩⟩
  ·have m:iC ⟨aA xs,b⟩ xs.length a=0:=by unfold iC;rw [if_neg (by simpa using i),if_neg (by rw [h];decide)]
   have D:0≤a∧a≤(xs.length:Int) - 1:=by simpa [Mist.within] using h
   obtain⟨y,rfl⟩:∃ k:Nat,a=(k:Int):=⟨a.toNat,by omega⟩;have v:=kX n;obtain⟨C,u⟩:=nL v;rw [jJ] at u
   rw [m];refine (P8 A B c d xs.length b (cZ (aA xs)) y w C u (by omega) (by omega) (fun W f=>(PZ A B c d xs b y _ W (r.below f) q (o W f) i (by omega) v (Nb n (by rw [jJ];omega)) h).mono ?_)).mono ?_
   ·rintro e l ⟨h1,G,S,h2,h3,_⟩;exact⟨h1,G,S,h2,h3⟩
   ·rintro e l ⟨h1,g,c2,h2,h3,h4⟩;exact⟨h1,.inr ⟨rfl,by omega,by omega,g,c2,h2,h3,h4⟩⟩
 ·have m:iC ⟨aA xs,b⟩ xs.length a=dN ⟨aA xs,b⟩:=by unfold iC;rw [if_pos i]
  rw [m];refine (Dm A B xs.length b.length c d a _ w i (fun W f=>KY A B c d xs b a W (r.below f) q (o W f) i)).mono ?_;rintro e l ⟨rfl,f⟩;exact⟨f,.inl ⟨i,rfl⟩⟩
theorem cut_any (A B:Option Addr)(c d:Nat)(xs:List NV)(a:List Int)(item:Int)(w:World)(r:mq w A B xs a)(u:xO (aA xs))(t:Env w)(m:xs.length≤c) :
  Calls Tryz.prog 24 #[.agg #[.slice A xs.length c,.slice B a.length d],.int .i64 item] w fun e n=>Below w.heap.size w n ∧
   ((iC ⟨aA xs, a⟩ a.length item ≠ 0 ∧ e = .returned (.tuple #[.agg #[.slice none 0 0, .slice none 0 0], .int .i64 (iC ⟨aA xs, a⟩ a.length item)])) ∨
    (iC ⟨aA xs,a⟩ a.length item=0∧∃ (q la:Nat) (out:List Int),item=(q:Int)∧a[q]? = some (la:Int)∧la < xs.length∧uQ (aA xs) out xs.length∧∃ g tb nv iv ext,e=.returned (.tuple #[.agg #[nv,iv],.int .i64 0])∧w.heap.size≤g ∧
      JS g n tb nv iv ext (gJ 0 (aA ((xs.drop (la+1 - (out.getD la 0).toNat)).take (out.getD la 0).toNat)))∧aA ext=(aA ((xs.drop (la+1 - (out.getD la 0).toNat)).take (out.getD la 0).toNat)).map (lI (-((la+1 - (out.getD la 0).toNat:Nat):Int))))):=by
 by_cases h:dN ⟨aA xs,a⟩=0
 ·obtain⟨F,C,out,D⟩:=iF h;have y:=Cu F;simp only [jJ] at y D
  have j:uQ (aA xs) out (aA xs).length:=by rw [jJ];exact D
  cases f:Mist.within item 0 ((a.length:Int) - 1)
  ·have l:iC ⟨aA xs,a⟩ a.length item=7:=by unfold iC;rw [if_neg (by simpa using h),if_pos f]
   rw [l];refine (Zj A B c d xs a item w r u t h (by omega) f).mono ?_;rintro e n ⟨rfl,x⟩;exact⟨x,.inl ⟨by decide,rfl⟩⟩
  ·have l:iC ⟨aA xs,a⟩ a.length item=0:=by unfold iC;rw [if_neg (by simpa using h),if_neg (by rw [f];decide)]
   have E:0≤item∧item≤(a.length:Int) - 1:=by simpa [Mist.within] using f
   obtain⟨q,rfl⟩:∃ k:Nat,item=(k:Int):=⟨item.toNat,by omega⟩;obtain⟨v,hv⟩:∃ v,a[q]? = some v:=⟨_,aaD (by omega)⟩;obtain⟨la,rfl,i⟩:=Um C hv;simp only [jJ] at i
   obtain⟨b,o,rfl,_⟩:=r.nodes (by omega);rw [l];refine (cut_ok b o B c d xs a q la _ w r u t h (by omega) (by omega) (kX j) (Nb j (by rw [jJ];omega)) m hv i (szPos j (by rw [jJ];omega))).mono ?_;rintro e n ⟨h1,g,tb,nv,iv,ext,h2,h3,h4,h5⟩;exact⟨h1,.inr ⟨rfl,q,la,out,rfl,hv,i,D,g,tb,nv,iv,ext,h2,h3,h4,h5⟩⟩
 ·have l:iC ⟨aA xs,a⟩ a.length item=dN ⟨aA xs,a⟩:=by unfold iC;rw [if_pos h]
  rw [l];refine (cut_bad A B c d xs a item w r u t h).mono ?_;rintro e n ⟨rfl,x⟩;exact⟨x,.inl ⟨h,rfl⟩⟩
theorem PW {xs c:List Int}{k:Nat}(h:xs.take k=c.take k)(a:xs.length≤k)(b:c.length≤k):xs=c:=by rwa [aaN a,aaN b] at h
theorem Z7 (A B:Option Addr)(n c d:Nat)(xs g:List Int)(w:World)(T:xs.length=n)(hy:g.length=n)(S:n≤1000000)(H:IntsIn w A xs)(I:IntsIn w B g) :
  Calls Tryz.prog 44 #[.slice A n c,.slice B n d] w fun e N=>e=.returned (.bool (decide (xs=g)))∧Below w.heap.size w N:=by
 have E:=O H;have F:=O I;have h0:((n:Int) != (n:Int))=false:=by simp
 go_in
 go_wp2_with fail;go_loopw [5] (fun i wr=>∃ k:Nat,k≤n∧i=.int .i64 k∧Hid (Below w.heap.size w wr)∧Hid (xs.take k=g.take k)) (fun j _=>n - (intOf j).toNat)
 case atStart=>exact⟨0,aaL _,rfl,O (Below.refl _ _),O rfl⟩
 case round =>
  obtain⟨k,R,rfl,h,D⟩:=hrel;by_cases J:k < n
  ·obtain⟨b1,L,rfl,u,m⟩:=E.o.ex (by omega);obtain⟨b2,M,rfl,v,q⟩:=F.o.ex (by omega);have r:=O (aaD (l:=xs) (i:=k) (by omega));have t:=O (aaD (l:=g) (i:=k) (by omega));obtain⟨x,b⟩:∃ x,x=xs[k]'(by omega):=⟨_,rfl⟩;obtain⟨y,f⟩:∃ y,y=g[k]'(by omega):=⟨_,rfl⟩;rw [← b] at r
   rw [← f] at t
   have P:=(h.o.cell (p:=⟨b1,L+k,none⟩) (by exact u)).trans (m k x r.o);have Q:=(h.o.cell (p:=⟨b2,M+k,none⟩) (by exact v)).trans (q k y t.o);have U:=O b;have G:=O f;clear m q b f;by_cases a:x=y
   ·have K:(x != y)=false:=by simp [a]
    go_wp2_with fail;go_quiet (fail)
    go_wp2_with fail;exact⟨⟨k+1,by omega,by go_num,O (gU h.o _),O (by rw [List.take_add_one,List.take_add_one,D.o,r.o,t.o,a])⟩,by simp [intOf];omega⟩
   ·have K:(x != y)=true:=by simp [a]
    go_wp2_with fail;go_quiet (fail)
    go_wp2_with fail;go_ret;have C:xs ≠ g:=fun e=>a (by have h1:=r.o;rw [e,t.o] at h1;exact (aaP h1).symm)
    exact⟨by rw [aaV C];rfl,gU h.o _⟩
  ·go_wp2_with fail;go_ret;exact⟨by rw [aaU (PW D.o (by omega) (by omega))];rfl,h.o⟩
end Go.Proofs.YthepmkjggfijoaaGreatDoor
