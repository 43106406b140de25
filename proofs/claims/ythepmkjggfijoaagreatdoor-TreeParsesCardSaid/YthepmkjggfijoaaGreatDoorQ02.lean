/-
  A part of the proof.
-/
import Derived.Test.YthepmkjggfijoaaGreatDoorSA
import Derived.Deep.QuietTactic
import Derived.BigQuiet
import Derived.Deep.RegionLaw
import Derived.Deep.AppendLies
import Derived.Test.YthepmkjggfijoaaGreatDoorS08
import Derived.Test.YthepmkjggfijoaaGreatDoorS07
import Derived.Test.YthepmkjggfijoaaGreatDoorQ01
set_option linter.all false
set_option maxRecDepth 100000
set_option maxHeartbeats 2000000
open Go.Lib (hid)
namespace Go.Proofs.YthepmkjggfijoaaGreatDoor
open Go.RowKit Mist
attribute [local go_sem] aj aH aS aB ak
structure QS (g:Nat) (tv:Value) (l:List Tok) (iv:Value) (w:World) (s:RS) (xs:List NV) (nv:Value):Prop where
 blk:aC w g 66 #[tv,.int .i64 s.k,nv,iv,.bool s.bad]
 own:w.ownsRow g 50 5 nv xs.length (iO xs)
 kids:∀ x ∈ xs,cB w x.2 x.1.kids
 toks:EA w g tv l
 ns:aA xs=s.ns
 le:s.k≤l.length
section
variable {g:Nat} {tv:Value} {l:List Tok} {iv:Value} {w w':World} {s:RS} {xs:List NV} {nv:Value}
theorem QS.lt (h:QS g tv l iv w s xs nv):g < w.heap.size:=h.blk.lt
theorem QS.len (h:QS g tv l iv w s xs nv):xs.length=s.ns.length:=by rw [← h.ns,aD]
theorem QS.IL (h:QS g tv l iv w s xs nv):∀ b,nv.ownBlock=some b→g≤b:=fun b hb=>(h.own.lt b hb).1
theorem QS.jf (h:QS g tv l iv w s xs nv):∀ b,nv.ownBlock=some b→b < w.heap.size:=fun b hb=>(h.own.lt b hb).2
theorem QS.low (h:QS g tv l iv w s xs nv){row:Option Nat}(m:Mv g nv.ownBlock w row w'):Below g w w':=m.below h.lt (aaJ _) h.IL
theorem QS.l6 (h:QS g tv l iv w s xs nv){row:Option Nat}(m:Mv g nv.ownBlock w row w'){v:Value}{ks:List Int}(hk:cB w v ks):cB w' v ks :=
 m.row hk (aT hk h.blk (by decide)) (iE hk h.own (by decide))
theorem QS.below (h:QS g tv l iv w s xs nv)(hb:Below w.heap.size w w'):QS g tv l iv w' s xs nv :=
 ⟨h.blk.below hb h.lt,own_below h.own hb,fun x hx=>own_below (h.kids x hx) hb,h.toks.below (hb.mono (aaK h.lt)),h.ns,h.le⟩
theorem QS.alloc (h:QS g tv l iv w s xs nv)(o:Obj):QS g tv l iv (w.alloc o) s xs nv:=h.below ((Below.refl _ _).alloc (aaJ _) o)
theorem QS.drew (h:QS g tv l iv w s xs nv):QS g tv l iv w.drew s xs nv:=h.below (Below.drew (Below.refl _ _))
theorem QS.set1 (h:QS g tv l iv w s xs nv)(k:Nat)(hk:k≤l.length):QS g tv l iv (w.setCell ⟨g,1,none⟩ (.int .i64 (k:Int))) ⟨k,s.bad,s.ns⟩ xs nv :=
 have m:Mv g nv.ownBlock w nv.ownBlock _:=Mv.d_ h.blk 1 (.int .i64 (k:Int))
 ⟨(by have:=h.blk.d_ 1 (.int .i64 (k:Int));simpa using this),ownsRow_setCell_other h.own (aT h.own h.blk (by decide)) _,fun x hx=>h.l6 m (h.kids x hx),h.toks.below (h.low m),h.ns,hk⟩
theorem QS.dR (h:QS g tv l iv w s xs nv)(hk:s.k < l.length):QS g tv l iv (w.setCell ⟨g,1,none⟩ (.int .i64 ((s.k:Int)+1))) s.dR xs nv:=h.set1 (s.k+1) hk
theorem QS.fail (h:QS g tv l iv w s xs nv):QS g tv l iv (w.setCell ⟨g,4,none⟩ (.bool true)) s.fail xs nv :=
 have m:Mv g nv.ownBlock w nv.ownBlock _:=Mv.d_ h.blk 4 (.bool true)
 ⟨(show aC _ g _ #[tv,.int .i64 (s.k:Int),nv,iv,.bool true] from by have:=h.blk.d_ 4 (.bool true);simpa using this),ownsRow_setCell_other h.own (aT h.own h.blk (by decide)) _,fun x hx=>h.l6 m (h.kids x hx),h.toks.below (h.low m),h.ns,h.le⟩
theorem QS.mv1 (h:QS g tv l iv w s xs nv)(v:Value):Mv g nv.ownBlock w nv.ownBlock (w.setCell ⟨g,1,none⟩ v):=Mv.d_ h.blk 1 v
theorem QS.mv4 (h:QS g tv l iv w s xs nv)(v:Value):Mv g nv.ownBlock w nv.ownBlock (w.setCell ⟨g,4,none⟩ v):=Mv.d_ h.blk 4 v
theorem QS.add (h:QS g tv l iv w s xs nv){w1:World}{eO:Value}{x:NV}(hg:w.grownBy w1 nv.ownBlock)(hown:w1.ownsRow g 50 5 eO (xs.length+1) (iO xs ++ fC x))(hk:cB w x.2 x.1.kids):QS g tv l iv (w1.setCell ⟨g,2,none⟩ eO) (s.put x.1).2 (xs ++ [x]) eO:=by
 have hb:=h.blk.grown hg (fun e=>aT h.own h.blk (by decide) e.symm)
 have keep:∀ {v:Value} {cs:List Int},cB w v cs→cB (w1.setCell ⟨g,2,none⟩ eO) v cs:=fun hk =>
  ownsRow_setCell_other (hk.kept hg (iE hk h.own (by decide))) (aT (hk.kept hg (iE hk h.own (by decide))) hb (by decide)) _
 have hl:Below g w (w1.setCell ⟨g,2,none⟩ eO):=dx ((Below.refl _ _).grown hg (aaK h.lt) h.IL) (aaJ _)
 refine⟨?_,?_,fun y hy=>?_,h.toks.below hl,?_,h.le⟩
 ·show aC _ g _ #[tv,.int .i64 (s.k:Int),eO,iv,.bool s.bad]
  have:=hb.d_ 2 eO;simpa using this
 ·rw [aaO,rJ];have e:iO [x]=fC x:=by simp [iO]
  rw [e];exact ownsRow_setCell_other hown (aT hown hb (by decide)) _
 ·rcases List.mem_append.1 hy with hy | hy
  ·exact keep (h.kids y hy)
  ·rw [List.mem_singleton.1 hy];exact keep hk
 ·rw [nY,h.ns];rfl
theorem QS.new (h:QS g tv l iv w s xs nv){b:Nat}(hb:w.heap.size≤b):Far g nv xs b :=
 ⟨aaW h.lt hb,fun e=>by have:=h.jf b e;omega,fun x hx e=>by have:=(World.ownsRow.lt (h.kids x hx) b e).2;omega⟩
theorem QS.far (h:QS g tv l iv w s xs nv){b:Nat}(f:Far g nv xs b)(i:Nat)(u:Value):QS g tv l iv (w.setCell ⟨b,i,none⟩ u) s xs nv :=
 ⟨h.blk.far (p:=⟨b,i,none⟩) (Nat.ne_of_lt f.lt) u,ownsRow_setCell_other h.own f.row u,fun x hx=>ownsRow_setCell_other (h.kids x hx) (f.kids x hx) u,h.toks.below (dx (Below.refl _ _) (aaK f.lt)),h.ns,h.le⟩
theorem Sz (h:l.length≤s.k):s.place l=0:=by unfold RS.place;rw [nS l s.k h]
theorem V8 (h:l.length≤s.k):s.next l=[]:=by
 unfold RS.next;split
 ·rfl
 ·unfold tx;rw [nS l s.k h]
theorem VY (h:l.length≤s.k):s.kind l=0:=by
 unfold RS.kind;split
 ·rfl
 ·rw [nS l s.k h]
end
theorem bM (g:Nat)(tv:Value)(l:List Tok)(iv:Value)(w:World)(s:RS)(xs:List NV)(nv:Value)(h:QS g tv l iv w s xs nv)(hl:l.length≤1000) :
  Calls Tryz.prog 147 #[.pointer (some ⟨g,0,none⟩)] w fun e w'=>e=.returned (.int .i64 (s.place l))∧Below w.heap.size w w':=by
 have c0:=h.blk.cell 0;have c1:=h.blk.cell 1;have hlt:=h.lt;have hle:=h.le;obtain⟨A,c,rfl,hlc,hr⟩:=h.toks;have HT:=hid (show nC w (.slice A l.length c) l from ⟨A,c,rfl,hlc,hr.more (aaK hlt)⟩);clear hr h;obtain⟨k,hk⟩:∃ k,k=s.k:=⟨_,rfl⟩;rw [← hk] at c1 hle
 by_cases hkl:k < l.length
 ·obtain⟨b,o,rfl,hr⟩:=HT.out.rowA (by omega);have t2:=hr.at_ k hkl;have HP:=hid (show s.place l=(tg l k).at_ by rw [hk];rfl);clear hr hk;have q0:decide ((k:Int) < (l.length:Int))=true:=aaU (by omega);have q0':decide (k < l.length)=true:=aaU (by omega);have q1:(0:Int)≤(k:Int):=by omega
  have q2:(k:Int) < (l.length:Int):=by omega
  go_in
  go_wp2_with fail;go_quiet (fail)
  go_wp2_with fail;go_quiet (fail)
  go_wp2_with fail;go_ret
  refine⟨by rw [HP.out];first | done | rfl,?_⟩
  repeat (first | exact Below.refl _ _ | refine Below.drew ?_ | refine gU ?_ _)
 ·have HP:=hid (Sz (l:=l) (s:=s) (by omega));have q0:decide ((k:Int) < (l.length:Int))=false:=aaV (by omega);have q0':decide (k < l.length)=false:=aaV (by omega);go_in
  go_wp2_with fail;go_quiet (fail)
  go_wp2_with fail;go_ret
  refine⟨by rw [HP.out];first | done | rfl,?_⟩
  repeat (first | exact Below.refl _ _ | refine Below.drew ?_ | refine gU ?_ _)
theorem aX (g:Nat)(tv:Value)(l:List Tok)(iv:Value)(w:World)(s:RS)(xs:List NV)(nv:Value)(h:QS g tv l iv w s xs nv)(hl:l.length≤1000) :
  Calls Tryz.prog 146 #[.pointer (some ⟨g,0,none⟩)] w fun e w'=>e=.returned (.string (aM (s.next l)))∧Below w.heap.size w w':=by
 have c0:=h.blk.cell 0;have c1:=h.blk.cell 1;have c4:=h.blk.cell 4;have hlt:=h.lt;have hle:=h.le;obtain⟨A,c,rfl,hlc,hr⟩:=h.toks;have HT:=hid (show nC w (.slice A l.length c) l from ⟨A,c,rfl,hlc,hr.more (aaK hlt)⟩);clear hr h;obtain⟨k,hk⟩:∃ k,k=s.k:=⟨_,rfl⟩;rw [← hk] at c1 hle
 cases hbad:s.bad
 case true =>
  have HP:=hid (show s.next l=[] by unfold RS.next;rw [hbad];rfl);rw [hbad] at c4
  clear hbad hk;go_in
  go_wp2_with fail;go_quiet (fail)
  go_wp2_with fail;go_ret
  refine⟨by rw [HP.out];first | done | rfl,?_⟩
  repeat (first | exact Below.refl _ _ | refine Below.drew ?_ | refine gU ?_ _)
 rw [hbad] at c4
 by_cases hkl:k < l.length
 ·obtain⟨b,o,rfl,hr⟩:=HT.out.rowA (by omega);have t2:=hr.text k hkl;have HP:=hid (show s.next l=(tg l k).text by unfold RS.next;rw [hbad,hk];rfl);clear hr hk hbad;have q0:decide ((l.length:Int)≤(k:Int))=false:=aaV (by omega);have q0':decide (l.length≤k)=false:=aaV (by omega);have q1:(0:Int)≤(k:Int):=by omega
  have q2:(k:Int) < (l.length:Int):=by omega
  go_in
  go_wp2_with fail;go_quiet (fail)
  go_wp2_with fail;go_quiet (fail)
  go_wp2_with fail;go_ret
  refine⟨by rw [HP.out];first | done | rfl,?_⟩
  repeat (first | exact Below.refl _ _ | refine Below.drew ?_ | refine gU ?_ _)
 ·have HP:=hid (V8 (l:=l) (s:=s) (by omega));have q0:decide ((l.length:Int)≤(k:Int))=true:=aaU (by omega);have q0':decide (l.length≤k)=true:=aaU (by omega);clear hbad hk;go_in
  go_wp2_with fail;go_quiet (fail)
  go_wp2_with fail;go_ret
  refine⟨by rw [HP.out];first | done | rfl,?_⟩
  repeat (first | exact Below.refl _ _ | refine Below.drew ?_ | refine gU ?_ _)
theorem iQ (g:Nat)(tv:Value)(l:List Tok)(iv:Value)(w:World)(s:RS)(xs:List NV)(nv:Value)(h:QS g tv l iv w s xs nv)(hl:l.length≤1000) :
  Calls Tryz.prog 148 #[.pointer (some ⟨g,0,none⟩)] w fun e w'=>e=.returned (.int .u8 (s.kind l))∧Below w.heap.size w w':=by
 have c0:=h.blk.cell 0;have c1:=h.blk.cell 1;have c4:=h.blk.cell 4;have hlt:=h.lt;have hle:=h.le;obtain⟨A,c,rfl,hlc,hr⟩:=h.toks;have HT:=hid (show nC w (.slice A l.length c) l from ⟨A,c,rfl,hlc,hr.more (aaK hlt)⟩);clear hr h;obtain⟨k,hk⟩:∃ k,k=s.k:=⟨_,rfl⟩;rw [← hk] at c1 hle
 cases hbad:s.bad
 case true =>
  have HP:=hid (show s.kind l=0 by unfold RS.kind;rw [hbad];rfl);rw [hbad] at c4
  clear hbad hk;go_in
  go_wp2_with fail;go_quiet (fail)
  go_wp2_with fail;go_ret
  refine⟨by rw [HP.out];first | done | rfl,?_⟩
  repeat (first | exact Below.refl _ _ | refine Below.drew ?_ | refine gU ?_ _)
 rw [hbad] at c4
 by_cases hkl:k < l.length
 ·obtain⟨b,o,rfl,hr⟩:=HT.out.rowA (by omega);have t2:=hr.kind k hkl;have HP:=hid (show s.kind l=(tg l k).kind by unfold RS.kind;rw [hbad,hk];rfl);clear hr hk hbad;have q0:decide ((l.length:Int)≤(k:Int))=false:=aaV (by omega);have q0':decide (l.length≤k)=false:=aaV (by omega);have q1:(0:Int)≤(k:Int):=by omega
  have q2:(k:Int) < (l.length:Int):=by omega
  go_in
  go_wp2_with fail;go_quiet (fail)
  go_wp2_with fail;go_quiet (fail)
  go_wp2_with fail;go_ret
  refine⟨by rw [HP.out];first | done | rfl,?_⟩
  repeat (first | exact Below.refl _ _ | refine Below.drew ?_ | refine gU ?_ _)
 ·have HP:=hid (VY (l:=l) (s:=s) (by omega));have q0:decide ((l.length:Int)≤(k:Int))=true:=aaU (by omega);have q0':decide (l.length≤k)=true:=aaU (by omega);clear hbad hk;go_in
  go_wp2_with fail;go_quiet (fail)
  go_wp2_with fail;go_ret
  refine⟨by rw [HP.out];first | done | rfl,?_⟩
  repeat (first | exact Below.refl _ _ | refine Below.drew ?_ | refine gU ?_ _)
theorem fu (g:Nat)(tv:Value)(l:List Tok)(iv:Value)(w:World)(s:RS)(xs:List NV)(nv:Value)(x:Bs)(hx:x ≠ [])(h:QS g tv l iv w s xs nv)(hl:l.length≤1000) :
  Calls Tryz.prog 102 #[.pointer (some ⟨g,0,none⟩),.string (aM x)] w fun e w'=>e=.returned (.tuple #[])∧QS g tv l iv w' (s.take l x) xs nv∧Mv g nv.ownBlock w nv.ownBlock w':=by
 have H:=hid h;clear h;go_in
 go_wp2_with fail;refine (aX g tv l iv _ s xs nv H.out hl).mono ?_;rintro e w1⟨rfl,hb⟩;have H1:=hid (H.out.below hb);have HM:=hid (Mv.of_below (g:=g) (r0:=nv.ownBlock) hb);clear hb;have c1:=H1.out.blk.cell 1;have f1:=H1.out.blk.frozen 1;have c4:=H1.out.blk.cell 4;have f4:=H1.out.blk.frozen 4;have hle:=H1.out.le;by_cases e:s.next l=x
 ·have hk:=(dF (l:=l) (s:=s) (by rw [e];exact hx)).2;have HS:=hid (show s.take l x=s.dR by unfold RS.take;rw [if_pos e]);have e1:(s.next l == x)=true:=by rw [e];simp
  have HA:=hid (H1.out.dR hk);have HMA:=hid (HM.out.trans (H1.out.mv1 (.int .i64 ((s.k:Int)+1))));obtain⟨k,hkk⟩:∃ k,k=s.k:=⟨_,rfl⟩;rw [← hkk] at c1 hle hk HA HMA
  obtain⟨y,hy⟩:∃ y,y=s.next l:=⟨_,rfl⟩;rw [← hy] at e1 ⊢
  clear e hy hkk;go_wp2_with fail;go_end0
  exact⟨rfl,by rw [HS.out];exact HA.out,HMA.out⟩
 ·have HS:=hid (show s.take l x=s.fail by unfold RS.take;rw [if_neg e]);have e1:(s.next l == x)=false:=by simpa using e
  have HA:=hid H1.out.fail;have HMA:=hid (HM.out.trans (H1.out.mv4 (.bool true)));obtain⟨y,hy⟩:∃ y,y=s.next l:=⟨_,rfl⟩;rw [← hy] at e1 ⊢
  clear e hy;go_wp2_with fail;refine bodyPost_ret (v:=.tuple #[]) (by simp [results,Tryz.f102,go_sem]) rfl ?_;exact⟨rfl,by rw [HS.out];exact HA.out,HMA.out⟩
theorem iR (g:Nat)(tv:Value)(l:List Tok)(iv:Value)(w:World)(s:RS)(xs:List NV)(nv:Value)(c:Nat)(hc:c ≠ 0)(hc2:c < 256)(h:QS g tv l iv w s xs nv)(hl:l.length≤1000) :
  Calls Tryz.prog 150 #[.pointer (some ⟨g,0,none⟩),.int .u8 c] w fun e w'=>e=.returned (.string (aM (s.word l c).1))∧QS g tv l iv w' (s.word l c).2 xs nv∧Mv g nv.ownBlock w nv.ownBlock w':=by
 have H:=hid h;clear h;go_in
 go_wp2_with fail;refine (aX g tv l iv _ s xs nv H.out hl).mono ?_;rintro e w0⟨rfl,hb⟩;have H0:=hid (H.out.below hb);have Yx:=hid (Mv.of_below (g:=g) (r0:=nv.ownBlock) hb);clear hb;go_wp2_with fail;refine (iQ g tv l iv _ s xs nv H0.out hl).mono ?_;rintro e w1⟨rfl,hb⟩;have H1:=hid (H0.out.below hb);have HM:=hid (Yx.out.trans (Mv.of_below (g:=g) (r0:=nv.ownBlock) hb));clear hb H0 Yx;have c1:=H1.out.blk.cell 1;have f1:=H1.out.blk.frozen 1;have c4:=H1.out.blk.cell 4;have f4:=H1.out.blk.frozen 4;have hle:=H1.out.le;by_cases e:s.kind l=c
 ·have hk:=(Da (l:=l) (s:=s) (by rw [e];exact hc)).2;have HS:=hid (show s.word l c=(s.next l,s.dR) by unfold RS.word;rw [if_pos e]);have e1:(s.kind l == c)=true:=by rw [e];simp
  have e1':((s.kind l:Int) == (c:Int))=true:=by rw [e];simp
  have HA:=hid (H1.out.dR hk);have HMA:=hid (HM.out.trans (H1.out.mv1 (.int .i64 ((s.k:Int)+1))));obtain⟨k,hkk⟩:∃ k,k=s.k:=⟨_,rfl⟩;rw [← hkk] at c1 hle hk HA HMA
  obtain⟨q,hq⟩:∃ q,q=s.kind l:=⟨_,rfl⟩;rw [← hq] at e1 e1' ⊢
  clear e hq hkk;go_wp2_with fail;go_ret;exact⟨by rw [HS.out];first | done | rfl,by rw [HS.out];exact HA.out,HMA.out⟩
 ·have HS:=hid (show s.word l c=([],s.fail) by unfold RS.word;rw [if_neg e]);have e1:(s.kind l == c)=false:=by simpa using e
  have e1':((s.kind l:Int) == (c:Int))=false:=by simp;omega
  have HA:=hid H1.out.fail;have HMA:=hid (HM.out.trans (H1.out.mv4 (.bool true)));obtain⟨q,hq⟩:∃ q,q=s.kind l:=⟨_,rfl⟩;rw [← hq] at e1 e1' ⊢
  clear e hq;go_wp2_with fail;go_ret;exact⟨by rw [HS.out];first | done | rfl,by rw [HS.out];exact HA.out,HMA.out⟩
theorem dZ (g:Nat)(tv:Value)(l:List Tok)(iv:Value)(w:World)(s:RS)(xs:List NV)(nv:Value)(K:Nat)(p:Int)(x:Bs)(N:Int)(kv:Value)(kids:List Int)(h:QS g tv l iv w s xs nv)(Mi:cB w kv kids)(hn:s.ns.length≤1000000) :
  Calls Tryz.prog 156 #[.pointer (some ⟨g,0,none⟩),.agg #[.int .u8 K,.string (aM x),.int .i64 N,kv,.int .i64 p]] w fun e w'=>e=.returned (.int .i64 (s.ns.length:Int))∧∃ eO,QS g tv l iv w' (s.put ⟨K,x,N,kids,p⟩).2 (xs ++ [(⟨K,x,N,kids,p⟩,kv)]) eO∧Mv g nv.ownBlock w eO.ownBlock w':=by
 obtain⟨A,c,rfl⟩:=dh Mi;obtain⟨i0,hi0,hz0,hz1,hz2⟩:=info_parts rW;have hxl:=h.len;have H:=hid h;clear h;have HK:=hid Mi;clear Mi;have hlt:=H.out.lt;have c2:=H.out.blk.cell 2;have f2:=H.out.blk.frozen 2;rw [← hxl] at hn ⊢
 clear hxl;obtain⟨kn,hkn⟩:∃ kn,kn=kids.length:=⟨_,rfl⟩;rw [← hkn];have HKN:=hid hkn;clear hkn;have hne:¬ w.heap.size=g:=by omega
 go_in
 go_wp2_with fail
 go_region_law ((refine step_append_lies _ (by rfl) _ _ _ (by rfl) g 50 i0 _ 5 64 Tryz.underlying23 hi0 hz0 hz1 hz2 rfl (by omega) _ xs.length (iO xs) (by rfl) (((H.out.own.alloc _).alloc _).drew)
                  ⟨w.heap.size+1,0,none⟩ 1 1 (fC (⟨K,x,N,kids,p⟩,.slice A kn c)) (by rfl) (by rfl) (World.news_of_block (cs:=#[.int .u8 K,.string (aM x),.int .i64 N,.slice A kn c,.int .i64 p]) (t:=50) (fr:=(0,0)) (yZ w _ _)) (by intro u hu;simp [fC] at hu;rcases hu with rfl | rfl | rfl | rfl | rfl <;> rfl)
                  (by omega) (by simp only [maxLen];omega) (by omega) (by simp;omega) (w.heap.size+2) (by simp) ?_;intro gg cap w1 hown1 hgrow hat hlt';have kk:=((H.out.alloc (.cells #[.int .u8 K,.string (aM x),.int .i64 N,.slice A kn c,.int .i64 p] 50)).alloc (.cells #[.int .u8 K,.string (aM x),.int .i64 N,.slice A kn c,.int .i64 p] 50)).drew.blk.grown hgrow (fun e=>aT H.out.own H.out.blk (by decide) e.symm);have c2':=kk.cell 2;have f2':=kk.frozen 2;clear kk))
 all_goals
  have HGR:=hid hgrow;clear hgrow;have HOW:=hid hown1;clear hown1;have HAT:=hid hat;clear hat;go_wp2;go_ret
  refine⟨by (first | rfl|(congr 2;omega)),_,QS.add ((H.out.alloc (.cells #[.int .u8 K,.string (aM x),.int .i64 N,.slice A kn c,.int .i64 p] 50)).alloc (.cells #[.int .u8 K,.string (aM x),.int .i64 N,.slice A kn c,.int .i64 p] 50)).drew HGR.out HOW.out (HKN.out ▸ own_below HK.out (Below.drew (ah (ah (Below.refl _ _) (aaJ _)) (by simp)))),?_⟩
  refine Mv.gset ?_;refine Mv.trans (r1:=nv.ownBlock) (Mv.dD (Mv.dD Mv.refl)).Zp (Mv.grown HGR.out ?_);rcases HAT.out with e | e
  ·left;rw [e];rfl
  ·right;rw [e];simp [Value.ownBlock]
theorem lu (w:World)(ks:List Int)(h:ks.length≤1000:=by first|(simp;done)|(simp;omega)):cB (w.alloc (.cells (intCells ks).toArray 3)) (.slice (some ⟨w.heap.size,0,none⟩) ks.length ks.length) ks:=by
 have:=World.ownsRow_lit (base:=0) (e:=3) (size:=1) w (intCells ks).toArray ks.length (aaL _) (by simp only [maxLen];omega) (by simp [intCells])
 unfold cB
 simpa using this
theorem QS.vV {g:Nat}{tv:Value}{l:List Tok}{iv:Value}{w:World}{s:RS}{xs:List NV}{nv:Value}(h:QS g tv l iv w s xs nv):Mv g nv.ownBlock w nv.ownBlock (w.setCell ⟨g,1,none⟩ (.int .i64 ((s.k:Int)+1))):=h.mv1 _
structure Mw (g:Nat) (w:World) (xs:List NV) (nv:Value) (w':World) (xs':List NV) (eO:Value):Prop where
 mv:Mv g nv.ownBlock w eO.ownBlock w'
 new:∃ ys,xs'=xs ++ ys∧∀ y ∈ ys,∀ b,y.2.ownBlock=some b→w.heap.size≤b
section
variable {g:Nat} {w w1 w2:World} {xs xs1 xs2:List NV} {nv gW Qu:Value}
theorem Mw.refl:Mw g w xs nv w xs nv:=⟨Mv.refl,[],by simp,fun y hy=>by cases hy⟩
theorem Mw.size (h:Mw g w xs nv w1 xs1 gW):w.heap.size≤w1.heap.size:=h.mv.size
theorem Mw.trans (h:Mw g w xs nv w1 xs1 gW)(k:Mw g w1 xs1 gW w2 xs2 Qu):Mw g w xs nv w2 xs2 Qu:=by
 obtain⟨ys,e,hy⟩:=h.new;obtain⟨zs,e2,hz⟩:=k.new
 refine⟨h.mv.trans k.mv,ys ++ zs,by rw [e2,e,List.append_assoc],fun y hm b hb=>?_⟩
 rcases List.mem_append.1 hm with hm | hm
 ·exact hy y hm b hb
 ·exact Nat.le_trans h.size (hz y hm b hb)
theorem Mw.kJ (h:Mw g w xs nv w1 xs1 gW)(k:Mv g gW.ownBlock w1 Qu.ownBlock w2):Mw g w xs nv w2 xs1 Qu:=⟨h.mv.trans k,h.new⟩
theorem Mw.gX {tv iv:Value}{l:List Tok}{s:RS}{x:NV}(h:Mw g w xs nv w1 xs1 gW)(_q:QS g tv l iv w2 s (xs1 ++ [x]) Qu)(k:Mv g gW.ownBlock w1 Qu.ownBlock w2)(hx:∀ b,x.2.ownBlock=some b→w.heap.size≤b):Mw g w xs nv w2 (xs1 ++ [x]) Qu:=by
 obtain⟨ys,e,hy⟩:=h.new
 refine⟨h.mv.trans k,ys ++ [x],by rw [e,List.append_assoc],fun y hm b hb=>?_⟩
 rcases List.mem_append.1 hm with hm | hm
 ·exact hy y hm b hb
 ·rw [List.mem_singleton.1 hm] at hb;exact hx b hb
theorem Mw.aL (h:Mw g w xs nv w1 xs1 gW)(hb:Below w1.heap.size w1 w2):Mw g w xs nv w2 xs1 gW:=⟨h.mv.aL hb,h.new⟩
theorem Mw.dD {o:Obj}(h:Mw g w xs nv w1 xs1 gW):Mw g w xs nv (w1.alloc o) xs1 gW:=⟨h.mv.dD,h.new⟩
theorem Mw.kL {b i:Nat}{u:Value}(h:Mw g w xs nv w1 xs1 gW)(hb:w.heap.size≤b):Mw g w xs nv (w1.setCell ⟨b,i,none⟩ u) xs1 gW:=⟨h.mv.kL hb,h.new⟩
theorem Mw.ne (h:Mw g w xs nv w1 xs1 gW){b:Nat}(hb:b < w.heap.size)(hr:some b ≠ nv.ownBlock):some b ≠ gW.ownBlock:=h.mv.ne hb hr
theorem Mw.blk {b:Nat}{T:TypeId}{cs:Array Value}(h:Mw g w xs nv w1 xs1 gW)(hb:aC w b T cs)(hg:b ≠ g)(hr:some b ≠ nv.ownBlock):aC w1 b T cs:=h.mv.blk hb hg hr
theorem mM {k n c:Nat}(h:w.heap.size≤k):∀ b,(Value.slice (some ⟨k,0,none⟩) n c).ownBlock=some b→w.heap.size≤b:=fun b hb=>by
 simp [Value.ownBlock] at hb;omega
theorem lW:∀ b,(Value.slice none 0 0).ownBlock=some b→w.heap.size≤b:=fun b hb=>by simp [Value.ownBlock] at hb
end
def QC (F:Nat)(l:List Tok)(n:Nat)(j:Job):Prop :=
 ∀ (g:Nat) (tv iv:Value) (w:World) (s:RS) (xs:List NV) (nv:Value) (qs:List Int) (s':RS),aK l n j s=some (qs,s')→s'.ns.length≤100000→QS g tv l iv w s xs nv →
  Calls Tryz.prog F #[.pointer (some ⟨g,0,none⟩)] w fun e w'=>e=.returned (.int .i64 (hd qs))∧∃ xs' eO,QS g tv l iv w' s' xs' eO∧Mw g w xs nv w' xs' eO
theorem oq (g:Nat)(tv:Value)(l:List Tok)(iv:Value)(w:World)(s:RS)(xs:List NV)(nv:Value)(hT:∀ t ∈ l,t.text.length≤100000000)(h:QS g tv l iv w s xs nv)(hl:l.length≤1000) :
  Calls Tryz.prog 154 #[.pointer (some ⟨g,0,none⟩)] w fun e w'=>e=.returned (.int .i64 (j_ (s.word l 2).1))∧QS g tv l iv w' (s.word l 2).2 xs nv∧Mv g nv.ownBlock w nv.ownBlock w':=by
 have H:=hid h;clear h
 have HX:=hid (show (s.word l 2).1.length≤100000000 by
  unfold RS.word;split
  ·rename_i e
   have h9:=Da (l:=l) (s:=s) (by rw [e];simp);unfold RS.next;rw [h9.1];exact hT _ (lN l s.k h9.2)
  ·simp)
 clear hT;go_in
 go_wp2_with fail;refine (iR g tv l iv _ s xs nv 2 (by simp) (by simp) H.out hl).mono ?_;rintro e w1⟨rfl,h,m⟩;have H1:=hid h;have M1:=hid m;clear h m;go_wp2_with fail;refine (Pt _ _ HX.out).mono ?_;rintro e w2⟨rfl,hb⟩;go_wp2_with fail;go_ret;exact⟨rfl,H1.out.below hb,M1.out.aL hb⟩
theorem qtwo_or (l:List Tok)(hl:l.length≤1000)(m:Nat)(C:QC 212 l m (.lv .and))(g:Nat)(tv iv:Value)(w:World)(s:RS)(xs:List NV)(nv:Value)(K:Nat)(a:Int)(qs:List Int)(s':RS)(hr:aK l m (.lv .and) s.dR=some (qs,s'))(hn:s'.ns.length≤100000)(hx:s.next l ≠ [])(h:QS g tv l iv w s xs nv) :
  Calls Tryz.prog 213 #[.pointer (some ⟨g,0,none⟩),.int .u8 K,.int .i64 a,.int .i64 3] w fun e w'=>e=.returned (.int .i64 (s'.ns.length:Int))∧∃ xs' eO,QS g tv l iv w' (s'.put ⟨K,[],0,[a,hd qs],s.place l⟩).2 xs' eO∧Mw g w xs nv w' xs' eO:=by
 have H0:=hid h;have M0:=hid (Mw.refl (g:=g) (w:=w) (xs:=xs) (nv:=nv));have HR:=hid hr;have HX:=hid (dF hx).2;have hle:=h.le;clear h hr hx;go_in
 go_wp2_with fail;refine (bM g tv l iv _ _ _ _ H0.out hl).mono ?_;rintro e w1⟨rfl,hb⟩;have H1:=hid (H0.out.below hb);have M1:=hid (M0.out.aL hb);clear hb H0 M0;have hk2:=HX.out;have c1:=H1.out.blk.cell 1;have f1:=H1.out.blk.frozen 1;have H2:=hid (H1.out.dR hk2);have M2:=hid (M1.out.kJ H1.out.vV);clear H1 M1;go_wp2_with fail;clear c1 f1;go_wp2_with fail;refine (C g tv iv _ _ _ _ _ _ HR.out hn H2.out).mono ?_;rintro e w3⟨rfl,Xj,FM,h,m⟩;have H3:=hid h;have M3:=hid (M2.out.trans m);clear h m H2 M2;go_wp2_with fail;refine (dZ g tv l iv _ _ _ _ K _ _ _ _ [a,hd qs] (H3.out.alloc _) (lu _ [a,hd qs]) (by omega)).mono ?_;rintro e w4⟨rfl,yH,h,m⟩;have H4:=hid h;have M4:=hid (M3.out.dD.gX H4.out m (mM M3.out.size));clear h m H3 M3;go_wp2_with fail;go_ret;exact⟨rfl,_,_,H4.out,M4.out⟩
theorem aa6 (l:List Tok)(hl:l.length≤1000)(m:Nat)(C:QC 223 l m (.lv .not))(g:Nat)(tv iv:Value)(w:World)(s:RS)(xs:List NV)(nv:Value)(K:Nat)(a:Int)(qs:List Int)(s':RS)(hr:aK l m (.lv .not) s.dR=some (qs,s'))(hn:s'.ns.length≤100000)(hx:s.next l ≠ [])(h:QS g tv l iv w s xs nv) :
  Calls Tryz.prog 213 #[.pointer (some ⟨g,0,none⟩),.int .u8 K,.int .i64 a,.int .i64 4] w fun e w'=>e=.returned (.int .i64 (s'.ns.length:Int))∧∃ xs' eO,QS g tv l iv w' (s'.put ⟨K,[],0,[a,hd qs],s.place l⟩).2 xs' eO∧Mw g w xs nv w' xs' eO:=by
 have H0:=hid h;have M0:=hid (Mw.refl (g:=g) (w:=w) (xs:=xs) (nv:=nv));have HR:=hid hr;have HX:=hid (dF hx).2;have hle:=h.le;clear h hr hx;go_in
 go_wp2_with fail;refine (bM g tv l iv _ _ _ _ H0.out hl).mono ?_;rintro e w1⟨rfl,hb⟩;have H1:=hid (H0.out.below hb);have M1:=hid (M0.out.aL hb);clear hb H0 M0;have hk2:=HX.out;have c1:=H1.out.blk.cell 1;have f1:=H1.out.blk.frozen 1;have H2:=hid (H1.out.dR hk2);have M2:=hid (M1.out.kJ H1.out.vV);clear H1 M1;go_wp2_with fail;clear c1 f1;go_wp2_with fail;refine (C g tv iv _ _ _ _ _ _ HR.out hn H2.out).mono ?_;rintro e w3⟨rfl,Xj,FM,h,m⟩;have H3:=hid h;have M3:=hid (M2.out.trans m);clear h m H2 M2;go_wp2_with fail;refine (dZ g tv l iv _ _ _ _ K _ _ _ _ [a,hd qs] (H3.out.alloc _) (lu _ [a,hd qs]) (by omega)).mono ?_;rintro e w4⟨rfl,yH,h,m⟩;have H4:=hid h;have M4:=hid (M3.out.dD.gX H4.out m (mM M3.out.size));clear h m H3 M3;go_wp2_with fail;go_ret;exact⟨rfl,_,_,H4.out,M4.out⟩
theorem vG (l:List Tok)(hl:l.length≤1000)(m:Nat)(C:QC 224 l m (.lv .sum))(g:Nat)(tv iv:Value)(w:World)(s:RS)(xs:List NV)(nv:Value)(K:Nat)(a:Int)(qs:List Int)(s':RS)(hr:aK l m (.lv .sum) s.dR=some (qs,s'))(hn:s'.ns.length≤100000)(hx:s.next l ≠ [])(h:QS g tv l iv w s xs nv) :
  Calls Tryz.prog 213 #[.pointer (some ⟨g,0,none⟩),.int .u8 K,.int .i64 a,.int .i64 6] w fun e w'=>e=.returned (.int .i64 (s'.ns.length:Int))∧∃ xs' eO,QS g tv l iv w' (s'.put ⟨K,[],0,[a,hd qs],s.place l⟩).2 xs' eO∧Mw g w xs nv w' xs' eO:=by
 have H0:=hid h;have M0:=hid (Mw.refl (g:=g) (w:=w) (xs:=xs) (nv:=nv));have HR:=hid hr;have HX:=hid (dF hx).2;have hle:=h.le;clear h hr hx;go_in
 go_wp2_with fail;refine (bM g tv l iv _ _ _ _ H0.out hl).mono ?_;rintro e w1⟨rfl,hb⟩;have H1:=hid (H0.out.below hb);have M1:=hid (M0.out.aL hb);clear hb H0 M0;have hk2:=HX.out;have c1:=H1.out.blk.cell 1;have f1:=H1.out.blk.frozen 1;have H2:=hid (H1.out.dR hk2);have M2:=hid (M1.out.kJ H1.out.vV);clear H1 M1;go_wp2_with fail;clear c1 f1;go_wp2_with fail;refine (C g tv iv _ _ _ _ _ _ HR.out hn H2.out).mono ?_;rintro e w3⟨rfl,Xj,FM,h,m⟩;have H3:=hid h;have M3:=hid (M2.out.trans m);clear h m H2 M2;go_wp2_with fail;refine (dZ g tv l iv _ _ _ _ K _ _ _ _ [a,hd qs] (H3.out.alloc _) (lu _ [a,hd qs]) (by omega)).mono ?_;rintro e w4⟨rfl,yH,h,m⟩;have H4:=hid h;have M4:=hid (M3.out.dD.gX H4.out m (mM M3.out.size));clear h m H3 M3;go_wp2_with fail;go_ret;exact⟨rfl,_,_,H4.out,M4.out⟩
theorem O8 (l:List Tok)(hl:l.length≤1000)(m:Nat)(C:QC 225 l m (.lv .term))(g:Nat)(tv iv:Value)(w:World)(s:RS)(xs:List NV)(nv:Value)(K:Nat)(a:Int)(qs:List Int)(s':RS)(hr:aK l m (.lv .term) s.dR=some (qs,s'))(hn:s'.ns.length≤100000)(hx:s.next l ≠ [])(h:QS g tv l iv w s xs nv) :
  Calls Tryz.prog 213 #[.pointer (some ⟨g,0,none⟩),.int .u8 K,.int .i64 a,.int .i64 7] w fun e w'=>e=.returned (.int .i64 (s'.ns.length:Int))∧∃ xs' eO,QS g tv l iv w' (s'.put ⟨K,[],0,[a,hd qs],s.place l⟩).2 xs' eO∧Mw g w xs nv w' xs' eO:=by
 have H0:=hid h;have M0:=hid (Mw.refl (g:=g) (w:=w) (xs:=xs) (nv:=nv));have HR:=hid hr;have HX:=hid (dF hx).2;have hle:=h.le;clear h hr hx;go_in
 go_wp2_with fail;refine (bM g tv l iv _ _ _ _ H0.out hl).mono ?_;rintro e w1⟨rfl,hb⟩;have H1:=hid (H0.out.below hb);have M1:=hid (M0.out.aL hb);clear hb H0 M0;have hk2:=HX.out;have c1:=H1.out.blk.cell 1;have f1:=H1.out.blk.frozen 1;have H2:=hid (H1.out.dR hk2);have M2:=hid (M1.out.kJ H1.out.vV);clear H1 M1;go_wp2_with fail;clear c1 f1;go_wp2_with fail;refine (C g tv iv _ _ _ _ _ _ HR.out hn H2.out).mono ?_;rintro e w3⟨rfl,Xj,FM,h,m⟩;have H3:=hid h;have M3:=hid (M2.out.trans m);clear h m H2 M2;go_wp2_with fail;refine (dZ g tv l iv _ _ _ _ K _ _ _ _ [a,hd qs] (H3.out.alloc _) (lu _ [a,hd qs]) (by omega)).mono ?_;rintro e w4⟨rfl,yH,h,m⟩;have H4:=hid h;have M4:=hid (M3.out.dD.gX H4.out m (mM M3.out.size));clear h m H3 M3;go_wp2_with fail;go_ret;exact⟨rfl,_,_,H4.out,M4.out⟩
theorem Ej (l:List Tok)(hl:l.length≤1000)(m:Nat)(C:QC 226 l m (.lv .unary))(g:Nat)(tv iv:Value)(w:World)(s:RS)(xs:List NV)(nv:Value)(K:Nat)(a:Int)(qs:List Int)(s':RS)(hr:aK l m (.lv .unary) s.dR=some (qs,s'))(hn:s'.ns.length≤100000)(hx:s.next l ≠ [])(h:QS g tv l iv w s xs nv) :
  Calls Tryz.prog 213 #[.pointer (some ⟨g,0,none⟩),.int .u8 K,.int .i64 a,.int .i64 8] w fun e w'=>e=.returned (.int .i64 (s'.ns.length:Int))∧∃ xs' eO,QS g tv l iv w' (s'.put ⟨K,[],0,[a,hd qs],s.place l⟩).2 xs' eO∧Mw g w xs nv w' xs' eO:=by
 have H0:=hid h;have M0:=hid (Mw.refl (g:=g) (w:=w) (xs:=xs) (nv:=nv));have HR:=hid hr;have HX:=hid (dF hx).2;have hle:=h.le;clear h hr hx;go_in
 go_wp2_with fail;refine (bM g tv l iv _ _ _ _ H0.out hl).mono ?_;rintro e w1⟨rfl,hb⟩;have H1:=hid (H0.out.below hb);have M1:=hid (M0.out.aL hb);clear hb H0 M0;have hk2:=HX.out;have c1:=H1.out.blk.cell 1;have f1:=H1.out.blk.frozen 1;have H2:=hid (H1.out.dR hk2);have M2:=hid (M1.out.kJ H1.out.vV);clear H1 M1;go_wp2_with fail;clear c1 f1;go_wp2_with fail;refine (C g tv iv _ _ _ _ _ _ HR.out hn H2.out).mono ?_;rintro e w3⟨rfl,Xj,FM,h,m⟩;have H3:=hid h;have M3:=hid (M2.out.trans m);clear h m H2 M2;go_wp2_with fail;refine (dZ g tv l iv _ _ _ _ K _ _ _ _ [a,hd qs] (H3.out.alloc _) (lu _ [a,hd qs]) (by omega)).mono ?_;rintro e w4⟨rfl,yH,h,m⟩;have H4:=hid h;have M4:=hid (M3.out.dD.gX H4.out m (mM M3.out.size));clear h m H3 M3;go_wp2_with fail;go_ret;exact⟨rfl,_,_,H4.out,M4.out⟩
def XA (l:List Tok)(g:Nat)(w:World):Nat:=match w.cell? ⟨g,1,none⟩ with
 | some (.int _ k)=>l.length - k.toNat
 | _=>0
theorem iK {g:Nat}{tv:Value}{l:List Tok}{iv:Value}{w:World}{s:RS}{xs:List NV}{nv:Value}(h:QS g tv l iv w s xs nv):XA l g w=l.length - s.k:=by
 have c1:w.cell? ⟨g,1,none⟩=some (.int .i64 (s.k:Int)):=h.blk.cell 1;unfold XA;rw [c1];simp
theorem rrun_or (l:List Tok)(n:Nat)(s:RS):aK l (n+1) (.lv .or) s=gY (aK l n (.lv .and) s) fun a s1=>aK l n (.tail .or (hd a)) s1:=by rw [aK] <;> first | rfl | simp
theorem aa7 (l:List Tok)(n:Nat)(s:RS):aK l (n+1) (.lv .and) s=gY (aK l n (.lv .not) s) fun a s1=>aK l n (.tail .and (hd a)) s1:=by rw [aK] <;> first | rfl | simp
theorem aa8 (l:List Tok)(n:Nat)(s:RS):aK l (n+1) (.lv .cmp) s=gY (aK l n (.lv .sum) s) fun a s1=>aK l n (.tail .cmp (hd a)) s1:=by rw [aK] <;> first | rfl | simp
theorem aa9 (l:List Tok)(n:Nat)(s:RS):aK l (n+1) (.lv .sum) s=gY (aK l n (.lv .term) s) fun a s1=>aK l n (.tail .sum (hd a)) s1:=by rw [aK] <;> first | rfl | simp
theorem WB (l:List Tok)(n:Nat)(s:RS):aK l (n+1) (.lv .term) s=gY (aK l n (.lv .unary) s) fun a s1=>aK l n (.tail .term (hd a)) s1:=by rw [aK] <;> first | rfl | simp
theorem q_or (l:List Tok)(hl:l.length≤1000)(n:Nat)(C:∀ m,m≤n→QC 212 l m (.lv .and)):QC 192 l (n+1) (.lv .or):=by
 intro g tv iv w s xs nv qs s' hr hn h;have H0:=hid h;have M0:=hid (Mw.refl (g:=g) (w:=w) (xs:=xs) (nv:=nv));have hle:=h.le;clear h;rw [rrun_or] at hr
 obtain⟨a1,t1,r1,hr⟩:=aF hr;have hb1:=(bG _ _ _ _ _ hr).few;have HR:=hid hr;have Eu:=hid r1;clear hr r1;go_enter Tryz.func192,Tryz.ntmps192
 go_wp2_with fail;refine (C n (aaJ _) g tv iv _ _ _ _ _ _ Eu.out (by omega) H0.out).mono ?_;rintro e w1⟨rfl,xs1,gW,h,m⟩;have H1:=hid h;have M1:=hid (M0.out.trans m);clear h m H0 M0;go_wp2_with fail;go_loopw [3] (fun v wr=>∃ (m:Nat) (a:Int) (s1:RS) (xs1:List NV) (gW:Value),v=.int .i64 a∧m≤n∧Hid (aK l m (.tail .or a) s1=some (qs,s'))∧Hid (QS g tv l iv wr s1 xs1 gW)∧Hid (Mw g w xs nv wr xs1 gW)) (fun _ wr=>XA l g wr)
 case atStart=>exact⟨n,hd a1,t1,xs1,gW,rfl,aaJ _,HR,H1,M1⟩
 case round =>
  clear HR Eu H1 M1;obtain⟨wo,rfl⟩:∃ wo:World,wo=wr:=⟨_,rfl⟩;obtain⟨m,a,s1,xs1,gW,rfl,hm,HR,H0,M0⟩:=hrel;have HW:=H0;have hr:=HR.out;clear HR;rcases m with _ | m
  ·exact absurd hr (by simp [aK])
  rw [aK] at hr
  by_cases c0:s1.next l=[111,114]
  ·rw [show fB .or (s1.next l)=18 by rw [c0];rfl,if_neg (by decide)] at hr
   obtain⟨b,t2,r2,hr⟩:=aF hr;obtain⟨b3,t3,r3,hr⟩:=aF hr;obtain⟨rfl,rfl⟩:=bn r3;rw [if_neg (by decide)] at hr
   have hb2:=(bG _ _ _ _ _ hr).few;have hb3:t2.ns.length≤100000:=by simp only [RS.put,aaO,aaT] at hb2;omega
   have hk2:s1.k+1≤t2.k:=(bG _ _ _ _ _ r2).k;have hk3:=(dF (l:=l) (s:=s1) (by rw [c0];simp)).2;have e0:(s1.next l == [111,114])=true:=by rw [c0];rfl
   have HR:=hid hr;have HR2:=hid r2;have HC:=hid c0;clear hr r2 r3 c0 hb2;go_wp2_with fail;refine (aX g tv l iv _ _ _ _ H0.out hl).mono ?_;rintro e Et⟨rfl,hb⟩;have lF:=hid (H0.out.below hb);have M11:=hid (M0.out.aL hb);clear hb H0 M0;go_wp2_with fail;refine (qtwo_or l hl m (C m (by omega)) g tv iv _ _ _ _ 18 a b t2 HR2.out hb3 (by rw [HC.out];simp) lF.out).mono ?_;rintro e wQ⟨rfl,Dr,uL,h,m12⟩;have mh:=hid h;have qU:=hid (M11.out.trans m12);clear h m12;go_wp2_with fail;exact⟨⟨m,_,_,Dr,uL,rfl,by omega,HR,mh,qU⟩,by rw [iK mh.out,iK HW.out];simp only [RS.put];omega⟩
  rw [show fB .or (s1.next l)=0 by simp [fB,c0],if_pos rfl] at hr
  have e0:(s1.next l == [111,114])=false:=by simpa using c0
  obtain⟨rfl,rfl⟩:=dY hr;clear hr;go_wp2_with fail;refine (aX g tv l iv _ _ _ _ H0.out hl).mono ?_;rintro e Et⟨rfl,hb⟩;have lF:=hid (H0.out.below hb);have M11:=hid (M0.out.aL hb);clear hb H0 M0;go_wp2_with fail;go_ret;exact⟨rfl,_,_,lF.out,M11.out⟩
theorem q_and (l:List Tok)(hl:l.length≤1000)(n:Nat)(C:∀ m,m≤n→QC 223 l m (.lv .not)):QC 212 l (n+1) (.lv .and):=by
 intro g tv iv w s xs nv qs s' hr hn h;have H0:=hid h;have M0:=hid (Mw.refl (g:=g) (w:=w) (xs:=xs) (nv:=nv));have hle:=h.le;clear h;rw [aa7] at hr
 obtain⟨a1,t1,r1,hr⟩:=aF hr;have hb1:=(bG _ _ _ _ _ hr).few;have HR:=hid hr;have Eu:=hid r1;clear hr r1;go_enter Tryz.func212,Tryz.ntmps212
 go_wp2_with fail;refine (C n (aaJ _) g tv iv _ _ _ _ _ _ Eu.out (by omega) H0.out).mono ?_;rintro e w1⟨rfl,xs1,gW,h,m⟩;have H1:=hid h;have M1:=hid (M0.out.trans m);clear h m H0 M0;go_wp2_with fail;go_loopw [3] (fun v wr=>∃ (m:Nat) (a:Int) (s1:RS) (xs1:List NV) (gW:Value),v=.int .i64 a∧m≤n∧Hid (aK l m (.tail .and a) s1=some (qs,s'))∧Hid (QS g tv l iv wr s1 xs1 gW)∧Hid (Mw g w xs nv wr xs1 gW)) (fun _ wr=>XA l g wr)
 case atStart=>exact⟨n,hd a1,t1,xs1,gW,rfl,aaJ _,HR,H1,M1⟩
 case round =>
  clear HR Eu H1 M1;obtain⟨wo,rfl⟩:∃ wo:World,wo=wr:=⟨_,rfl⟩;obtain⟨m,a,s1,xs1,gW,rfl,hm,HR,H0,M0⟩:=hrel;have HW:=H0;have hr:=HR.out;clear HR;rcases m with _ | m
  ·exact absurd hr (by simp [aK])
  rw [aK] at hr
  by_cases c0:s1.next l=[97,110,100]
  ·rw [show fB .and (s1.next l)=17 by rw [c0];rfl,if_neg (by decide)] at hr
   obtain⟨b,t2,r2,hr⟩:=aF hr;obtain⟨b3,t3,r3,hr⟩:=aF hr;obtain⟨rfl,rfl⟩:=bn r3;rw [if_neg (by decide)] at hr
   have hb2:=(bG _ _ _ _ _ hr).few;have hb3:t2.ns.length≤100000:=by simp only [RS.put,aaO,aaT] at hb2;omega
   have hk2:s1.k+1≤t2.k:=(bG _ _ _ _ _ r2).k;have hk3:=(dF (l:=l) (s:=s1) (by rw [c0];simp)).2;have e0:(s1.next l == [97,110,100])=true:=by rw [c0];rfl
   have HR:=hid hr;have HR2:=hid r2;have HC:=hid c0;clear hr r2 r3 c0 hb2;go_wp2_with fail;refine (aX g tv l iv _ _ _ _ H0.out hl).mono ?_;rintro e Et⟨rfl,hb⟩;have lF:=hid (H0.out.below hb);have M11:=hid (M0.out.aL hb);clear hb H0 M0;go_wp2_with fail;refine (aa6 l hl m (C m (by omega)) g tv iv _ _ _ _ 17 a b t2 HR2.out hb3 (by rw [HC.out];simp) lF.out).mono ?_;rintro e wQ⟨rfl,Dr,uL,h,m12⟩;have mh:=hid h;have qU:=hid (M11.out.trans m12);clear h m12;go_wp2_with fail;exact⟨⟨m,_,_,Dr,uL,rfl,by omega,HR,mh,qU⟩,by rw [iK mh.out,iK HW.out];simp only [RS.put];omega⟩
  rw [show fB .and (s1.next l)=0 by simp [fB,c0],if_pos rfl] at hr
  have e0:(s1.next l == [97,110,100])=false:=by simpa using c0
  obtain⟨rfl,rfl⟩:=dY hr;clear hr;go_wp2_with fail;refine (aX g tv l iv _ _ _ _ H0.out hl).mono ?_;rintro e Et⟨rfl,hb⟩;have lF:=hid (H0.out.below hb);have M11:=hid (M0.out.aL hb);clear hb H0 M0;go_wp2_with fail;go_ret;exact⟨rfl,_,_,lF.out,M11.out⟩
theorem q_sum (l:List Tok)(hl:l.length≤1000)(n:Nat)(C:∀ m,m≤n→QC 225 l m (.lv .term)):QC 224 l (n+1) (.lv .sum):=by
 intro g tv iv w s xs nv qs s' hr hn h;have H0:=hid h;have M0:=hid (Mw.refl (g:=g) (w:=w) (xs:=xs) (nv:=nv));have hle:=h.le;clear h;rw [aa9] at hr
 obtain⟨a1,t1,r1,hr⟩:=aF hr;have hb1:=(bG _ _ _ _ _ hr).few;have HR:=hid hr;have Eu:=hid r1;clear hr r1;go_enter Tryz.func224,Tryz.ntmps224
 go_wp2_with fail;refine (C n (aaJ _) g tv iv _ _ _ _ _ _ Eu.out (by omega) H0.out).mono ?_;rintro e w1⟨rfl,xs1,gW,h,m⟩;have H1:=hid h;have M1:=hid (M0.out.trans m);clear h m H0 M0;go_wp2_with fail;go_loopw [3] (fun v wr=>∃ (m:Nat) (a:Int) (s1:RS) (xs1:List NV) (gW:Value),v=.int .i64 a∧m≤n∧Hid (aK l m (.tail .sum a) s1=some (qs,s'))∧Hid (QS g tv l iv wr s1 xs1 gW)∧Hid (Mw g w xs nv wr xs1 gW)) (fun _ wr=>XA l g wr)
 case atStart=>exact⟨n,hd a1,t1,xs1,gW,rfl,aaJ _,HR,H1,M1⟩
 case round =>
  clear HR Eu H1 M1;obtain⟨wo,rfl⟩:∃ wo:World,wo=wr:=⟨_,rfl⟩;obtain⟨m,a,s1,xs1,gW,rfl,hm,HR,H0,M0⟩:=hrel;have HW:=H0;have hr:=HR.out;clear HR;rcases m with _ | m
  ·exact absurd hr (by simp [aK])
  rw [aK] at hr
  by_cases c0:s1.next l=[43]
  ·rw [show fB .sum (s1.next l)=6 by rw [c0];rfl,if_neg (by decide)] at hr
   obtain⟨b,t2,r2,hr⟩:=aF hr;obtain⟨b3,t3,r3,hr⟩:=aF hr;obtain⟨rfl,rfl⟩:=bn r3;rw [if_neg (by decide)] at hr
   have hb2:=(bG _ _ _ _ _ hr).few;have hb3:t2.ns.length≤100000:=by simp only [RS.put,aaO,aaT] at hb2;omega
   have hk2:s1.k+1≤t2.k:=(bG _ _ _ _ _ r2).k;have hk3:=(dF (l:=l) (s:=s1) (by rw [c0];simp)).2;have e0:(s1.next l == [43])=true:=by rw [c0];rfl
   have HR:=hid hr;have HR2:=hid r2;have HC:=hid c0;clear hr r2 r3 c0 hb2;go_wp2_with fail;refine (aX g tv l iv _ _ _ _ H0.out hl).mono ?_;rintro e Et⟨rfl,hb⟩;have lF:=hid (H0.out.below hb);have M11:=hid (M0.out.aL hb);clear hb H0 M0;go_wp2_with fail;refine (O8 l hl m (C m (by omega)) g tv iv _ _ _ _ 6 a b t2 HR2.out hb3 (by rw [HC.out];simp) lF.out).mono ?_;rintro e wQ⟨rfl,Dr,uL,h,m12⟩;have mh:=hid h;have qU:=hid (M11.out.trans m12);clear h m12;go_wp2_with fail;exact⟨⟨m,_,_,Dr,uL,rfl,by omega,HR,mh,qU⟩,by rw [iK mh.out,iK HW.out];simp only [RS.put];omega⟩
  by_cases c1:s1.next l=[45]
  ·rw [show fB .sum (s1.next l)=7 by rw [c1];rfl,if_neg (by decide)] at hr
   obtain⟨b,t2,r2,hr⟩:=aF hr;obtain⟨b3,t3,r3,hr⟩:=aF hr;obtain⟨rfl,rfl⟩:=bn r3;rw [if_neg (by decide)] at hr
   have hb2:=(bG _ _ _ _ _ hr).few;have hb3:t2.ns.length≤100000:=by simp only [RS.put,aaO,aaT] at hb2;omega
   have hk2:s1.k+1≤t2.k:=(bG _ _ _ _ _ r2).k;have hk3:=(dF (l:=l) (s:=s1) (by rw [c1];simp)).2;have e0:(s1.next l == [43])=false:=by simpa using c0
   have e1:(s1.next l == [45])=true:=by rw [c1];rfl
   have HR:=hid hr;have HR2:=hid r2;have HC:=hid c1;clear hr r2 r3 c1 hb2;go_wp2_with fail;refine (aX g tv l iv _ _ _ _ H0.out hl).mono ?_;rintro e Et⟨rfl,hb⟩;have lF:=hid (H0.out.below hb);have M11:=hid (M0.out.aL hb);clear hb H0 M0;go_wp2_with fail;refine (O8 l hl m (C m (by omega)) g tv iv _ _ _ _ 7 a b t2 HR2.out hb3 (by rw [HC.out];simp) lF.out).mono ?_;rintro e wQ⟨rfl,Dr,uL,h,m12⟩;have mh:=hid h;have qU:=hid (M11.out.trans m12);clear h m12;go_wp2_with fail;exact⟨⟨m,_,_,Dr,uL,rfl,by omega,HR,mh,qU⟩,by rw [iK mh.out,iK HW.out];simp only [RS.put];omega⟩
  rw [show fB .sum (s1.next l)=0 by simp [fB,c0,c1],if_pos rfl] at hr
  have e0:(s1.next l == [43])=false:=by simpa using c0
  have e1:(s1.next l == [45])=false:=by simpa using c1
  obtain⟨rfl,rfl⟩:=dY hr;clear hr;go_wp2_with fail;refine (aX g tv l iv _ _ _ _ H0.out hl).mono ?_;rintro e Et⟨rfl,hb⟩;have lF:=hid (H0.out.below hb);have M11:=hid (M0.out.aL hb);clear hb H0 M0;go_wp2_with fail;go_ret;exact⟨rfl,_,_,lF.out,M11.out⟩
theorem q_term (l:List Tok)(hl:l.length≤1000)(n:Nat)(C:∀ m,m≤n→QC 226 l m (.lv .unary)):QC 225 l (n+1) (.lv .term):=by
 intro g tv iv w s xs nv qs s' hr hn h;have H0:=hid h;have M0:=hid (Mw.refl (g:=g) (w:=w) (xs:=xs) (nv:=nv));have hle:=h.le;clear h;rw [WB] at hr
 obtain⟨a1,t1,r1,hr⟩:=aF hr;have hb1:=(bG _ _ _ _ _ hr).few;have HR:=hid hr;have Eu:=hid r1;clear hr r1;go_enter Tryz.func225,Tryz.ntmps225
 go_wp2_with fail;refine (C n (aaJ _) g tv iv _ _ _ _ _ _ Eu.out (by omega) H0.out).mono ?_;rintro e w1⟨rfl,xs1,gW,h,m⟩;have H1:=hid h;have M1:=hid (M0.out.trans m);clear h m H0 M0;go_wp2_with fail;go_loopw [3] (fun v wr=>∃ (m:Nat) (a:Int) (s1:RS) (xs1:List NV) (gW:Value),v=.int .i64 a∧m≤n∧Hid (aK l m (.tail .term a) s1=some (qs,s'))∧Hid (QS g tv l iv wr s1 xs1 gW)∧Hid (Mw g w xs nv wr xs1 gW)) (fun _ wr=>XA l g wr)
 case atStart=>exact⟨n,hd a1,t1,xs1,gW,rfl,aaJ _,HR,H1,M1⟩
 case round =>
  clear HR Eu H1 M1;obtain⟨wo,rfl⟩:∃ wo:World,wo=wr:=⟨_,rfl⟩;obtain⟨m,a,s1,xs1,gW,rfl,hm,HR,H0,M0⟩:=hrel;have HW:=H0;have hr:=HR.out;clear HR;rcases m with _ | m
  ·exact absurd hr (by simp [aK])
  rw [aK] at hr
  by_cases c0:s1.next l=[42]
  ·rw [show fB .term (s1.next l)=8 by rw [c0];rfl,if_neg (by decide)] at hr
   obtain⟨b,t2,r2,hr⟩:=aF hr;obtain⟨b3,t3,r3,hr⟩:=aF hr;obtain⟨rfl,rfl⟩:=bn r3;rw [if_neg (by decide)] at hr
   have hb2:=(bG _ _ _ _ _ hr).few;have hb3:t2.ns.length≤100000:=by simp only [RS.put,aaO,aaT] at hb2;omega
   have hk2:s1.k+1≤t2.k:=(bG _ _ _ _ _ r2).k;have hk3:=(dF (l:=l) (s:=s1) (by rw [c0];simp)).2;have e0:(s1.next l == [42])=true:=by rw [c0];rfl
   have HR:=hid hr;have HR2:=hid r2;have HC:=hid c0;clear hr r2 r3 c0 hb2;go_wp2_with fail;refine (aX g tv l iv _ _ _ _ H0.out hl).mono ?_;rintro e Et⟨rfl,hb⟩;have lF:=hid (H0.out.below hb);have M11:=hid (M0.out.aL hb);clear hb H0 M0;go_wp2_with fail;refine (Ej l hl m (C m (by omega)) g tv iv _ _ _ _ 8 a b t2 HR2.out hb3 (by rw [HC.out];simp) lF.out).mono ?_;rintro e wQ⟨rfl,Dr,uL,h,m12⟩;have mh:=hid h;have qU:=hid (M11.out.trans m12);clear h m12;go_wp2_with fail;exact⟨⟨m,_,_,Dr,uL,rfl,by omega,HR,mh,qU⟩,by rw [iK mh.out,iK HW.out];simp only [RS.put];omega⟩
  by_cases c1:s1.next l=[47]
  ·rw [show fB .term (s1.next l)=9 by rw [c1];rfl,if_neg (by decide)] at hr
   obtain⟨b,t2,r2,hr⟩:=aF hr;obtain⟨b3,t3,r3,hr⟩:=aF hr;obtain⟨rfl,rfl⟩:=bn r3;rw [if_neg (by decide)] at hr
   have hb2:=(bG _ _ _ _ _ hr).few;have hb3:t2.ns.length≤100000:=by simp only [RS.put,aaO,aaT] at hb2;omega
   have hk2:s1.k+1≤t2.k:=(bG _ _ _ _ _ r2).k;have hk3:=(dF (l:=l) (s:=s1) (by rw [c1];simp)).2;have e0:(s1.next l == [42])=false:=by simpa using c0
   have e1:(s1.next l == [47])=true:=by rw [c1];rfl
   have HR:=hid hr;have HR2:=hid r2;have HC:=hid c1;clear hr r2 r3 c1 hb2;go_wp2_with fail;refine (aX g tv l iv _ _ _ _ H0.out hl).mono ?_;rintro e Et⟨rfl,hb⟩;have lF:=hid (H0.out.below hb);have M11:=hid (M0.out.aL hb);clear hb H0 M0;go_wp2_with fail;refine (Ej l hl m (C m (by omega)) g tv iv _ _ _ _ 9 a b t2 HR2.out hb3 (by rw [HC.out];simp) lF.out).mono ?_;rintro e wQ⟨rfl,Dr,uL,h,m12⟩;have mh:=hid h;have qU:=hid (M11.out.trans m12);clear h m12;go_wp2_with fail;exact⟨⟨m,_,_,Dr,uL,rfl,by omega,HR,mh,qU⟩,by rw [iK mh.out,iK HW.out];simp only [RS.put];omega⟩
  by_cases c2:s1.next l=[37]
  ·rw [show fB .term (s1.next l)=10 by rw [c2];rfl,if_neg (by decide)] at hr
   obtain⟨b,t2,r2,hr⟩:=aF hr;obtain⟨b3,t3,r3,hr⟩:=aF hr;obtain⟨rfl,rfl⟩:=bn r3;rw [if_neg (by decide)] at hr
   have hb2:=(bG _ _ _ _ _ hr).few;have hb3:t2.ns.length≤100000:=by simp only [RS.put,aaO,aaT] at hb2;omega
   have hk2:s1.k+1≤t2.k:=(bG _ _ _ _ _ r2).k;have hk3:=(dF (l:=l) (s:=s1) (by rw [c2];simp)).2;have e0:(s1.next l == [42])=false:=by simpa using c0
   have e1:(s1.next l == [47])=false:=by simpa using c1
   have e2:(s1.next l == [37])=true:=by rw [c2];rfl
   have HR:=hid hr;have HR2:=hid r2;have HC:=hid c2;clear hr r2 r3 c2 hb2;go_wp2_with fail;refine (aX g tv l iv _ _ _ _ H0.out hl).mono ?_;rintro e Et⟨rfl,hb⟩;have lF:=hid (H0.out.below hb);have M11:=hid (M0.out.aL hb);clear hb H0 M0;go_wp2_with fail;refine (Ej l hl m (C m (by omega)) g tv iv _ _ _ _ 10 a b t2 HR2.out hb3 (by rw [HC.out];simp) lF.out).mono ?_;rintro e wQ⟨rfl,Dr,uL,h,m12⟩;have mh:=hid h;have qU:=hid (M11.out.trans m12);clear h m12;go_wp2_with fail;exact⟨⟨m,_,_,Dr,uL,rfl,by omega,HR,mh,qU⟩,by rw [iK mh.out,iK HW.out];simp only [RS.put];omega⟩
  rw [show fB .term (s1.next l)=0 by simp [fB,c0,c1,c2],if_pos rfl] at hr
  have e0:(s1.next l == [42])=false:=by simpa using c0
  have e1:(s1.next l == [47])=false:=by simpa using c1
  have e2:(s1.next l == [37])=false:=by simpa using c2
  obtain⟨rfl,rfl⟩:=dY hr;clear hr;go_wp2_with fail;refine (aX g tv l iv _ _ _ _ H0.out hl).mono ?_;rintro e Et⟨rfl,hb⟩;have lF:=hid (H0.out.below hb);have M11:=hid (M0.out.aL hb);clear hb H0 M0;go_wp2_with fail;go_ret;exact⟨rfl,_,_,lF.out,M11.out⟩
end Go.Proofs.YthepmkjggfijoaaGreatDoor
