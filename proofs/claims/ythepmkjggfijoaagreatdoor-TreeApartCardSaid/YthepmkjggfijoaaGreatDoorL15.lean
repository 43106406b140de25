/-
  A part of the proof.
-/
import Derived.Test.YthepmkjggfijoaaGreatDoorSA
import Derived.Deep.QuietTactic
import Derived.BigRegion
import Derived.Deep.CutRange
import Derived.Deep.RegionHeld3
import Derived.Test.YthepmkjggfijoaaGreatDoorS21
import Derived.Test.YthepmkjggfijoaaGreatDoorS08
import Derived.Test.YthepmkjggfijoaaGreatDoorS25
import Derived.Test.YthepmkjggfijoaaGreatDoorS29
import Derived.Test.YthepmkjggfijoaaGreatDoorS07
import Derived.Test.YthepmkjggfijoaaGreatDoorS28
import Derived.Test.YthepmkjggfijoaaGreatDoorLS
import Derived.Test.YthepmkjggfijoaaGreatDoorS31
import Derived.Test.YthepmkjggfijoaaGreatDoorL14
set_option linter.all false
set_option maxRecDepth 100000
set_option maxHeartbeats 2000000
namespace Go.Proofs.YthepmkjggfijoaaGreatDoor
open Go.RowKit Mist
attribute [local go_sem] aj aH aS aB ak
def Gq (k:Nat):Bool:=lq k || k == 25 || iH k || k == 34 || eP k
def Fv (x:Nd):Bool:=(ig x.kind == isName x.text) && (ig x.kind || x.text.isEmpty) && jC x && gu x && within x.at_ 0 2000
def Hw (T:Tr)(x:Nd)(j:Nat):Bool:=mJ x j (nd T (x.kids.getD j 0).toNat).kind && !((nd T (x.kids.getD j 0).toNat).kind == 1 && decide ((nd T (x.kids.getD j 0).toNat).n < 0) && !(x.kind == 40))
theorem wL (T:Tr)(i:Nat):je T i=(Gq (nd T i).kind && Fv (nd T i) && (List.range (nd T i).kids.length).all (Hw T (nd T i))):=by
 unfold je Gq Fv Hw;simp only [Bool.and_assoc]
section
variable {P:Program} {md:Region.Mode} {l:List Oper} {Q:Exit→Act→World→Prop} {S:World→Prop} {oi:Oper} {fuel:Nat} {listed:Array Bool} {a:Act} {w:World}
end
end Go.Proofs.YthepmkjggfijoaaGreatDoor
namespace Go.Proofs.YthepmkjggfijoaaGreatDoor
open Go.RowKit Mist
end Go.Proofs.YthepmkjggfijoaaGreatDoor
namespace Go.Proofs.YthepmkjggfijoaaGreatDoor
open Go.RowKit Mist
attribute [local go_sem] aj aH aS aB ak
theorem Ob {T:Tr}(h:kE T=true):(∀ i,i < T.nodes.length→je T i=true)∧Wf T.nodes:=by
 obtain⟨b,h2⟩:=(rR T).1 h
 refine⟨h2,?_⟩
 obtain⟨c,_,h3⟩:=qV.sizes b.fo;exact kX h3
theorem RowsIn.UH {g:Nat}{w:World}{A B:Option Addr}{c d:Nat}{xs:List NV}{b:List Int}(h:RowsIn g w (.slice A xs.length c) (.slice B b.length d) xs b)(i:∀ x ∈ xs,x.1.kids.length≤1000000):mq w A B xs b:=by
 refine⟨fun h0=>?_,yI h.row rfl⟩
 obtain⟨f,e,j⟩:=Ee h.own h0 (fun x k=>⟨_,h.kids x k⟩) i;exact⟨f,0,e,j⟩
theorem yP:∀ (l:List Nd) (n:Nat),(∀ x ∈ l,eP x.kind=false)→gJ n l=[]
 | [],_,_=>rfl
 | x :: r,n,h=>by
  unfold gJ;rw [if_neg (by rw [h x (List.mem_cons_self ..)];simp)];exact yP r (n+1) (fun y hy=>h y (List.mem_cons_of_mem _ hy))
theorem SL {T:Tr}{j:Nat}{x:Nd}(b:je T j=true)(e:T.nodes[j]? = some x){i:Nat}(hi:(i:Int) ∈ x.kids):eP (nd T i).kind=false:=by
 rw [wL,kH e] at b
 simp only [aaS,aaR,List.mem_range] at b
 obtain⟨p,c,d⟩:=List.mem_iff_getElem.1 hi;have h:=b.2 p c;unfold Hw at h
 rw [aaH,aaD c,d] at h
 simp only [Option.getD_some,aaQ,aaS] at h
 exact aah h.1
theorem Nw {T:Tr}{sz:List Int}(hS:uQ T.nodes sz T.nodes.length)(B:qV T)(v:∀ i,i < T.nodes.length→je T i=true){q la F s:Nat}(E:T.items[q]? = some (la:Int))(d:la < T.nodes.length)(K:sz.getD la 0=(s:Int))(hF:la+1=F+s):gJ 0 ((T.nodes.drop F).take s)=[(la:Int) - (F:Int)]:=by
 obtain⟨n,m,t,J,H,e⟩:=hS.2 la d;have r:m=F:=by omega
 subst r;have u:s=(la - m)+1:=by omega
 rw [u,List.take_add_one,List.getElem?_drop,show m+(la - m)=la by omega,t,Option.toList_some,oM,yP]
 ·have C:eP n.kind=true:=by
   have h9:=B.item la (aaM E)
   rwa [aaQ,kH t] at h9
  rw [if_pos C,List.length_take,List.length_drop];have A:0+min (la - m) (T.nodes.length - m)=la - m:=by omega
  rw [A];simp;omega
 ·intro x G;obtain⟨k,D,g⟩:=List.mem_iff_getElem.1 G;rw [List.length_take,List.length_drop] at D
  have c:T.nodes[m+k]? = some x:=by
   rw [← g,List.getElem_take,List.getElem_drop];exact aaD _
  have b:x.kind=(nd T (m+k)).kind:=by rw [kH c]
  rw [b];rcases Fo.parent e (m+k) (by omega) (by omega) with h | ⟨j,y,_,I,hy,f⟩
  ·exact SL (v la d) t h
  ·exact SL (v j (by omega)) hy f
theorem Gm (xs:List NV)(F s:Nat):aA ((xs.drop F).take s)=((aA xs).drop F).take s:=by unfold aA;rw [List.map_take,List.map_drop]
theorem JS.UH {g:Nat}{w:World}{tb:Nat}{A B:Option Addr}{c d:Nat}{xs:List NV}{b:List Int}(h:JS g w tb (.slice A xs.length c) (.slice B b.length d) xs b)(i:∀ x ∈ xs,x.1.kids.length≤1000000):mq w A B xs b:=by
 refine⟨fun h0=>?_,yI h.row rfl⟩
 obtain⟨f,e,j⟩:=Ee h.own h0 (fun x k=>⟨_,h.kids x k⟩) i;exact⟨f,0,e,j⟩
theorem Ih {xs ys:List NV}{F s:Nat}{b:Int}(h:aA ys=(((aA xs).drop F).take s).map (lI b))(c:∀ x ∈ aA xs,x.kids.length≤1000000):∀ y ∈ ys,y.1.kids.length≤1000000:=by
 intro y hy;have h1:y.1 ∈ aA ys:=List.mem_map.2 ⟨y,hy,rfl⟩;rw [h] at h1
 obtain⟨z,d,e⟩:=List.mem_map.1 h1;rw [← e]
 show (z.kids.map (·+b)).length≤1000000
 rw [List.length_map];exact c z (List.mem_of_mem_drop (List.mem_of_mem_take d))
theorem L9 {T:Tr}(c:∀ n ∈ T.nodes,jq≤n.n∧n.n≤gq)(h:dN T=0):∀ i,i < T.nodes.length→je T i=true:=by
 rw [rP T c] at h
 unfold kV at h
 split at h
 ·cases h
 split at h
 ·cases h
 ·rename_i b
  exact (Ob (by simpa using b)).1
def two (T U:Tr):Int:=if dN T ≠ 0 then dN T else dN U
theorem Gy (A B A' B':Option Addr)(c d J K g:Nat)(xs ys:List NV)(m C:List Int)(w:World)(hT:mq w A B xs m)(hU:mq w A' B' ys C)(hR:xO (aA xs))(hS:xO (aA ys))(V:Env w)(hg:aC w g 26 #[.slice A xs.length c,.slice B m.length d,.slice A' ys.length J,.slice B' C.length K]) :
  Calls Tryz.prog 85 #[.slice (some ⟨g,0,none⟩) 2 2] w fun e w'=>e=.returned (.int .i64 (two ⟨aA xs,m⟩ ⟨aA ys,C⟩))∧Below w.heap.size w w':=by
 have M:=O fun W (G:Below w.heap.size w W)=>jk A B c d xs m W (hT.below G) hR (V.below G)
 have N:=O fun W (G:Below w.heap.size w W)=>jk A' B' J K ys C W (hU.below G) hS (V.below G)
 obtain⟨T,ni⟩:∃ T:Tr,T=⟨aA xs,m⟩:=⟨_,rfl⟩;obtain⟨U,Z⟩:∃ U:Tr,U=⟨aA ys,C⟩:=⟨_,rfl⟩;rw [← ni] at M ⊢
 rw [← Z] at N ⊢
 clear ni Z hT hU hR hS V;have Y:=O hg;clear hg;obtain⟨p,n⟩:∃ p,p=dN T:=⟨_,rfl⟩;obtain⟨q,t⟩:∃ q,q=dN U:=⟨_,rfl⟩;have L:=O (show two T U=if p ≠ 0 then p else q by unfold two;rw [n,t]);rw [← n] at M
 rw [← t] at N
 clear n t;go_in
 go_wp2_with fail;go_loopw [8] (fun i wr=>∃ k:Nat,k≤2∧i=.int .i64 k∧(0 < k→p=0)∧(1 < k→q=0)∧Hid (aC wr g 26 #[.slice A xs.length c,.slice B m.length d,.slice A' ys.length J,.slice B' C.length K])∧Hid (Below w.heap.size w wr)) (fun i _=>2 - (intOf i).toNat)
 case atStart=>exact⟨0,by omega,rfl,fun h=>absurd h (by omega),fun h=>absurd h (by omega),Y,O (Below.refl _ _)⟩
 case round =>
  clear Y;obtain⟨D,rfl⟩:∃ D:World,D=wr:=⟨_,rfl⟩;obtain⟨k,hk,rfl,r,y,u,E⟩:=hrel;have t0:=u.o.cell 0;have t1:=u.o.cell 1;have t2:=u.o.cell 2;have t3:=u.o.cell 3;have X:k=0∨k=1∨k=2:=by omega
  rcases X with rfl | rfl | rfl
  ·have f:=O (ah (Below.refl D.heap.size D) (aaJ _) (o:=.cells #[.slice A xs.length c,.slice B m.length d] 26));have b:=O (E.o.trans (f.o.mono E.o.size));go_wp2_with fail;refine (M.o _ b.o).mono ?_;rintro e w2⟨rfl,j⟩;have H:=O (b.o.trans (j.mono b.o.size));have x:=O (f.o.trans (j.mono f.o.size));clear j;by_cases n:p=0
   ·have R:(p != 0)=false:=by simp [n]
    have v:=O (u.o.below x.o u.o.lt);have I:=O n;clear n;go_wp2_with fail;exact⟨⟨1,by omega,rfl,fun _=>I.o,fun h=>absurd h (by omega),v,H⟩,by simp [intOf]⟩
   ·have R:(p != 0)=true:=by simpa using n
    have F:=O (show two T U=p by rw [L.o,if_pos n]);clear n;go_wp2_with fail;go_ret;exact⟨by rw [F.o];rfl,H.o⟩
  ·have n:=r (by omega);have I:=O n;have f:=O (ah (Below.refl D.heap.size D) (aaJ _) (o:=.cells #[.slice A' ys.length J,.slice B' C.length K] 26));have b:=O (E.o.trans (f.o.mono E.o.size));clear r y n;go_wp2_with fail;refine (N.o _ b.o).mono ?_;rintro e w2⟨rfl,j⟩;have H:=O (b.o.trans (j.mono b.o.size));have x:=O (f.o.trans (j.mono f.o.size));clear j;by_cases t:q=0
   ·have R:(q != 0)=false:=by simp [t]
    have v:=O (u.o.below x.o u.o.lt);have HQ:=O t;clear t;go_wp2_with fail;exact⟨⟨2,by omega,rfl,fun _=>I.o,fun _=>HQ.o,v,H⟩,by simp [intOf]⟩
   ·have R:(q != 0)=true:=by simpa using t
    have F:=O (show two T U=q by rw [L.o,if_neg (by rw [I.o];simp)]);clear t;go_wp2_with fail;go_ret;exact⟨by rw [F.o];rfl,H.o⟩
  ·have F:=O (show two T U=0 by rw [L.o,if_neg (by rw [r (by omega)];simp),y (by omega)]);clear r y;go_wp2_with fail;go_ret;exact⟨by rw [F.o];rfl,E.o⟩
theorem sV:∀ (n:Nat) (l r:List Nd),gJ n (l ++ r)=gJ n l ++ gJ (n+l.length) r
 | n,[],r=>by simp [gJ]
 | n,x :: l,r=>by
  simp only [List.cons_append,gJ,List.length_cons];have e:n+1+l.length=n+(l.length+1):=by omega
  split
  ·rw [sV (n+1) l r,e];rfl
  ·rw [sV (n+1) l r,e]
theorem Wz {T:Tr}(u:∀ i,i < T.nodes.length→je T i=true){m b:Nat}{n:Nd}(D:m≤b)(g:T.nodes[b]? = some n)(d:Fo T.nodes m b n.kids)(hi:eP n.kind=true)(k:Nat):gJ k ((T.nodes.drop m).take (b+1 - m))=[((k+(b - m):Nat):Int)]:=by
 have f:b < T.nodes.length:=(aaE.1 g).1;have t:b+1 - m=(b - m)+1:=by omega
 rw [t,List.take_add_one,List.getElem?_drop,show m+(b - m)=b by omega,g,Option.toList_some,oM,yP]
 ·rw [if_pos hi,List.length_take,List.length_drop];have v:k+min (b - m) (T.nodes.length - m)=k+(b - m):=by omega
  rw [v];rfl
 ·intro x B;obtain⟨q,A,r⟩:=List.mem_iff_getElem.1 B;rw [List.length_take,List.length_drop] at A
  have c:T.nodes[m+q]? = some x:=by
   rw [← r,List.getElem_take,List.getElem_drop];exact aaD _
  rw [show x.kind=(nd T (m+q)).kind by rw [kH c]];rcases Fo.parent d (m+q) (by omega) (by omega) with h | ⟨j,y,_,C,hy,e⟩
  ·exact SL (u b f) g h
  ·exact SL (u j (by omega)) hy e
theorem Pv {T:Tr}(d:∀ i,i < T.nodes.length→je T i=true)(k:Nat):∀ (l:List Int) (a b:Nat),Fo T.nodes a b l.reverse→a≤b→(∀ c ∈ l,eP (nd T c.toNat).kind=true)→gJ (k+a) ((T.nodes.drop a).take (b - a))=l.reverse.map (·+(k:Int))
 | [],a,b,h,hab,_=>by
  have:a=b:=by
   have h9:Fo T.nodes a b []:=h;exact Uj h9
  subst this;simp [gJ]
 | x :: r,a,b,h,hab,hi=>by
  obtain⟨m,p,n,rfl,rfl,h1,h2,h3⟩:=Fo.inv h r.reverse x (by simp);have f:=Fo.len h1;have j:=Fo.len h2
  have q:eP n.kind=true:=by
   have h9:=hi (p:Int) (List.mem_cons_self ..)
   rwa [aaQ,kH h3] at h9
  have t:p < T.nodes.length:=(aaE.1 h3).1
  have e:(T.nodes.drop a).take (p+1 - a)=(T.nodes.drop a).take (m - a) ++ (T.nodes.drop m).take (p+1 - m):=by
   rw [show p+1 - a=(m - a)+(p+1 - m) by omega,List.take_add,List.drop_drop,show a+(m - a)=m by omega]
  rw [e,sV,Pv d k r a m h1 (by omega) (fun c g=>hi c (List.mem_cons_of_mem _ g)),Wz d (by omega) h3 h2 q,List.reverse_cons,List.map_append]
  congr 1
  rw [List.length_take,List.length_drop];simp
  omega
theorem KP {T:Tr}(b:qV T)(e:∀ i,i < T.nodes.length→je T i=true)(k:Nat):gJ k T.nodes=T.items.map (·+(k:Int)):=by
 have h:=Pv e k T.items.reverse 0 T.nodes.length (by rw [List.reverse_reverse];exact b.fo) (aaL _) (fun c d=>b.item c (List.mem_reverse.1 d));rw [List.reverse_reverse,List.drop_zero,Nat.sub_zero,List.take_length] at h
 exact h
end Go.Proofs.YthepmkjggfijoaaGreatDoor
