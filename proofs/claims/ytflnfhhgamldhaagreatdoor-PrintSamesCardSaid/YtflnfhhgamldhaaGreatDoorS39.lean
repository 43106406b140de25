/-
  A part of the proof.
-/
import Derived.Test.YtflnfhhgamldhaaGreatDoorS38
set_option linter.all false
set_option maxRecDepth 100000
set_option maxHeartbeats 2000000
namespace Go.Proofs.YtflnfhhgamldhaaGreatDoor
open Go.RowKit Mist
attribute [local go_sem] ah aM aV au ak
theorem Qt (s:Bs)(w:World)(h:Env w)(f:(Mist.read s).2.2 ≠ 0)(k:s.length≤100000000) :
  Calls Tryz.prog 8 #[.string (aH s)] w fun e m=>e=.returned (.tuple #[.agg #[.slice none 0 0,.slice none 0 0],.int .i64 (Mist.read s).2.1,.int .i64 (Mist.read s).2.2])∧Below w.heap.size w m:=by
 obtain⟨E,b⟩:∃ E,E=(Mist.read s).2.2:=⟨_,rfl⟩;rw [← b] at f
 have g:=O b;clear b;have j:=O h;clear h;have r:((E:Int) == 0)=false:=by simpa using f
 clear f;go_in
 go_wp2_with fail;refine (Fb s _ (j.o.alloc _) k).mono ?_;rintro e x⟨v,rfl,l,c⟩;rw [← g.o];have a:=O (u6 c);have d:=O ((aG (Below.refl w.heap.size w) (ak0 _) (o:=.cells #[.slice none 0 0,.slice none 0 0] 32)).trans (c.mono (by simp)));clear c l;have t:=a.o.cell 0;have u:=a.o.cell 1;have r0:=a.o.frozen 0;have r1:=a.o.frozen 1;go_wp2_with fail;have i:=(a.o.g_ 0 (.slice none 0 0)).g_ 1 (.slice none 0 0);have n:=i.cell 0;have q:=i.cell 1;refine bodyPost_ret (v:=.tuple #[.agg #[.slice none 0 0,.slice none 0 0],.int .i64 (Mist.read s).2.1,.int .i64 E]) (by simp [results,Tryz.f8,go_sem,n,q]) rfl ⟨by rw [← g.o],?_⟩
 repeat (first|(with_reducible exact d.o)|(with_reducible refine eF ?_ ?_) | omega)
theorem Qu {T:Tr}(h:∀ x ∈ T.nodes,Mist.sized T x=jL T x):gM T=jc T:=by
 unfold gM jc;split
 ·rfl
 ·unfold outT uO;rcases a:T.nodes.findIdx? (fun x=>!Mist.sized T x) with _ | i
  ·rw [List.findIdx?_eq_none_iff] at a
   have h1:T.nodes.find? (fun x=>!jL T x)=none:=by
    rw [List.find?_eq_none];intro x d;rw [← h x d];simpa using a x d
   rw [h1];rfl
  ·rw [List.findIdx?_eq_some_iff_getElem] at a
   obtain⟨c,f,e⟩:=a
   have h1:T.nodes.find? (fun x=>!jL T x)=some T.nodes[i]:=by
    rw [List.find?_eq_some_iff_getElem];exact⟨by rw [← h _ (List.getElem_mem c)];exact f,i,c,rfl,fun j b=>by have:=e j b;rw [← h _ (List.getElem_mem _)];simpa using this⟩
   rw [h1];have h2:nd T i=T.nodes[i]:=mE (akU c)
   show (if 0≤((i:Nat):Int) then ((nd T ((i:Nat):Int).toNat).at_,(3:Int)) else (0,0))=_
   rw [if_pos (Int.natCast_nonneg i),ak7,h2]
theorem wh (s:Bs):∀ (f a:Nat) (b l:List Mist.Tok) (x:Nat),gY f s a b=(l,x,0)→x=0
 | 0,a,b,l,x,h=>by rw [gY] at h;injection h with _ h;injection h with h _;exact h.symm
 | f+1,a,b,l,x,h=>by
  by_cases c:s.length≤a
  ·rw [qd f s a b c] at h;injection h with _ h;injection h with h _;exact h.symm
  ·by_cases d:(first (s.drop a)).1=0
   ·rw [oL f s a b c d] at h;injection h with _ h;injection h with _ h;cases h
   ·by_cases h8:b.length=800
    ·rw [oK f s a b c d h8] at h;injection h with _ h;injection h with _ h;cases h
    ·rw [oM f s a b c d h8] at h;exact wh s f _ _ _ _ h
theorem VO {s:Bs}{l:List Mist.Tok}{a:Nat}(h:Mist.read s=(l,a,0)):a=0:=by
 unfold Mist.read at h
 split at h
 ·rename_i b;injection h with _ h;injection h with _ h;exact absurd h b
 ·exact wh s _ _ _ _ _ h
theorem ES (s:Bs)(D:s.length≤100000000):∃ (T:Tr) (X E:Int),T.nodes.length≤1000∧T.items.length≤1000∧(E ≠ 0∨E=0∧X=0∧fJ T=0∧Dt T.nodes) ∧
  (∀ w,Env w→Calls Tryz.prog 8 #[.string (aH s)] w (nU T X E w))∧(∀ w,Calls Tryz.prog 12 #[.string (aH s)] w (nU T X E w)):=by
 by_cases m:(Mist.read s).2.2=0
 case neg =>
  exact⟨⟨[],[]⟩,_,_,by simp,by simp,.inl (by omega),fun w f=>(Qt s w f m D).mono fun e C h=>oF h.1 h.2,fun w=>(QX s w m D).mono fun e C h=>oF h.1 h.2⟩
 obtain⟨l,a,z,o⟩:∃ l a z,Mist.read s=(l,a,z):=⟨_,_,_,rfl⟩;obtain rfl:z=0:=by rw [o] at m;exact m
 obtain rfl:a=0:=VO o;have H:l.length≤800:=by have:=aaU s;rw [o] at this;exact this
 obtain⟨L,J,Y⟩:=Mist.vD o;have S:∀ t ∈ l,t.text.length≤100000000:=fun t R=>Nat.le_trans (J t R) (by omega)
 have hF:PF l:=⟨by omega,L.kind,J⟩;rcases Mt (s.length:Int) L H with ⟨b,ns,I,Q,U,M,G,V,hi⟩ | ⟨k,b,ns,I,Q,V⟩
 ·have node:∀ x ∈ ns,x.kids.length≤1000000∧Mist.sized ⟨ns,b⟩ x=jL ⟨ns,b⟩ x∧nu ⟨ns,b⟩ x:=fun x y=>by
   obtain⟨i,N,P⟩:=List.mem_iff_getElem.1 y;obtain⟨h1,h2,h3⟩:=Mx (T:=⟨ns,b⟩) U M G (i:=i) (x:=x) (by rw [← P];exact akU N);exact⟨by omega,h2,h3⟩
  have K:vW ⟨ns,b⟩:=⟨M,fun x y=>(node x y).2.2,fun x y=>(node x y).1,by show ns.length≤1000;omega⟩;have q:gM ⟨ns,b⟩=jc ⟨ns,b⟩:=Qu fun x y=>(node x y).2.1
  have c1:=fun w f=>Ia s l _ _ l.length ⟨ns,b⟩ w o hF I f D K
  have c2:=fun w=>VU s l _ _ b ⟨l.length,false,ns⟩ w o (by omega) S Q rfl D K
  by_cases F:(gM ⟨ns,b⟩).2=0
  ·obtain⟨_,_,_,W⟩:=EW (en:=(s.length:Int)) L _ _ 0 [] [] _ _ _ (fun i n h=>by simp at h) (fun i n h=>by simp at h) (.nil _) (fun a h=>by cases h) I;obtain⟨h5,h6⟩:=JK (T:=⟨ns,b⟩) U M G W F
   refine⟨⟨ns,b⟩,0,0,by show ns.length≤1000;omega,by show b.length≤1000;omega,.inr ⟨rfl,rfl,h5,h6⟩,fun w f=>(c1 w f).mono fun e C h=>?_,fun w=>(c2 w).mono fun e C h=>?_⟩
   ·obtain⟨u,h | ⟨_,v,xs,g,m,j,_,R⟩⟩:=h
    ·exact absurd F h.1
    ·obtain⟨A,B,c,d,rfl,r⟩:=R.tAt (fun x J=>K.kids x.1 (by rw [← j];exact List.mem_map_of_mem J));exact⟨u,A,B,c,d,xs,m,j,r⟩
   ·obtain⟨u,h | ⟨_,A,B,c,d,xs,m,j,r⟩⟩:=h
    ·exact absurd (q ▸ F) h.1
    ·exact⟨u,A,B,c,d,xs,m,j,r⟩
  ·refine⟨⟨[],[]⟩,(gM ⟨ns,b⟩).1,(gM ⟨ns,b⟩).2,by simp,by simp,.inl F,fun w f=>(c1 w f).mono fun e C h=>?_,fun w=>(c2 w).mono fun e C h=>?_⟩
   ·obtain⟨u,h | ⟨h,_⟩⟩:=h
    ·exact oF h.2 u
    ·exact absurd h F
   ·obtain⟨u,h | ⟨h,_⟩⟩:=h
    ·rw [← q] at h;exact oF h.2 u
    ·rw [← q] at h;exact absurd h F
 ·exact⟨⟨[],[]⟩,_,_,by simp,by simp,.inl (by decide),fun w f=>(Qs s l _ _ k w o hF I f D).mono fun e C h=>oF h.1 h.2,fun w=>(QV s l _ _ b ⟨k,true,ns⟩ w o (by omega) S Q V rfl D).mono fun e C h=>oF h.1 h.2⟩
