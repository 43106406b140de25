/-
  A part of the proof.
-/
import Derived.Test.YtflnfhhgamldhaaGreatDoorS02
set_option linter.all false
set_option maxRecDepth 100000
namespace Mist
section
variable {l:List Tok} {en:Int}
theorem yw {k:Nat}{ns:List Nd}(b:k≤l.length)(a:Wf ns):dV True l k (k+1) ns (uR l en k ns):=by
 unfold uR;split
 ·rename_i e
  have h1:=cB e (by simp);exact dV.dQ (by simp) (by omega) fun g=>dV.add _ (by omega) (by omega) (by omega) (dS _) a (Ids.nil _)
 ·exact dV.dQ (by simp) b fun g=>dV.add _ (by omega) (by omega) (by omega) (dS _) a (Ids.nil _)
theorem oQ {m:Nat}{j:Job}{k:Nat}{ns:List Nd}(c:k≤l.length)(d:Wf ns)(hi:Ids j.args ns.length)(b:∀ e a,j=.gQ e a→a ≠ []):dV (13 * (l.length - k)+j.rank < m) l k (k+j.reads) ns (run l en m j k ns):=Fq m j k ns c d hi b
theorem yj {n k k0:Nat}{ps:List Int}{t u:Int}{a:Nat}{ns ns0:List Nd}(c:a≤l.length)(h0:k+1≤a)(r:ns.length+k0+1≤ns0.length+a)(d:∃ t,ns=ns0 ++ t)(e:Wf ns)(hi:Ids (ps ++ [t]) ns.length) :
  dV (13 * (l.length - a)+12 < n) l k0 (k+1) ns0 (mQ l en n k ps t u a ns):=by
 unfold mQ;refine dV.need (by simp) c fun g=>?_
 refine (oQ (m:=n) (j:=.expr) (by omega) e (Ids.nil _) (by simp)).thn (fun h=>by simp only [Job.rank];omega) fun b v o q=>?_
 have f:=q.lo;have w:=q.few;have i:=q.len;simp only [Job.reads] at f
 exact dV.add _ (by omega) q.le (by omega) (fD d q.more) q.wf ((hi.mono i).app (Ids.cons q.hd (Ids.nil _)))
theorem yu {n k k0:Nat}{ps:List Int}{a:Nat}{ns ns0:List Nd}(f:a≤l.length)(h0:k+1≤a)(w:ns.length+k0+1≤ns0.length+a)(c:∃ t,ns=ns0 ++ t)(i:Wf ns)(hi:Ids ps ns.length) :
  dV (13 * (l.length - a)+12 < n) l k0 (k+1) ns0 (oJ l en n k ps a ns):=by
 unfold oJ;refine dV.need (by simp) f fun g=>dV.need (by simp) (by omega) fun u=>?_
 refine (oQ (m:=n) (j:=.typ) (by omega) i (Ids.nil _) (by simp)).thn (fun h=>by simp only [Job.rank];omega) fun b x r q=>?_
 have o:=q.lo;have y:=q.few;have d:=q.len;simp only [Job.reads] at o
 split
 ·rename_i e
  have h1:=cB e (by simp);split
  ·exact dV.bad (by omega)
  ·refine dV.dQ (by simp) (by omega) fun v=>?_
   exact (yj (by omega) (by omega) (by omega) (fD c q.more) q.wf ((hi.mono d).app (Ids.cons q.hd (Ids.nil _)))).imp (fun h=>by omega)
 ·exact (yj q.le (by omega) (by omega) (fD c q.more) q.wf ((hi.mono d).app (Ids.cons q.hd (Ids.nil _)))).imp (fun h=>by omega)
theorem E_ {k:Nat}(h:¬ gZ (tx l k)=0):k < l.length:=by
 rcases Nat.lt_or_ge k l.length with h1 | h1
 ·exact h1
 ·exfalso;apply h
  have:tx l k=[]:=by unfold tx;rw [mU l k h1]
  rw [this];rfl
theorem zW {n k:Nat}{ns:List Nd}(w:k≤l.length)(d:Wf ns):dV (13 * (l.length - k)+12 < n) l k (k+1) ns (item l en n k ns):=by
 unfold item;split
 case isFalse=>exact dV.bad w
 rename_i e
 have h1:=h_ e (by simp);split
 case h_2=>exact dV.bad w
 rename_i B _
 cases B with
 | choose =>
  unfold iq;refine dV.dQ (by simp) (by omega) fun g=>dV.need (by simp) (by omega) fun i=>?_
  refine (yw (by omega) d).thn (fun _=>trivial) fun a u o q=>dV.need (by simp) q.le fun y=>?_
  have c:=q.lo;have f:=q.few;refine (yw (by omega) q.wf).thn (fun _=>trivial) fun b F E r=>?_
  have r1:=r.lo;have r2:=r.few;have G:=r.len;have D:=q.hd;exact dV.add _ (by omega) r.le (by omega) (fD q.more r.more) r.wf (Ids.cons (by omega) (Ids.cons r.hd (Ids.nil _)))
 | record =>
  unfold iq;refine dV.dQ (by simp) (by omega) fun g=>dV.need (by simp) (by omega) fun i=>dV.need (by simp) (by omega) fun y=>?_
  refine (oQ (m:=n) (j:=.list .param) (by omega) d (Ids.nil _) (by simp)).thn (fun h=>by simp only [Job.rank];omega) fun as u o q=>dV.need (by simp) q.le fun C=>?_
  have c:=q.lo;have f:=q.few;simp only [Job.reads] at c
  exact dV.add _ (by omega) (by omega) (by omega) q.more q.wf q.ids
 | zY =>
  unfold iq;refine dV.dQ (by simp) (by omega) fun g=>dV.need (by simp) (by omega) fun i=>?_
  split
  ·exact (yu (by omega) (by omega) (by omega) (dS _) d (Ids.nil _)).imp (fun h=>by omega)
  ·refine (oQ (m:=n) (j:=.list .param) (by omega) d (Ids.nil _) (by simp)).thn (fun h=>by simp only [Job.rank];omega) fun as u o q=>?_
   have c:=q.lo;have f:=q.few;simp only [Job.reads] at c
   exact (yu q.le (by omega) (by omega) q.more q.wf q.ids).imp (fun h=>by omega)
 | Az =>
  unfold iq;refine dV.dQ (by simp) (by omega) fun g=>dV.need (by simp) (by omega) fun i=>?_
  refine (oQ (m:=n) (j:=.expr) (by omega) d (Ids.nil _) (by simp)).thn (fun h=>by simp only [Job.rank];omega) fun b x v q=>?_
  have c:=q.lo;have f:=q.few;simp only [Job.reads] at c
  exact dV.add _ (by omega) q.le (by omega) q.more q.wf (Ids.cons q.hd (Ids.nil _))
 | observe =>
  unfold iq;refine dV.dQ (by simp) (by omega) fun g=>dV.need (by simp) (by omega) fun i=>?_
  refine (oQ (m:=n) (j:=.expr) (by omega) d (Ids.nil _) (by simp)).thn (fun h=>by simp only [Job.rank];omega) fun b x v q=>?_
  have c:=q.lo;have f:=q.few;simp only [Job.reads] at c
  exact dV.add _ (by omega) q.le (by omega) q.more q.wf (Ids.cons q.hd (Ids.nil _))
 | mD =>
  unfold iq;exact dV.dQ (by simp) (by omega) fun g=>dV.add _ (by omega) (by omega) (by omega) (dS _) d (Ids.nil _)
 | ask =>
  show dV _ l k (k+1) ns (A_ l en n k ns)
  unfold A_;split
  ·exact dV.bad (by omega)
  ·rename_i A
   have h2:=E_ A;split
   ·exact dV.add _ (by omega) (by omega) (by omega) (dS _) d (Ids.nil _)
   ·split
    ·refine (oQ (m:=n) (j:=.list .expr) (by omega) d (Ids.nil _) (by simp)).thn (fun h=>by simp only [Job.rank];omega) fun as u o q=>?_
     have c:=q.lo;have f:=q.few;simp only [Job.reads] at c
     exact dV.add _ (by omega) q.le (by omega) q.more q.wf q.ids
    ·refine (oQ (m:=n) (j:=.expr) (by omega) d (Ids.nil _) (by simp)).thn (fun h=>by simp only [Job.rank];omega) fun b x v q=>?_
     have c:=q.lo;have f:=q.few;simp only [Job.reads] at c
     exact dV.add _ (by omega) q.le (by omega) q.more q.wf (Ids.cons q.hd (Ids.nil _))
theorem Ay {n k b:Nat}{ns a:List Nd}{as:List Int}(c:k≤l.length)(d:Wf ns)(e:item l en n k ns=some (.ok as b a)):Goes l k (k+1) ns as b a:=((zW c d).2 _ e).1 as b a rfl
end
section
variable (l:List Tok)
def rO (s:RS):List Int × RS :=
 if s.next l=[45] then (s.dU.word l 2).2.put ⟨1,[],-kH (s.dU.word l 2).1,[],s.place l⟩
 else (s.word l 2).2.put ⟨1,[],kH (s.word l 2).1,[],s.place l⟩
def rup (s:RS):Int × RS :=
 if s.next l=[117,112,116,111] then
  if s.dU.next l=[48] then (kH (s.dU.fail.word l 2).1,(s.dU.fail.word l 2).2)
  else (kH (s.dU.word l 2).1,(s.dU.word l 2).2)
 else (0,s)
def kT (n:Nat)(x:Bs)(at_:Int)(ps:List Int)(s:RS):Option (List Int × RS) :=
 jF (bH l n .typ ((s.take l [41]).take l [58])) fun t s1=>jF (bH l n .expr ((rup l s1).2.take l [61])) fun b s2=>some (s2.put ⟨42,x,(rup l s1).1,ps ++ [hd t] ++ [hd b],at_⟩)
def MW (n:Nat)(at_:Int)(s:RS):Option (List Int × RS) :=
 if gZ (s.next l)=0 then some ([0],s.fail)
 else if gZ (s.next l)=7 then some (s.dU.put ⟨46,[],7,[],at_⟩)
 else if gZ (s.next l)=8 then jF (bH l n (.list .expr) s.dU) fun as s1=>some (s1.put ⟨46,[],8,as,at_⟩)
 else jF (bH l n .expr s.dU) fun a s1=>some (s1.put ⟨46,[],(gZ (s.next l):Nat),[hd a],at_⟩)
def fG (n:Nat)(at_:Int)(x:Bs):It→RS→Option (List Int × RS)
 | .choose,s=>jF (some (rO l (s.take l [58]))) fun a s1=>jF (some (rO l (s1.take l [46,46]))) fun b s2=>some (s2.put ⟨40,x,0,[hd a,hd b],at_⟩)
 | .record,s=>jF (bH l n (.list .param) ((s.take l [61]).take l [123])) fun as s1=>some ((s1.take l [125]).put ⟨41,x,0,as,at_⟩)
 | .zY,s=>if (s.take l [40]).next l=[41] then kT l n x at_ [] (s.take l [40]) else jF (bH l n (.list .param) (s.take l [40])) fun ps s1=>kT l n x at_ ps s1
 | .Az,s=>jF (bH l n .expr (s.take l [61])) fun a s1=>some (s1.put ⟨43,x,0,[hd a],at_⟩)
 | .observe,s=>jF (bH l n .expr (s.take l [58])) fun a s1=>some (s1.put ⟨44,x,0,[hd a],at_⟩)
 | .mD,s=>some (s.put ⟨45,x,0,[],at_⟩)
 | .ask,_=>none
def Fg (n:Nat)(s:RS):Option (List Int × RS) :=
 if s.kind l=3 then
  match F6 (s.next l) with
  | some .ask=>MW l n (s.place l) s.dU
  | some i=>fG l n (s.place l) (s.dU.word l 1).1 i (s.dU.word l 1).2
  | none=>some ([0],s.fail)
 else some ([0],s.fail)
def qI (n:Nat):Nat→RS→List Int→Option (List Int × RS)
 | 0,_,_=>none
 | m+1,s,its =>
  if s.bad=false∧s.k < l.length then jF (Fg l n s) fun a s1=>qI n m (s1.take l [59]) (its ++ [hd a])
  else some (its,s)
end
section
variable {l:List Tok} {en:Int} {k M:Nat} {ns:List Nd}
theorem uZ (h:ns.length < M):bU k M (some (rO l ⟨k,true,ns⟩)):=by
 unfold rO;rw [jS,if_neg (by simp),pq (by simp)];exact bU.put _ h
theorem Jb:rup l ⟨k,true,ns⟩=(0,⟨k,true,ns⟩):=by unfold rup;rw [jS,if_neg (by simp)]
theorem uz (n:Nat)(x:Bs)(at_:Int)(ps:List Int)(c:20≤n)(h:ns.length+3≤M):bU k M (kT l n x at_ ps ⟨k,true,ns⟩):=by
 unfold kT;rw [dN (by simp),dN (by simp)];refine (uD n (by omega)).jF fun t a h1=>?_
 rw [Jb];(try dsimp only);rw [dN (by simp)];exact (fB n (by omega)).jF fun b d h2=>bU.put _ (by omega)
theorem Sj (hK:∀ t ∈ l,Mist.kind t.text=t.kind)(b:ns.length < M):iT M (uR l en k ns) (some (rO l ⟨k,false,ns⟩)):=by
 unfold uR rO;rw [gu,show RS.dU ⟨k,false,ns⟩=⟨k+1,false,ns⟩ from rfl];by_cases e:tx l k=[45]
 ·rw [if_pos e,if_pos e];refine iT.dQ (ns:=ns) (fun a E=>?_) (fun E=>?_)
  ·rw [E,gX (en:=en) (cB e (by simp)),uY hK a];exact iT.add _
  ·rw [E];exact bU.put _ b
 ·rw [if_neg e,if_neg e];refine iT.dQ (ns:=ns) (fun a E=>?_) (fun E=>?_)
  ·rw [E,gX (en:=en) (h_ a (by simp)),uY hK a];exact iT.add _
  ·rw [E];exact bU.put _ b
theorem iT.bad {q:Option (List Int × RS)}(h:bU k M q):iT M (some (.bad k)) q :=
 ⟨fun _ _ _ e=>(by injection e with e;cases e),fun a e=>by injection e with e;injection e with e;subst e;exact h⟩
section
variable (hK:∀ t ∈ l,Mist.kind t.text=t.kind)
include hK
theorem rC (n:Nat)(j:Job)(c:k≤l.length)(d:ns.length≤k)(f:Wf ns)(hi:Ids j.args ns.length)(b:∀ e a,j=.gQ e a→a ≠ [])(g:13 * l.length+40 < n):iT (l.length+4 * n) (run l en n j k ns) (bH l n j ⟨k,false,ns⟩):=by
 refine Nq hK n j k ns c d f hi b ?_
 have:j.rank≤12:=by
  cases j with
  | lv v=>cases v <;> decide
  | _=>first | decide | simp [Job.rank]
 omega
theorem Bw (n k a:Nat)(ps:List Int)(t u:Int)(q:ns.length≤a)(o:a≤l.length)(g:Wf ns)(d:13 * l.length+40 < n)(m:l.length+4 * n+20≤M) :
  iT M (mQ l en n k ps t u a ns) (jF (bH l n .expr (RS.take l [61] ⟨a,false,ns⟩)) fun b i=>some (i.put ⟨42,tx l (k+1),u,ps ++ [t] ++ [hd b],pl l en k⟩)):=by
 unfold mQ;refine iT.need (ns:=ns) (fun e E=>?_) (fun E=>?_)
 ·have h1:=cB e (by simp);rw [E];exact (rC hK n .expr (by omega) (by omega) g (Ids.nil _) (by simp) d).thn (fun b h c r=>iT.add _) (fun j h c f=>bU.put _ (by omega))
 ·rw [E];exact (fB n (by omega)).jF fun b v f=>bU.put _ (by omega)
theorem Bz (n k i:Nat)(ps:List Int)(D:ns.length≤i)(C:i≤l.length)(w:Wf ns)(o:13 * l.length+40 < n)(v:l.length+4 * n+20≤M) :
  iT M (oJ l en n k ps i ns) (kT l n (tx l (k+1)) (pl l en k) ps ⟨i,false,ns⟩):=by
 unfold oJ;refine iT.need (ns:=ns) (fun e E=>?_) (fun E=>?_)
 ·have h1:=cB e (by simp);refine iT.need (ns:=ns) (fun y j=>?_) (fun j=>?_)
  ·have h2:=cB y (by simp);unfold kT;rw [E,j];refine (rC hK n .typ (by omega) (by omega) w (Ids.nil _) (by simp) o).thn (fun t c a r=>?_) (fun F c a q=>?_)
   ·have g:=dG r (by omega) w (Ids.nil _) (by simp);have B:=g.few;have A:=g.le
    try dsimp only
    by_cases d:tx l c=[117,112,116,111]
    ·have h3:=cB d (by simp);rw [if_pos d];by_cases h:tx l (c+1)=[48]
     ·rw [if_pos h]
      have f:rup l ⟨c,false,a⟩=(kH [],⟨c+1,true,a⟩):=by
       unfold rup;rw [gu,if_pos d,show RS.dU ⟨c,false,a⟩=⟨c+1,false,a⟩ from rfl,gu,if_pos h,show RS.fail ⟨c+1,false,a⟩=⟨c+1,true,a⟩ from rfl,pq (by simp)]
      rw [f];refine iT.bad ?_
      (try dsimp only);rw [dN (by simp)]
      exact (fB n (by omega)).jF fun b a q=>bU.put _ (by omega)
     ·rw [if_neg h];refine iT.dQ (ns:=a) (fun u m=>?_) (fun m=>?_)
      ·have f:rup l ⟨c,false,a⟩=(kH (tx l (c+1)),⟨c+2,false,a⟩):=by
        unfold rup;rw [gu,if_pos d,show RS.dU ⟨c,false,a⟩=⟨c+1,false,a⟩ from rfl,gu,if_neg h,m]
       rw [f,uY hK u];have h5:=h_ u (by simp);exact Bw hK n k (c+2) ps (hd t) _ (by omega) (by omega) g.wf o v
      ·have f:rup l ⟨c,false,a⟩=(kH [],⟨c+1,true,a⟩):=by
        unfold rup;rw [gu,if_pos d,show RS.dU ⟨c,false,a⟩=⟨c+1,false,a⟩ from rfl,gu,if_neg h,m]
       rw [f]
       (try dsimp only);rw [dN (by simp)]
       exact (fB n (by omega)).jF fun b a q=>bU.put _ (by omega)
    ·rw [if_neg d]
     have f:rup l ⟨c,false,a⟩=(0,⟨c,false,a⟩):=by
      unfold rup;rw [gu,if_neg d]
     rw [f];exact Bw hK n k c ps (hd t) 0 (by omega) A g.wf o v
   ·try dsimp only
    rw [Jb];(try dsimp only);rw [dN (by simp)];exact (fB n (by omega)).jF fun b a q=>bU.put _ (by omega)
  ·unfold kT;rw [E,j];refine (uD n (by omega)).jF fun t x h1=>?_
   rw [Jb];(try dsimp only);rw [dN (by simp)];exact (fB n (by omega)).jF fun b a h2=>bU.put _ (by omega)
 ·unfold kT;rw [E,dN (by simp)];refine (uD n (by omega)).jF fun t x h1=>?_
  rw [Jb];(try dsimp only);rw [dN (by simp)];exact (fB n (by omega)).jF fun b a h2=>bU.put _ (by omega)
theorem aad (n:Nat)(R:k≤l.length)(A:ns.length≤k)(j:Wf ns)(u:13 * l.length+40 < n)(Q:l.length+4 * n+30≤M):iT M (item l en n k ns) (Fg l n ⟨k,false,ns⟩):=by
 unfold item Fg;rw [Hl,gu];by_cases e:(tg l k).kind=3
 case neg=>rw [if_neg e,if_neg e];exact iT.bad (bU.give _ (show ns.length≤M by omega))
 rw [if_pos e,if_pos e];have h1:=h_ e (by simp);rw [show RS.dU ⟨k,false,ns⟩=⟨k+1,false,ns⟩ from rfl,gX (en:=en) h1]
 have y:∀ (at_:Int) (x:Bs) (B:It),B ≠ .ask→∀ J i,i.length≤k→bU J M (fG l n at_ x B ⟨J,true,i⟩):=by
  intro at_ x B I J i v
  cases B with
  | choose =>
   unfold fG;dsimp only;rw [dN (by simp)];refine (uZ (M:=i.length+1) (by omega)).jF fun a d h1=>?_
   rw [dN (by simp)];refine (uZ (M:=i.length+2) (by omega)).jF fun b m h2=>bU.put _ (by omega)
  | record =>
   unfold fG;dsimp only;rw [dN (by simp),dN (by simp)];refine (rV n .param (by omega)).jF fun as d h1=>?_
   rw [dN (by simp)];exact bU.put _ (by omega)
  | zY =>
   unfold fG;dsimp only;rw [dN (by simp),jS,if_neg (by simp)];exact (rV n .param (by omega)).jF fun as d h1=>uz n x at_ as (by omega) (by omega)
  | Az =>
   unfold fG;dsimp only;rw [dN (by simp)];exact (fB n (by omega)).jF fun b m h2=>bU.put _ (by omega)
  | observe =>
   unfold fG;dsimp only;rw [dN (by simp)];exact (fB n (by omega)).jF fun b m h2=>bU.put _ (by omega)
  | mD=>exact bU.put _ (by omega)
  | ask=>exact absurd rfl I
 cases hi:F6 (tx l k) with
 | none=>exact iT.bad (bU.give _ (show ns.length≤M by omega))
 | some B =>
  cases B with
  | choose =>
   unfold iq
   try dsimp only
   refine iT.dQ (ns:=ns) (fun C c=>?_) (fun c=>?_)
   ·rw [c];(try dsimp only);unfold fG;dsimp only;refine iT.need (ns:=ns) (fun o f=>?_) (fun f=>?_)
    ·have h2:=cB o (by simp);rw [f];refine (Sj hK (M:=M - 3) (by omega)).thn (fun a h d r=>?_) (fun as h d v=>?_)
     ·have g:=((yw (en:=en) (by omega) j).2 _ r).1 _ _ _ rfl;have K:=g.few;have H:=g.le;refine iT.need (ns:=d) (fun q w=>?_) (fun w=>?_)
      ·have h3:=cB q (by simp)
       (try dsimp only);rw [w]
       refine (Sj hK (M:=M - 1) (by omega)).thn (fun b L m r2=>iT.add _) (fun N L m v=>bU.put _ (by omega))
      ·(try dsimp only);rw [w]
       exact (uZ (M:=M - 1) (by omega)).jF fun b m h2=>bU.put _ (by omega)
     ·(try dsimp only);rw [dN (by simp)]
      exact (uZ (M:=M - 2) (by omega)).jF fun b m h2=>bU.put _ (by omega)
    ·rw [f];refine (uZ (M:=ns.length+1) (by omega)).jF fun a d h1=>?_
     rw [dN (by simp)];refine (uZ (M:=ns.length+2) (by omega)).jF fun b m h2=>bU.put _ (by omega)
   ·rw [c];exact y _ _ .choose (by simp) _ _ A
  | record =>
   unfold iq
   try dsimp only
   refine iT.dQ (ns:=ns) (fun C c=>?_) (fun c=>?_)
   ·rw [c];(try dsimp only);unfold fG;dsimp only;refine iT.need (ns:=ns) (fun o f=>?_) (fun f=>?_)
    ·refine iT.need (ns:=ns) (fun q w=>?_) (fun w=>?_)
     ·have h3:=cB q (by simp);rw [f,w];refine (rC hK n (.list .param) (by omega) (by omega) j (Ids.nil _) (by simp) u).thn (fun as h d r=>?_) (fun as h d v=>?_)
      ·have g:=dG r (by omega) j (Ids.nil _) (by simp);have K:=g.few;have H:=g.le;refine iT.need (ns:=d) (fun P G=>?_) (fun G=>?_)
       ·(try dsimp only);rw [G];exact iT.add _
       ·(try dsimp only);rw [G];exact bU.put _ (by omega)
      ·(try dsimp only);rw [dN (by simp)];exact bU.put _ (by omega)
     ·rw [f,w];refine (rV n .param (by omega)).jF fun as d h1=>?_
      rw [dN (by simp)];exact bU.put _ (by omega)
    ·rw [f,dN (by simp)];refine (rV n .param (by omega)).jF fun as d h1=>?_
     rw [dN (by simp)];exact bU.put _ (by omega)
   ·rw [c];exact y _ _ .record (by simp) _ _ A
  | zY =>
   unfold iq
   try dsimp only
   refine iT.dQ (ns:=ns) (fun C c=>?_) (fun c=>?_)
   ·rw [c];(try dsimp only);unfold fG;dsimp only;refine iT.need (ns:=ns) (fun o f=>?_) (fun f=>?_)
    ·have h2:=cB o (by simp);rw [f,gu];by_cases q:tx l (k+3)=[41]
     ·rw [if_pos q,if_pos q];exact Bz hK n k (k+3) [] (by omega) (by omega) j u (by omega)
     ·rw [if_neg q,if_neg q];refine (rC hK n (.list .param) (by omega) (by omega) j (Ids.nil _) (by simp) u).thn (fun as h d r=>?_) (fun as h d v=>?_)
      ·have g:=dG r (by omega) j (Ids.nil _) (by simp);have K:=g.few;have H:=g.le;exact Bz hK n k h as (by omega) H g.wf u (by omega)
      ·exact uz n _ _ as (by omega) (by omega)
    ·rw [f,jS,if_neg (by simp)];exact (rV n .param (by omega)).jF fun as d h1=>uz n _ _ as (by omega) (by omega)
   ·rw [c];exact y _ _ .zY (by simp) _ _ A
  | Az =>
   unfold iq
   try dsimp only
   refine iT.dQ (ns:=ns) (fun C c=>?_) (fun c=>?_)
   ·rw [c];(try dsimp only);unfold fG;dsimp only;refine iT.need (ns:=ns) (fun o f=>?_) (fun f=>?_)
    ·have h2:=cB o (by simp);rw [f];exact (rC hK n .expr (by omega) (by omega) j (Ids.nil _) (by simp) u).thn (fun as h d r=>iT.add _) (fun as h d v=>bU.put _ (by omega))
    ·rw [f];exact (fB n (by omega)).jF fun b m h2=>bU.put _ (by omega)
   ·rw [c];exact y _ _ .Az (by simp) _ _ A
  | observe =>
   unfold iq
   try dsimp only
   refine iT.dQ (ns:=ns) (fun C c=>?_) (fun c=>?_)
   ·rw [c];(try dsimp only);unfold fG;dsimp only;refine iT.need (ns:=ns) (fun o f=>?_) (fun f=>?_)
    ·have h2:=cB o (by simp);rw [f];exact (rC hK n .expr (by omega) (by omega) j (Ids.nil _) (by simp) u).thn (fun as h d r=>iT.add _) (fun as h d v=>bU.put _ (by omega))
    ·rw [f];exact (fB n (by omega)).jF fun b m h2=>bU.put _ (by omega)
   ·rw [c];exact y _ _ .observe (by simp) _ _ A
  | mD =>
   unfold iq
   try dsimp only
   refine iT.dQ (ns:=ns) (fun C c=>?_) (fun c=>?_)
   ·rw [c];exact iT.add _
   ·rw [c];exact y _ _ .mD (by simp) _ _ A
  | ask =>
   show iT M (A_ l en n k ns) (MW l n (pl l en k) ⟨k+1,false,ns⟩)
   unfold A_ MW;rw [gu,show RS.dU ⟨k+1,false,ns⟩=⟨k+2,false,ns⟩ from rfl,show RS.fail ⟨k+1,false,ns⟩=⟨k+1,true,ns⟩ from rfl];by_cases D:gZ (tx l (k+1))=0
   ·rw [if_pos D,if_pos D];exact iT.bad (bU.give _ (by omega))
   have h2:=E_ D;rw [if_neg D,if_neg D];by_cases E:gZ (tx l (k+1))=7
   ·rw [if_pos E,if_pos E];exact iT.add _
   rw [if_neg E,if_neg E];by_cases F:gZ (tx l (k+1))=8
   ·rw [if_pos F,if_pos F];exact (rC hK n (.list .expr) (by omega) (by omega) j (Ids.nil _) (by simp) u).thn (fun as h d r=>iT.add _) (fun as h d v=>bU.put _ (by omega))
   rw [if_neg F,if_neg F];exact (rC hK n .expr (by omega) (by omega) j (Ids.nil _) (by simp) u).thn (fun as h d r=>iT.add _) (fun as h d v=>bU.put _ (by omega))
theorem Mi (n:Nat)(q:13 * l.length+40 < n)(j:l.length+4 * n+30≤M):∀ (m k:Nat) (ns:List Nd) (b:List Int),k≤l.length→ns.length≤k→Wf ns→l.length < k+m→iT M (prog l en n m k ns b) (qI l n m ⟨k,false,ns⟩ b)
 | 0,_,_,_,h1,_,_,h2=>by omega
 | m+1,k,ns,b,hk,hn,hw,hm=>by
  rw [prog,qI];by_cases c:k < l.length
  case neg =>
   rw [if_neg c,if_neg (by simpa using c)];exact iT.give _
  rw [if_pos c,if_pos ⟨rfl,c⟩]
  have o:∀ (b:List Int) i d,d.length≤M→bU i M (qI l n m ⟨i,true,d⟩ b):=by
   intro b i d h;obtain⟨m,rfl⟩:∃ v,m=v+1:=⟨m - 1,by omega⟩;rw [qI,if_neg (by simp)];exact bU.give _ h
  refine (aad hK n hk hn hw q j).thn (fun a u f r=>?_) (fun as u f h=>?_)
  ·have g:=Ay hk hw r;have w:=g.lo;have x:=g.few;have y:=g.le;refine iT.need (ns:=f) (fun e E=>?_) (fun E=>?_)
   ·have h1:=cB e (by simp)
    (try dsimp only);rw [E]
    exact Mi n q j m (u+1) f _ (by omega) (by omega) g.wf (by omega)
   ·(try dsimp only);rw [E];exact o _ _ _ (by omega)
  ·(try dsimp only);rw [dN (by simp)];exact o _ _ _ h
end
theorem Ig (n:Nat)(C:13 * l.length+40 < n):∀ (m k:Nat) (ns:List Nd) (c:List Int),k≤l.length→Wf ns→l.length < k+m→Ids c ns.length →
  ∃ r,prog l en n m k ns c=some r∧(∀ f d b,r=.ok f d b→d=l.length∧b.length+k≤ns.length+l.length∧(∃ t,b=ns ++ t)∧Wf b∧Ids f b.length∧f.length+k≤c.length+l.length)∧∀ d,r=.bad d→d≤l.length
 | 0,_,_,_,h1,_,h2,_=>by omega
 | m+1,k,ns,c,hk,hw,hm,hi=>by
  rw [prog];by_cases i:k < l.length
  case neg =>
   rw [if_neg i]
   refine⟨_,rfl,fun f d b e=>?_,fun d e=>by cases e⟩
   injection e with v w y
   subst v;subst w;subst y;exact⟨by omega,by omega,dS _,hw,hi,by omega⟩
  rw [if_pos i];obtain⟨x,o⟩:=(zW (l:=l) (en:=en) (n:=n) hk hw).1 (by omega);rw [o]
  cases x with
  | bad j =>
   refine⟨_,rfl,fun _ _ _ e=>(by cases e),fun d e=>?_⟩
   injection e with e
   subst e;exact ((zW (l:=l) (en:=en) (n:=n) hk hw).2 _ o).2 _ rfl
  | ok a j u =>
   have g:=Ay hk hw o;have H:=g.lo;have I:=g.few;have A:=g.le;have B:=g.len
   show ∃ r,need l [59] j _=some r∧_
   unfold need;by_cases e:tx l j=[59]
   ·rw [if_pos e];have h1:=cB e (by simp);obtain⟨r,h,p,q⟩:=Ig n C m (j+1) u (c ++ [hd a]) (by omega) g.wf (by omega) ((hi.mono B).app (Ids.cons g.hd (Ids.nil _)))
    refine⟨r,h,fun f d b e=>?_,q⟩
    obtain⟨p1,J,D,E,F,G⟩:=p f d b e;rw [ak5,ak_] at G
    exact⟨p1,by omega,fD g.more D,E,F,by omega⟩
   ·rw [if_neg e];exact⟨_,rfl,fun _ _ _ e=>(by cases e),fun d e=>by injection e with e;subst e;exact A⟩
end
end Mist
namespace Mist
def fV (ns:List Nd)(c:Int):Nat × Bool:=((ns.getD c.toNat default).kind,decide ((ns.getD c.toNat default).n < 0))
def yH (n:Nd)(i:Nat)(q:Nat × Bool):Bool:=jY n i q.1 && !(q.1 == 1 && q.2 && !(n.kind == 40))
def tJ (n:Nd):Nat→List (Nat × Bool)→Bool
 | _,[]=>true
 | i,q :: r=>yH n i q && tJ n (i+1) r
def okB (n:Nd)(ki:List (Nat × Bool)):Bool :=
 (ji n.kind || n.kind == 25 || jf n.kind || n.kind == 34 || fM n.kind) && (jB n.kind == isName n.text) && (jB n.kind || n.text.isEmpty) && jv n && gU n && within n.at_ 0 2000 && tJ n 0 ki
def wH (ns:List Nd)(n:Nd):Prop:=okB n (n.kids.map (fV ns))=true
def mX (ns:List Nd):Prop:=∀ (i:Nat) n,ns[i]? = some n→wH ns n
inductive Fo (ns:List Nd):Nat→Nat→List Int→Prop
 | nil (a:Nat):Fo ns a a []
 | snoc {a m b:Nat} {as:List Int} {n:Nd} (h:Fo ns a m as) (k:Fo ns m b n.kids) (e:ns[b]? = some n):Fo ns a (b+1) (as ++ [(b:Int)])
theorem Fo.le {ns:List Nd}{a b:Nat}{as:List Int}(h:Fo ns a b as):a≤b:=by
 induction h with
 | nil=>exact ak0 _
 | snoc _ _ _ i j=>omega
theorem Fo.mono {ns:List Nd}{a b:Nat}{as:List Int}(h:Fo ns a b as)(t:List Nd):Fo (ns ++ t) a b as:=by
 induction h with
 | nil a=>exact .nil a
 | snoc _ _ e i j=>exact .snoc i j (by rw [List.getElem?_append_left (akV.1 e).1];exact e)
theorem Fo.append {ns:List Nd}{a m b:Nat}{as c:List Int}(h:Fo ns a m as)(k:Fo ns m b c):Fo ns a b (as ++ c):=by
 induction k with
 | nil=>simpa using h
 | snoc f d e i j=>rw [← List.append_assoc];exact .snoc (i h) d e
theorem Fo.one {ns:List Nd}{a b:Nat}{n:Nd}(h:Fo ns a b n.kids)(e:ns[b]? = some n):Fo ns a (b+1) [(b:Int)]:=.snoc (.nil a) h e
theorem Fo.ids {ns:List Nd}{a b:Nat}{as:List Int}(h:Fo ns a b as):∀ c ∈ as,(a:Int)≤c∧c < (b:Int):=by
 induction h with
 | nil=>intro c d;cases d
 | snoc h k e i j =>
  intro c d;have h1:=h.le;have h2:=k.le;rcases List.mem_append.1 d with d | d
  ·have:=i c d;omega
  ·have:c=_:=List.mem_singleton.1 d
   omega
theorem Ec {ns:List Nd}{c:Int}(t:List Nd)(h0:0≤c)(h:c < (ns.length:Int)):fV (ns ++ t) c=fV ns c:=by
 unfold fV;have h1:c.toNat < ns.length:=by omega
 simp [akY,List.getElem?_append_left h1]
theorem wH.mono {ns:List Nd}{n:Nd}(h:wH ns n)(b:Ids n.kids ns.length)(t:List Nd):wH (ns ++ t) n:=by
 unfold wH at h ⊢
 rw [← h]
 congr 1
 apply List.map_congr_left
 intro c a;exact Ec t (b c a).1 (b c a).2
theorem mX.add {ns:List Nd}{n:Nd}(h:mX ns)(e:Wf ns)(d:wH ns n)(b:Ids n.kids ns.length):mX (ns ++ [n]):=by
 intro i m hi;rcases Nat.lt_or_ge i ns.length with h1 | h1
 ·rw [List.getElem?_append_left h1] at hi
  refine (h i m hi).mono (fun c a=>?_) _
  have:=e i m hi c a
  omega
 ·rw [List.getElem?_append_right h1] at hi
  have h2:i - ns.length=0:=by
   rcases Nat.eq_zero_or_pos (i - ns.length) with h2 | h2
   ·exact h2
   ·rw [List.getElem?_eq_none (by simp;omega)] at hi;cases hi
  rw [h2] at hi
  have:n=m:=by simpa using hi
  subst this;exact d.mono b _
def pE (q:Nat × Bool):Bool:=ji q.1 && !(q.1 == 1 && q.2)
def El.p:El→Nat × Bool→Bool
 | .expr=>pE
 | .put=>fun q=>q.1 == 25
 | .param=>fun q=>q.1 == 34
def Job.p:Job→Nat × Bool→Bool
 | .put=>fun q=>q.1 == 25
 | .param=>fun q=>q.1 == 34
 | .typ=>fun q=>jf q.1
 | .list e=>e.p
 | .gQ e _=>e.p
 | _=>pE
def Job.many:Job→Bool
 | .list _=>true
 | .gQ _ _=>true
 | _=>false
structure Grown (lo:Nat) (ns0:List Nd) (p:Nat × Bool→Bool) (many:Bool) (as:List Int) (ns:List Nd):Prop where
 ok:mX ns
 wf:Wf ns
 more:∃ t,ns=ns0 ++ t
 fo:Fo ns lo ns.length as
 all:∀ a ∈ as,p (fV ns a)=true
 ne:as ≠ []
 one:many=false→as=[hd as]
def Seg (lo:Nat)(ns0:List Nd)(p:Nat × Bool→Bool)(many:Bool)(r:Option kX):Prop:=∀ as k ns,r=some (.ok as k ns)→Grown lo ns0 p many as ns
theorem Grown.xg {lo:Nat}{ns0 ns:List Nd}{p:Nat × Bool→Bool}{as:List Int}(g:Grown lo ns0 p false as ns):Fo ns lo ns.length [hd as]:=by
 have:=g.fo;rwa [g.one rfl] at this
theorem Grown.all1 {lo:Nat}{ns0 ns:List Nd}{p:Nat × Bool→Bool}{m:Bool}{as:List Int}(g:Grown lo ns0 p m as ns):p (fV ns (hd as))=true:=by
 cases as with
 | nil=>exact absurd rfl g.ne
 | cons a r=>exact g.all a (List.mem_cons_self ..)
theorem Seg.bad {lo k:Nat}{ns0:List Nd}{p:Nat × Bool→Bool}{many:Bool}:Seg lo ns0 p many (some (.bad k)):=fun as k ns e=>by injection e with e;cases e
theorem Seg.none {lo:Nat}{ns0:List Nd}{p:Nat × Bool→Bool}{many:Bool}:Seg lo ns0 p many none:=fun as k ns e=>by cases e
theorem Seg.add {lo k:Nat}{ns0 ns:List Nd}{p:Nat × Bool→Bool}{many:Bool}(n:Nd)(j:mX ns)(d:Wf ns)(q:∃ t,ns=ns0 ++ t)(b:Fo ns lo ns.length n.kids)(r:wH ns n)(u:p (n.kind,decide (n.n < 0))=true):Seg lo ns0 p many (Mist.add n k ns):=by
 intro as w v e;injection e with e
 injection e with f g i
 subst f;subst g;subst i;have hi:Ids n.kids ns.length:=fun c m=>by have:=b.ids c m;omega
 have o:(ns ++ [n])[ns.length]? = some n:=by simp
 refine⟨j.add d r hi,d.add hi,fD q ⟨[n],rfl⟩,?_,fun a h=>?_,by simp,fun _=>rfl⟩
 ·rw [ak5,ak_];exact Fo.one (b.mono _) o
 ·have:a=_:=List.mem_singleton.1 h
  subst this;unfold fV
  simpa [akY] using u
theorem Seg.give {lo k:Nat}{ns:List Nd}{p:Nat × Bool→Bool}{many:Bool}{as:List Int}(f:mX ns)(j:Wf ns)(g:Fo ns lo ns.length as)(i:∀ a ∈ as,p (fV ns a)=true)(h:as ≠ [])(h1:many=false→as=[hd as]):Seg lo ns p many (some (.ok as k ns)):=by
 intro as n m e;injection e with e
 injection e with b c d
 subst b;subst c;subst d;exact⟨f,j,dS _,g,i,h,h1⟩
theorem Seg.need {l:List Tok}{t:Bs}{k lo:Nat}{ns0:List Nd}{p:Nat × Bool→Bool}{many:Bool}{f:Option kX}(h:tx l k=t→Seg lo ns0 p many f):Seg lo ns0 p many (Mist.need l t k f):=by
 unfold Mist.need;split
 ·rename_i e;exact h e
 ·exact Seg.bad
theorem Seg.dQ {l:List Tok}{c k lo:Nat}{ns0:List Nd}{p:Nat × Bool→Bool}{many:Bool}{f:Option kX}(h:(tg l k).kind=c→Seg lo ns0 p many f):Seg lo ns0 p many (Mist.dQ l c k f):=by
 unfold Mist.dQ;split
 ·rename_i e;exact h e
 ·exact Seg.bad
theorem Seg.thn {lo a:Nat}{ns0 b:List Nd}{p p1:Nat × Bool→Bool}{many many1:Bool}{r:Option kX}{f:List Int→Nat→List Nd→Option kX}(h:Seg a b p1 many1 r)(c:∀ as k ns,r=some (.ok as k ns)→Grown a b p1 many1 as ns→Seg lo ns0 p many (f as k ns)):Seg lo ns0 p many (Mist.thn r f):=by
 cases r with
 | none=>exact Seg.none
 | some x =>
  cases x with
  | bad k=>exact Seg.bad
  | ok as k ns=>exact c as k ns rfl (h as k ns rfl)
theorem Seg.on {lo:Nat}{ns0 a:List Nd}{p:Nat × Bool→Bool}{many:Bool}{r:Option kX}(h:Seg lo a p many r)(b:∃ t,a=ns0 ++ t):Seg lo ns0 p many r:=fun as k ns e =>
 let g:=h as k ns e
 ⟨g.ok,g.wf,fD b g.more,g.fo,g.all,g.ne,g.one⟩
theorem Seg.imp {lo:Nat}{ns0:List Nd}{p q:Nat × Bool→Bool}{many:Bool}{r:Option kX}(h:Seg lo ns0 p many r)(c:∀ x,p x=true→q x=true):Seg lo ns0 q many r:=fun as k ns e =>
 let g:=h as k ns e
 ⟨g.ok,g.wf,g.more,g.fo,fun a b=>c _ (g.all a b),g.ne,g.one⟩
structure Cn (l:List Tok):Prop where
 kind:∀ t ∈ l,Mist.kind t.text=t.kind
 at_:∀ t ∈ l,0≤t.at_∧t.at_≤2000
section
variable {l:List Tok} {en:Int} (hT:Cn l)
include hT
theorem ag3 {k:Nat}(h:k < l.length):within (pl l en k) 0 2000=true:=by
 unfold pl within;rw [if_pos h]
 have:=hT.at_ _ (tu l k h)
 simp [this]
theorem acu {k:Nat}(h:(tg l k).kind=1):isName (tx l k)=true:=by
 have:=hT.kind _ (tu l k (h_ h (by simp)))
 unfold isName tx;rw [this,h];rfl
omit hT in
theorem P5:isName []=false:=by decide
theorem Ql {k:Nat}(h:(tg l k).kind=2):numOf (tx l k) < 10000:=by
 have h1:=hT.kind _ (tu l k (h_ h (by simp)));have h2:kind (tx l k)=2:=by unfold tx;rw [h1,h]
 obtain⟨h3,_,h4⟩:=uT _ h2;exact yN _ h4 h3
omit hT in
theorem qC {ns:List Nd}{n:Nd}{p:Nat × Bool→Bool}(h:∀ i q,p q=true→yH n i q=true):∀ (L:List Int) i,(∀ a ∈ L,p (fV ns a)=true)→tJ n i (L.map (fV ns))=true
 | [],_,_=>rfl
 | a :: r,i,ha=>by
  rw [List.map_cons,tJ,h i _ (ha a (List.mem_cons_self ..)),qC h r (i+1) (fun b c=>ha b (List.mem_cons_of_mem _ c))];rfl
def known (K:Nat):Bool:=ji K || K == 25 || jf K || K == 34 || fM K
theorem oZ {ns:List Nd}(K:Nat)(x:Bs)(N:Int)(as:List Int)(k:Nat)(h1:known K=true)(d:(jB K == isName x)=true)(a:(jB K || x.isEmpty)=true)(c:jv ⟨K,x,N,as,0⟩=true)(h5:gU ⟨K,x,N,as,0⟩=true)(b:k < l.length)
  (h7:tJ ⟨K,x,N,as,pl l en k⟩ 0 (as.map (fV ns))=true):wH ns ⟨K,x,N,as,pl l en k⟩:=by
 have h6:jv ⟨K,x,N,as,pl l en k⟩=true:=c;have h8:gU ⟨K,x,N,as,pl l en k⟩=true:=h5;unfold known at h1
 unfold wH okB;simp only [h1,d,a,h6,h8,ag3 hT b,h7,Bool.and_self]
theorem j5 {ns:List Nd}(K:Nat)(x:Bs)(N:Int)(as:List Int)(k:Nat)(hK:K ≠ 24∧K ≠ 41∧K ≠ 34∧K ≠ 33∧K ≠ 40∧K ≠ 42)(h1:known K=true)(g:(jB K == isName x)=true)(c:(jB K || x.isEmpty)=true)
  (f:jv ⟨K,x,N,as,0⟩=true) (h5:gU ⟨K,x,N,as,0⟩=true) (e:k < l.length) (d:∀ a ∈ as,pE (fV ns a)=true):wH ns ⟨K,x,N,as,pl l en k⟩:=by
 refine oZ hT K x N as k h1 g c f h5 e (qC (p:=pE) (fun i q b=>?_) as 0 d);unfold pE at b
 unfold yH jY;simp only [ak9] at b
 simp only [hK.1,hK.2.1,hK.2.2.1,hK.2.2.2.1,hK.2.2.2.2.1,hK.2.2.2.2.2,if_false,b.1,Bool.true_and,or_self]
 have:=b.2
 revert this
 cases (q.1 == 1) <;> cases q.2 <;> simp
theorem d9 {K k:Nat}(hK:jB K=true)(h:(tg l k).kind=1):(jB K == isName (tx l k))=true∧(jB K || (tx l k).isEmpty)=true:=by
 rw [acu hT h,hK];exact⟨rfl,rfl⟩
omit hT in
theorem eB {K:Nat}(hK:jB K=false):(jB K == isName [])=true∧(jB K || ([]:Bs).isEmpty)=true:=by
 rw [P5,hK];exact⟨rfl,rfl⟩
omit hT in
theorem Qq {v:Lv}{s:Bs}(h:¬ iJ v s=0):6≤iJ v s∧iJ v s≤18:=by
 unfold iJ at h ⊢
 cases v <;> simp only at h ⊢ <;> (repeat' split) <;> simp_all
omit hT in
theorem aal {K:Nat}(h:6≤K∧K≤18):(K ≠ 24∧K ≠ 41∧K ≠ 34∧K ≠ 33∧K ≠ 40∧K ≠ 42)∧known K=true∧jB K=false∧(∀ a b:Int,jv ⟨K,[],0,[a,b],0⟩=true)∧(∀ as,gU ⟨K,[],0,as,0⟩=true)∧pE (K,decide ((0:Int) < 0))=true:=by
 have:K=6∨K=7∨K=8∨K=9∨K=10∨K=11∨K=12∨K=13∨K=14∨K=15∨K=16∨K=17∨K=18:=by omega
 rcases this with rfl | rfl | rfl | rfl | rfl | rfl | rfl | rfl | rfl | rfl | rfl | rfl | rfl <;> exact⟨by decide,by decide,by decide,fun _ _=>rfl,fun _=>rfl,by decide⟩
omit hT in
theorem Fo.more {ns c:List Nd}{a b:Nat}{as:List Int}(h:Fo ns a b as)(k:∃ t,c=ns ++ t):Fo c a b as:=by
 obtain⟨t,rfl⟩:=k;exact h.mono t
omit hT in
theorem oq {ns d:List Nd}{a b:Nat}{as:List Int}{p:Nat × Bool→Bool}(h:Fo ns a b as)(g:b≤ns.length)(f:∀ c ∈ as,p (fV ns c)=true)(k:∃ t,d=ns ++ t):∀ c ∈ as,p (fV d c)=true:=by
 obtain⟨t,rfl⟩:=k;intro c e
 have:=h.ids c e
 rw [Ec t (by omega) (by omega)];exact f c e
omit hT in
theorem Grown.Mj {lo:Nat}{ns0 ns a:List Nd}{p:Nat × Bool→Bool}{as:List Int}(g:Grown lo ns0 p false as ns)(k:∃ t,a=ns ++ t):p (fV a (hd as))=true:=by
 refine oq g.xg (ak0 _) (fun c b=>?_) k _ (List.mem_singleton.2 rfl);rw [List.mem_singleton.1 b];exact g.all1
omit hT in
theorem xU {p:Int→Prop}{a b:Int}(h:p a)(k:p b):∀ c ∈ [a,b],p c:=by
 intro c d;rcases List.mem_cons.1 d with rfl | d
 ·exact h
 ·rw [List.mem_singleton.1 d];exact k
omit hT in
theorem jZ {p:Int→Prop}{a:Int}(h:p a):∀ c ∈ [a],p c:=by
 intro c b;rw [List.mem_singleton.1 b];exact h
omit hT in
theorem Fo.nil_eq {ns:List Nd}{a b:Nat}{as:List Int}(h:Fo ns a b as)(e:as=[]):a=b:=by
 cases h with
 | nil=>rfl
 | snoc _ _ _=>simp at e
theorem SF:∀ (m:Nat) (j:Job) (k:Nat) (ns:List Nd) (lo:Nat),mX ns→Wf ns→Fo ns lo ns.length j.args→(∀ a ∈ j.args,j.p (fV ns a)=true)→(∀ e y,j=.gQ e y→y ≠ [])→Seg lo ns j.p j.many (run l en m j k ns)
 | 0,_,_,_,_,_,_,_,_,_=>by rw [run];exact Seg.none
 | m+1,j,k,ns,lo,d,f,o,B,D=>by
  have H:=fun j k ns lo d f o B D=>SF m j k ns lo d f o B D
  have w:∀ j k ns,mX ns→Wf ns→j.args=[]→(∀ e y,j=.gQ e y→y ≠ [])→Seg ns.length ns j.p j.many (run l en m j k ns):=fun j k ns d f F D=>H j k ns ns.length d f (by rw [F];exact .nil _) (by rw [F];intro a h;cases h) D
  cases j with
  | expr =>
   obtain rfl:=o.nil_eq rfl;rw [run];split
   ·rename_i e
    have h1:=cB e (by simp);refine (w .expr (k+1) ns d f rfl (by simp)).thn fun a u n _ g=>Seg.need fun _=>?_
    refine (w .expr (u+1) n g.ok g.wf rfl (by simp)).thn fun b I C _ q=>Seg.need fun _=>?_
    refine (w .expr (I+1) C q.ok q.wf rfl (by simp)).thn fun c Y R _ r=>?_
    have N:∀ x ∈ [hd a,hd b,hd c],pE (fV R x)=true:=by
     intro x G;rcases List.mem_cons.1 G with rfl | G
     ·exact g.Mj (fD q.more r.more)
     ·exact xU (p:=fun x=>pE (fV R x)=true) (q.Mj r.more) r.all1 x G
    exact Seg.add _ r.ok r.wf (fD g.more (fD q.more r.more)) (((g.xg.more (fD q.more r.more)).append (q.xg.more r.more)).append r.xg)
     (j5 hT 19 [] 0 _ k (by decide) rfl (eB rfl).1 (eB rfl).2 rfl rfl h1 N) rfl
   ·split
    ·rename_i e
     have h1:=cB e (by simp);refine Seg.dQ fun K=>Seg.need fun _=>?_
     refine (w .expr (k+3) ns d f rfl (by simp)).thn fun a u n _ g=>Seg.need fun _=>?_
     refine (w .expr (u+1) n g.ok g.wf rfl (by simp)).thn fun b I C _ q=>?_
     exact Seg.add _ q.ok q.wf (fD g.more q.more) ((g.xg.more q.more).append q.xg)
      (j5 hT 20 _ 0 _ k (by decide) rfl (d9 hT rfl K).1 (d9 hT rfl K).2 rfl rfl h1 (xU (p:=fun x=>pE (fV C x)=true) (g.Mj q.more) q.all1)) rfl
    ·exact w (.lv .or) k ns d f rfl (by simp)
  | lv v =>
   obtain rfl:=o.nil_eq rfl
   have L:∀ v,(v=.or∨v=.and∨v=.cmp∨v=.sum∨v=.term)→Seg ns.length ns pE false (Mist.thn (run l en m (.lv v.below) k ns) fun a u n=>run l en m (.tail v (hd a)) u n):=by
    intro v hv;refine Seg.thn (p1:=pE) (many1:=false) (w (.lv v.below) k ns d f rfl (by simp)) fun a u n _ g=>?_
    exact (H (.tail v (hd a)) u n ns.length g.ok g.wf g.xg (jZ (p:=fun x=>pE (fV n x)=true) g.all1) (by simp)).on g.more
   cases v with
   | not =>
    rw [run];split
    ·rename_i e
     have h1:=cB e (by simp);refine (w (.lv .not) (k+1) ns d f rfl (by simp)).thn fun a u n _ g=>?_
     exact Seg.add _ g.ok g.wf g.more g.xg (j5 hT 5 [] 0 _ k (by decide) rfl (eB rfl).1 (eB rfl).2 rfl rfl h1 (jZ (p:=fun x=>pE (fV n x)=true) g.all1)) rfl
    ·exact w (.lv .cmp) k ns d f rfl (by simp)
   | unary =>
    rw [run];split
    ·rename_i e
     have h1:=cB e (by simp);refine (w (.lv .unary) (k+1) ns d f rfl (by simp)).thn fun a u n _ g=>?_
     exact Seg.add _ g.ok g.wf g.more g.xg (j5 hT 4 [] 0 _ k (by decide) rfl (eB rfl).1 (eB rfl).2 rfl rfl h1 (jZ (p:=fun x=>pE (fV n x)=true) g.all1)) rfl
    ·exact w .post k ns d f rfl (by simp)
   | or=>rw [run] <;> first | exact L _ (by simp) | simp
   | and=>rw [run] <;> first | exact L _ (by simp) | simp
   | cmp=>rw [run] <;> first | exact L _ (by simp) | simp
   | sum=>rw [run] <;> first | exact L _ (by simp) | simp
   | term=>rw [run] <;> first | exact L _ (by simp) | simp
  | tail v a =>
   have o:Fo ns lo ns.length [a]:=o;have B:∀ x ∈ [a],pE (fV ns x)=true:=B
   show Seg lo ns pE false _
   rw [run];split
   ·exact Seg.give d f o B (by simp) (fun _=>rfl)
   ·rename_i e
    obtain⟨h1,_⟩:=Cv e;obtain⟨T,U,S,V,W,X⟩:=aal (Qq e);refine Seg.thn (p1:=pE) (many1:=false) (w (.lv v.below) (k+1) ns d f rfl (by simp)) fun b u n _ g=>?_
    have P:=xU (p:=fun x=>pE (fV n x)=true) (oq o (ak0 _) B g.more a (List.mem_singleton.2 rfl)) g.all1;refine Seg.thn (Seg.add (lo:=lo) (p:=pE) (many:=false) ⟨iJ v (tx l k),[],0,[a,hd b],pl l en k⟩ g.ok g.wf g.more ((o.more g.more).append g.xg) (j5 hT _ [] 0 _ k T U (eB S).1 (eB S).2 (V _ _) (W _) h1 P) X) fun c I C _ q=>?_
    split
    ·exact (Seg.give q.ok q.wf q.xg (jZ (p:=fun x=>pE (fV C x)=true) q.all1) (by simp) (fun _=>rfl)).on q.more
    ·exact (H (.tail v (hd c)) I C lo q.ok q.wf q.xg (jZ (p:=fun x=>pE (fV C x)=true) q.all1) (by simp)).on q.more
  | post =>
   obtain rfl:=o.nil_eq rfl;rw [run];refine Seg.thn (p1:=pE) (many1:=false) (w .atom k ns d f rfl (by simp)) fun a u n _ g=>?_
   exact (H (.jq (hd a)) u n ns.length g.ok g.wf g.xg (jZ (p:=fun x=>pE (fV n x)=true) g.all1) (by simp)).on g.more
  | jq a =>
   have o:Fo ns lo ns.length [a]:=o;have B:∀ x ∈ [a],pE (fV ns x)=true:=B
   show Seg lo ns pE false _
   rw [run];split
   ·rename_i e
    have h1:=cB e (by simp);refine Seg.dQ fun K=>?_
    refine Seg.thn (Seg.add (lo:=lo) (p:=pE) (many:=false) ⟨22,tx l (k+1),0,[a],pl l en k⟩ d f (dS _) o (j5 hT 22 _ 0 _ k (by decide) rfl (d9 hT rfl K).1 (d9 hT rfl K).2 rfl rfl h1 B) rfl) fun c I C _ q=>?_
    exact (H (.jq (hd c)) I C lo q.ok q.wf q.xg (jZ (p:=fun x=>pE (fV C x)=true) q.all1) (by simp)).on q.more
   ·split
    ·rename_i e
     have h1:=cB e (by simp);refine Seg.thn (p1:=pE) (many1:=false) (w .expr (k+1) ns d f rfl (by simp)) fun b u n _ g=>Seg.need fun _=>?_
     have P:=xU (p:=fun x=>pE (fV n x)=true) (oq o (ak0 _) B g.more a (List.mem_singleton.2 rfl)) g.all1;refine Seg.thn (Seg.add (lo:=lo) (p:=pE) (many:=false) ⟨23,[],0,[a,hd b],pl l en k⟩ g.ok g.wf g.more ((o.more g.more).append g.xg) (j5 hT 23 [] 0 _ k (by decide) rfl (eB rfl).1 (eB rfl).2 rfl rfl h1 P) rfl) fun c I C _ q=>?_
     exact (H (.jq (hd c)) I C lo q.ok q.wf q.xg (jZ (p:=fun x=>pE (fV C x)=true) q.all1) (by simp)).on q.more
    ·exact Seg.give d f o B (by simp) (fun _=>rfl)
  | atom =>
   obtain rfl:=o.nil_eq rfl;rw [run];split
   ·rename_i e
    have h1:=h_ e (by simp);have h2:=Ql hT e;refine Seg.add _ d f (dS _) (.nil _) (oZ hT 1 [] _ [] k rfl (eB rfl).1 (eB rfl).2 rfl ?_ h1 rfl) ?_
    ·unfold gU within;simp;omega
    ·show pE (1,decide (((numOf (tx l k):Nat):Int) < 0))=true
     rw [show decide (((numOf (tx l k):Nat):Int) < 0)=false by simp];rfl
   split
   ·rename_i e
    exact Seg.add _ d f (dS _) (.nil _) (oZ hT 2 [] 1 [] k rfl (eB rfl).1 (eB rfl).2 rfl rfl (cB e (by simp)) rfl) rfl
   split
   ·rename_i e
    exact Seg.add _ d f (dS _) (.nil _) (oZ hT 2 [] 0 [] k rfl (eB rfl).1 (eB rfl).2 rfl rfl (cB e (by simp)) rfl) rfl
   split
   ·refine Seg.thn (p1:=pE) (many1:=false) (w .expr (k+1) ns d f rfl (by simp)) fun a u n _ g=>Seg.need fun _=>?_
    exact (Seg.give g.ok g.wf g.xg (jZ (p:=fun x=>pE (fV n x)=true) g.all1) (by simp) (fun _=>rfl)).on g.more
   split
   ·rename_i e
    have h1:=cB e (by simp);refine Seg.thn (p1:=pE) (many1:=true) (w (.list .expr) (k+1) ns d f rfl (by simp)) fun as u n _ g=>Seg.need fun _=>?_
    have Q:jv ⟨26,[],0,as,0⟩=true:=by
     show decide (1≤as.length)=true
     have:=List.length_pos_iff.2 g.ne
     simp;omega
    exact Seg.add _ g.ok g.wf g.more g.fo (j5 hT 26 [] 0 _ k (by decide) rfl (eB rfl).1 (eB rfl).2 Q rfl h1 g.all) rfl
   refine Seg.dQ fun A=>?_
   have h0:=h_ A (by simp);split
   ·split
    ·exact Seg.add _ d f (dS _) (.nil _) (j5 hT 21 _ 0 [] k (by decide) rfl (d9 hT rfl A).1 (d9 hT rfl A).2 rfl rfl h0 (fun a h=>by cases h)) rfl
    ·refine Seg.thn (p1:=pE) (many1:=true) (w (.list .expr) (k+2) ns d f rfl (by simp)) fun as u n _ g=>Seg.need fun _=>?_
     exact Seg.add _ g.ok g.wf g.more g.fo (j5 hT 21 _ 0 _ k (by decide) rfl (d9 hT rfl A).1 (d9 hT rfl A).2 rfl rfl h0 g.all) rfl
   split
   ·refine Seg.thn (p1:=fun q=>q.1 == 25) (many1:=true) (w (.list .put) (k+2) ns d f rfl (by simp)) fun as u n _ g=>Seg.need fun _=>?_
    have Q:jv ⟨24,tx l k,0,as,0⟩=true:=by
     show decide (1≤as.length)=true
     have:=List.length_pos_iff.2 g.ne
     simp;omega
    refine Seg.add _ g.ok g.wf g.more g.fo (oZ hT 24 _ 0 _ k rfl (d9 hT rfl A).1 (d9 hT rfl A).2 Q rfl h0 (qC (p:=fun q=>q.1 == 25) (fun i q E=>?_) as 0 g.all)) rfl;have E:q.1=25:=by simpa using E
    unfold yH jY;rw [E];rfl
   ·exact Seg.add _ d f (dS _) (.nil _) (j5 hT 3 _ 0 [] k (by decide) rfl (d9 hT rfl A).1 (d9 hT rfl A).2 rfl rfl h0 (fun a h=>by cases h)) rfl
  | put =>
   obtain rfl:=o.nil_eq rfl;rw [run];refine Seg.dQ fun A=>Seg.need fun _=>?_
   have h0:=h_ A (by simp);refine Seg.thn (p1:=pE) (many1:=false) (w .expr (k+2) ns d f rfl (by simp)) fun a u n _ g=>?_
   exact Seg.add _ g.ok g.wf g.more g.xg (j5 hT 25 _ 0 _ k (by decide) rfl (d9 hT rfl A).1 (d9 hT rfl A).2 rfl rfl h0 (jZ (p:=fun x=>pE (fV n x)=true) g.all1)) rfl
  | param =>
   obtain rfl:=o.nil_eq rfl;rw [run];refine Seg.dQ fun A=>Seg.need fun _=>?_
   have h0:=h_ A (by simp);refine Seg.thn (p1:=fun q=>jf q.1) (many1:=false) (w .typ (k+2) ns d f rfl (by simp)) fun a u n _ g=>?_
   refine Seg.add _ g.ok g.wf g.more g.xg (oZ hT 34 _ 0 _ k rfl (d9 hT rfl A).1 (d9 hT rfl A).2 rfl rfl h0 (qC (p:=fun q=>jf q.1) (fun i q E=>?_) [hd a] 0 (jZ (p:=fun x=>jf (fV n x).1=true) g.all1))) rfl
   have J:(q.1 == 1)=false:=by
    unfold jf at E;simp at E ⊢;omega
   unfold yH jY;rw [J];simp [E]
  | typ =>
   obtain rfl:=o.nil_eq rfl;rw [run];split
   ·rename_i e
    exact Seg.add _ d f (dS _) (.nil _) (oZ hT 30 [] 0 [] k rfl (eB rfl).1 (eB rfl).2 rfl rfl (cB e (by simp)) rfl) rfl
   split
   ·rename_i e
    exact Seg.add _ d f (dS _) (.nil _) (oZ hT 31 [] 0 [] k rfl (eB rfl).1 (eB rfl).2 rfl rfl (cB e (by simp)) rfl) rfl
   split
   ·rename_i e
    have h1:=cB e (by simp);refine Seg.thn (p1:=fun q=>jf q.1) (many1:=false) (w .typ (k+1) ns d f rfl (by simp)) fun a u n _ g=>Seg.need fun _=>Seg.dQ fun _=>Seg.need fun _=>?_
    refine Seg.add _ g.ok g.wf g.more g.xg (oZ hT 33 [] _ _ k rfl (eB rfl).1 (eB rfl).2 rfl rfl h1 (qC (p:=fun q=>jf q.1) (fun i q E=>?_) [hd a] 0 (jZ (p:=fun x=>jf (fV n x).1=true) g.all1))) rfl
    have J:(q.1 == 1)=false:=by
     unfold jf at E;simp at E ⊢;omega
    unfold yH jY;rw [J];simp [E]
   ·refine Seg.dQ fun A=>?_
    have h0:=h_ A (by simp);exact Seg.add _ d f (dS _) (.nil _) (oZ hT 32 _ 0 [] k rfl (d9 hT rfl A).1 (d9 hT rfl A).2 rfl rfl h0 rfl) rfl
  | list e =>
   obtain rfl:=o.nil_eq rfl;rw [run];have F:e.job.p=e.p∧e.job.many=false∧e.job.args=[]:=by cases e <;> exact⟨rfl,rfl,rfl⟩
   have h1:=w e.job k ns d f F.2.2 (by cases e <;> simp [El.job]);rw [F.1,F.2.1] at h1
   refine Seg.thn h1 fun a u n _ g=>?_
   exact (H (.gQ e [hd a]) u n ns.length g.ok g.wf g.xg (jZ (p:=fun x=>e.p (fV n x)=true) g.all1) (by intro _ _ h;injection h with _ h;rw [← h];simp)).on g.more
  | gQ e y =>
   have o:Fo ns lo ns.length y:=o;have B:∀ x ∈ y,e.p (fV ns x)=true:=B
   show Seg lo ns e.p true _
   rw [run];split
   ·have F:e.job.p=e.p∧e.job.many=false∧e.job.args=[]:=by cases e <;> exact⟨rfl,rfl,rfl⟩
    have h1:=w e.job (k+1) ns d f F.2.2 (by cases e <;> simp [El.job]);rw [F.1,F.2.1] at h1
    refine Seg.thn h1 fun a u n _ g=>?_
    refine (H (.gQ e (y ++ [hd a])) u n lo g.ok g.wf ((o.more g.more).append g.xg) (fun x G=>?_) (by intro _ _ h;injection h with _ h;rw [← h];simp)).on g.more;rcases List.mem_append.1 G with G | G
    ·exact oq o (ak0 _) B g.more x G
    ·rw [List.mem_singleton.1 G];exact g.all1
   ·exact Seg.give d f o B (D e y rfl) (fun h=>by cases h)
end
end Mist
