/-
  A part of the proof.
-/
import Derived.Test.YthepmkjggfijoaaGreatDoorSA
import Derived.Test.YthepmkjggfijoaaGreatDoorS02
set_option linter.all false
set_option maxRecDepth 100000
namespace Mist
structure RS where
 k:Nat
 bad:Bool
 ns:List Nd
def j_ (x:Bs):Int:=((numberOf x).1:Int)
def RS.dR (s:RS):RS:=⟨s.k+1,s.bad,s.ns⟩
def RS.fail (s:RS):RS:=⟨s.k,true,s.ns⟩
def RS.put (n:Nd)(s:RS):List Int × RS:=([(s.ns.length:Int)],⟨s.k,s.bad,s.ns ++ [n]⟩)
def gY:Option (List Int × RS)→(List Int→RS→Option (List Int × RS))→Option (List Int × RS)
 | none,_=>none
 | some (a,s),f=>f a s
section
variable (l:List Tok)
def RS.next (s:RS):Bs:=if s.bad then [] else tx l s.k
def RS.kind (s:RS):Nat:=if s.bad then 0 else (tg l s.k).kind
def RS.place (s:RS):Int:=(tg l s.k).at_
def RS.take (t:Bs)(s:RS):RS:=if s.next l=t then s.dR else s.fail
def RS.word (c:Nat)(s:RS):Bs × RS:=if s.kind l=c then (s.next l,s.dR) else ([],s.fail)
def aK:Nat→Job→RS→Option (List Int × RS)
 | 0,_,_=>none
 | n+1,.expr,s =>
  if s.next l=[105,102] then
   gY (aK n .expr s.dR) fun a s1=>gY (aK n .expr (s1.take l [116,104,101,110])) fun b s2=>gY (aK n .expr (s2.take l [101,108,115,101])) fun c s3 =>
    some (s3.put ⟨19,[],0,[hd a,hd b,hd c],s.place l⟩)
  else if s.next l=[108,101,116] then
   gY (aK n .expr ((s.dR.word l 1).2.take l [61])) fun a s1=>gY (aK n .expr (s1.take l [105,110])) fun b s2=>some (s2.put ⟨20,(s.dR.word l 1).1,0,[hd a,hd b],s.place l⟩)
  else aK n (.lv .or) s
 | n+1,.lv .not,s =>
  if s.next l=[110,111,116] then gY (aK n (.lv .not) s.dR) fun a s1=>some (s1.put ⟨5,[],0,[hd a],s.place l⟩)
  else aK n (.lv .cmp) s
 | n+1,.lv .unary,s =>
  if s.next l=[45] then gY (aK n (.lv .unary) s.dR) fun a s1=>some (s1.put ⟨4,[],0,[hd a],s.place l⟩)
  else aK n .post s
 | n+1,.lv v,s=>gY (aK n (.lv v.below) s) fun a s1=>aK n (.tail v (hd a)) s1
 | n+1,.tail v a,s =>
  if fB v (s.next l)=0 then some ([a],s)
  else gY (aK n (.lv v.below) s.dR) fun b s1=>gY (some (s1.put ⟨fB v (s.next l),[],0,[a,hd b],s.place l⟩)) fun c s2 =>
   if v=.cmp then some ([hd c],s2) else aK n (.tail v (hd c)) s2
 | n+1,.post,s=>gY (aK n .atom s) fun a s1=>aK n (.iq (hd a)) s1
 | n+1,.iq a,s =>
  if s.next l=[46] then gY (some ((s.dR.word l 1).2.put ⟨22,(s.dR.word l 1).1,0,[a],s.place l⟩)) fun c s1=>aK n (.iq (hd c)) s1
  else if s.next l=[91] then
   gY (aK n .expr s.dR) fun b s1=>gY (some ((s1.take l [93]).put ⟨23,[],0,[a,hd b],s.place l⟩)) fun c s2=>aK n (.iq (hd c)) s2
  else some ([a],s)
 | n+1,.atom,s =>
  if s.kind l=2 then some ((s.word l 2).2.put ⟨1,[],j_ (s.word l 2).1,[],s.place l⟩)
  else if s.next l=[116,114,117,101] then some (s.dR.put ⟨2,[],1,[],s.place l⟩)
  else if s.next l=[102,97,108,115,101] then some (s.dR.put ⟨2,[],0,[],s.place l⟩)
  else if s.next l=[40] then gY (aK n .expr s.dR) fun a s1=>some ([hd a],s1.take l [41])
  else if s.next l=[91] then gY (aK n (.list .expr) s.dR) fun as s1=>some ((s1.take l [93]).put ⟨26,[],0,as,s.place l⟩)
  else if (s.word l 1).2.next l=[40] then
   if (s.word l 1).2.dR.next l=[41] then some (((s.word l 1).2.dR.take l [41]).put ⟨21,(s.word l 1).1,0,[],s.place l⟩)
   else gY (aK n (.list .expr) (s.word l 1).2.dR) fun as s1=>some ((s1.take l [41]).put ⟨21,(s.word l 1).1,0,as,s.place l⟩)
  else if (s.word l 1).2.next l=[123] then
   gY (aK n (.list .put) (s.word l 1).2.dR) fun as s1=>some ((s1.take l [125]).put ⟨24,(s.word l 1).1,0,as,s.place l⟩)
  else some ((s.word l 1).2.put ⟨3,(s.word l 1).1,0,[],s.place l⟩)
 | n+1,.put,s=>gY (aK n .expr ((s.word l 1).2.take l [58])) fun a s1=>some (s1.put ⟨25,(s.word l 1).1,0,[hd a],s.place l⟩)
 | n+1,.param,s=>gY (aK n .typ ((s.word l 1).2.take l [58])) fun a s1=>some (s1.put ⟨34,(s.word l 1).1,0,[hd a],s.place l⟩)
 | n+1,.typ,s =>
  if s.next l=[105,110,116] then some (s.dR.put ⟨30,[],0,[],s.place l⟩)
  else if s.next l=[98,111,111,108] then some (s.dR.put ⟨31,[],0,[],s.place l⟩)
  else if s.next l=[91] then
   gY (aK n .typ s.dR) fun a s1=>some ((((s1.take l [59]).word l 2).2.take l [93]).put ⟨33,[],j_ ((s1.take l [59]).word l 2).1,[hd a],s.place l⟩)
  else some ((s.word l 1).2.put ⟨32,(s.word l 1).1,0,[],s.place l⟩)
 | n+1,.list e,s=>gY (aK n e.job s) fun a s1=>aK n (.eu e [hd a]) s1
 | n+1,.eu e acc,s =>
  if s.next l=[44] then gY (aK n e.job s.dR) fun a s1=>aK n (.eu e (acc ++ [hd a])) s1
  else some (acc,s)
end
def au (k M:Nat)(q:Option (List Int × RS)):Prop:=∃ as ns,q=some (as,⟨k,true,ns⟩)∧ns.length≤M
section
variable {l:List Tok} {k M M1:Nat} {ns:List Nd}
theorem au.put (n:Nd)(h:ns.length < M):au k M (some (RS.put n ⟨k,true,ns⟩)):=⟨_,_,rfl,by simp;omega⟩
theorem au.give (as:List Int)(h:ns.length≤M):au k M (some (as,⟨k,true,ns⟩)):=⟨_,_,rfl,h⟩
theorem au.gY {q:Option (List Int × RS)}{g:List Int→RS→Option (List Int × RS)}(h:au k M1 q)(hg:∀ as ns,ns.length≤M1→au k M (g as ⟨k,true,ns⟩)):au k M (Mist.gY q g):=by
 obtain⟨as,ns,rfl,hl⟩:=h;exact hg as ns hl
theorem au.mono {q:Option (List Int × RS)}(h:au k M1 q)(hm:M1≤M):au k M q:=by
 obtain⟨as,ns,e,hl⟩:=h;exact⟨as,ns,e,by omega⟩
theorem Ii (v:Lv):fB v []=0:=by cases v <;> rfl
def eG (M:Nat)(r:Option j6)(q:Option (List Int × RS)):Prop :=
 (∀ as k ns,r=some (.ok as k ns)→q=some (as,⟨k,false,ns⟩))∧∀ k,r=some (.bad k)→au k M q
theorem eG.add (n:Nd):eG M (Mist.add n k ns) (some (RS.put n ⟨k,false,ns⟩)) :=
 ⟨fun as k' ns' e=>(by injection e with e;injection e with e1 e2 e3;subst e1;subst e2;subst e3;rfl),fun k e=>(by injection e with e;cases e)⟩
theorem eG.give (as:List Int):eG M (some (.ok as k ns)) (some (as,⟨k,false,ns⟩)) :=
 ⟨fun as k' ns' e=>(by injection e with e;injection e with e1 e2 e3;subst e1;subst e2;subst e3;rfl),fun k e=>(by injection e with e;cases e)⟩
theorem eG.thn {r:Option j6}{q:Option (List Int × RS)}{f:List Int→Nat→List Nd→Option j6}{g:List Int→RS→Option (List Int × RS)}(h:eG M1 r q)
  (hf:∀ as k ns,r=some (.ok as k ns)→eG M (f as k ns) (g as ⟨k,false,ns⟩)) (hg:∀ as k ns,ns.length≤M1→au k M (g as ⟨k,true,ns⟩)):eG M (Mist.thn r f) (Mist.gY q g):=by
 cases r with
 | none=>exact⟨fun _ _ _ e=>(by cases e),fun _ e=>(by cases e)⟩
 | some x =>
  cases x with
  | ok as k ns=>rw [h.1 as k ns rfl];exact hf as k ns rfl
  | bad k =>
   obtain⟨as,ns,rfl,hl⟩:=h.2 k rfl;exact⟨fun _ _ _ e=>(by injection e with e;cases e),fun k' e=>by injection e with e;injection e with e;subst e;exact hg as k ns hl⟩
theorem eG.need {t:Bs}{f:Option j6}{q:Option (List Int × RS)}(h:tx l k=t→RS.take l t ⟨k,false,ns⟩=⟨k+1,false,ns⟩→eG M f q)(hg:RS.take l t ⟨k,false,ns⟩=⟨k,true,ns⟩→au k M q):eG M (Mist.need l t k f) q:=by
 unfold Mist.need;by_cases e:tx l k=t
 ·rw [if_pos e];exact h e (if_pos e)
 ·rw [if_neg e];exact⟨fun _ _ _ e=>(by injection e with e;cases e),fun k' e'=>by injection e' with e';injection e' with e';subst e';exact hg (if_neg e)⟩
theorem eG.bI {c:Nat}{f:Option j6}{q:Option (List Int × RS)}(h:(tg l k).kind=c→RS.word l c ⟨k,false,ns⟩=(tx l k,⟨k+1,false,ns⟩)→eG M f q)(hg:RS.word l c ⟨k,false,ns⟩=([],⟨k,true,ns⟩)→au k M q) :
  eG M (Mist.bI l c k f) q:=by
 unfold Mist.bI;by_cases e:(tg l k).kind=c
 ·rw [if_pos e];exact h e (if_pos e)
 ·rw [if_neg e];exact⟨fun _ _ _ e=>(by injection e with e;cases e),fun k' e'=>by injection e' with e';injection e' with e';subst e';exact hg (if_neg e)⟩
theorem eG.mono {r:Option j6}{q:Option (List Int × RS)}(h:eG M1 r q)(hm:M1≤M):eG M r q:=⟨h.1,fun k e=>(h.2 k e).mono hm⟩
variable {en:Int}
theorem aW {m:Nat}{j:Job}{as:List Int}{k1:Nat}{aJ:List Nd}(e:run l en m j k ns=some (.ok as k1 aJ))(hk:k≤l.length)(hw:Wf ns)(hi:Ids j.args ns.length)(hne:∀ e acc,j=.eu e acc→acc ≠ []):Goes l k (k+j.reads) ns as k1 aJ :=
 ((IX m j k ns hk hw hi hne).2 _ e).1 as k1 aJ rfl
end
end Mist
namespace Mist
section
variable {l:List Tok} {en:Int}
theorem xY {k:Nat}{ns:List Nd}(hk:k≤l.length)(hw:Wf ns):dX True l k (k+1) ns (sN l en k ns):=by
 unfold sN;split
 ·rename_i e
  have h1:=aP e (by simp);exact dX.bI (by simp) (by omega) fun g=>dX.add _ (by omega) (by omega) (by omega) (bQ _) hw (Ids.nil _)
 ·exact dX.bI (by simp) hk fun g=>dX.add _ (by omega) (by omega) (by omega) (bQ _) hw (Ids.nil _)
theorem qA {m:Nat}{j:Job}{k:Nat}{ns:List Nd}(hk:k≤l.length)(hw:Wf ns)(hi:Ids j.args ns.length)(hne:∀ e acc,j=.eu e acc→acc ≠ []):dX (13 * (l.length - k)+j.rank < m) l k (k+j.reads) ns (run l en m j k ns):=IX m j k ns hk hw hi hne
theorem Cb {n k k0:Nat}{ps:List Int}{t u:Int}{k3:Nat}{ns ns0:List Nd}(hk:k3≤l.length)(h0:k+1≤k3)(hf:ns.length+k0+1≤ns0.length+k3)(hm:∃ t,ns=ns0 ++ t)(hw:Wf ns)(hi:Ids (ps ++ [t]) ns.length) :
  dX (13 * (l.length - k3)+12 < n) l k0 (k+1) ns0 (kU l en n k ps t u k3 ns):=by
 unfold kU;refine dX.need (by simp) hk fun g=>?_
 refine (qA (m:=n) (j:=.expr) (by omega) hw (Ids.nil _) (by simp)).thn (fun h=>by simp only [Job.rank];omega) fun b k4 MG q=>?_
 have q1:=q.lo;have q2:=q.few;have q3:=q.len;simp only [Job.reads] at q1
 exact dX.add _ (by omega) q.le (by omega) (dK hm q.more) q.wf ((hi.mono q3).app (Ids.cons q.hd (Ids.nil _)))
theorem Cc {n k k0:Nat}{ps:List Int}{k1:Nat}{ns ns0:List Nd}(hk:k1≤l.length)(h0:k+1≤k1)(hf:ns.length+k0+1≤ns0.length+k1)(hm:∃ t,ns=ns0 ++ t)(hw:Wf ns)(hi:Ids ps ns.length) :
  dX (13 * (l.length - k1)+12 < n) l k0 (k+1) ns0 (mg l en n k ps k1 ns):=by
 unfold mg;refine dX.need (by simp) hk fun g=>dX.need (by simp) (by omega) fun g2=>?_
 refine (qA (m:=n) (j:=.typ) (by omega) hw (Ids.nil _) (by simp)).thn (fun h=>by simp only [Job.rank];omega) fun b k4 MG q=>?_
 have q1:=q.lo;have q2:=q.few;have q3:=q.len;simp only [Job.reads] at q1
 split
 ·rename_i e
  have h1:=aP e (by simp);split
  ·exact dX.bad (by omega)
  ·refine dX.bI (by simp) (by omega) fun g4=>?_
   exact (Cb (by omega) (by omega) (by omega) (dK hm q.more) q.wf ((hi.mono q3).app (Ids.cons q.hd (Ids.nil _)))).imp (fun h=>by omega)
 ·exact (Cb q.le (by omega) (by omega) (dK hm q.more) q.wf ((hi.mono q3).app (Ids.cons q.hd (Ids.nil _)))).imp (fun h=>by omega)
theorem Aw {k:Nat}(h:¬ gy (tx l k)=0):k < l.length:=by
 rcases Nat.lt_or_ge k l.length with h1 | h1
 ·exact h1
 ·exfalso;apply h
  have:tx l k=[]:=by unfold tx;rw [nS l k h1]
  rw [this];rfl
theorem uW {n k:Nat}{ns:List Nd}(hk:k≤l.length)(hw:Wf ns):dX (13 * (l.length - k)+12 < n) l k (k+1) ns (item l en n k ns):=by
 unfold item;split
 case isFalse=>exact dX.bad hk
 rename_i e
 have h1:=fA e (by simp);split
 case h_2=>exact dX.bad hk
 rename_i it _
 cases it with
 | choose =>
  unfold gI;refine dX.bI (by simp) (by omega) fun g1=>dX.need (by simp) (by omega) fun g2=>?_
  refine (xY (by omega) hw).thn (fun _=>trivial) fun a k1 aJ q=>dX.need (by simp) q.le fun g3=>?_
  have q1:=q.lo;have q2:=q.few;refine (xY (by omega) q.wf).thn (fun _=>trivial) fun b k2 fF r=>?_
  have r1:=r.lo;have r2:=r.few;have l2:=r.len;have ha:=q.hd;exact dX.add _ (by omega) r.le (by omega) (dK q.more r.more) r.wf (Ids.cons (by omega) (Ids.cons r.hd (Ids.nil _)))
 | record =>
  unfold gI;refine dX.bI (by simp) (by omega) fun g1=>dX.need (by simp) (by omega) fun g2=>dX.need (by simp) (by omega) fun g3=>?_
  refine (qA (m:=n) (j:=.list .param) (by omega) hw (Ids.nil _) (by simp)).thn (fun h=>by simp only [Job.rank];omega) fun as k1 aJ q=>dX.need (by simp) q.le fun g4=>?_
  have q1:=q.lo;have q2:=q.few;simp only [Job.reads] at q1
  exact dX.add _ (by omega) (by omega) (by omega) q.more q.wf q.ids
 | zu =>
  unfold gI;refine dX.bI (by simp) (by omega) fun g1=>dX.need (by simp) (by omega) fun g2=>?_
  split
  ·exact (Cc (by omega) (by omega) (by omega) (bQ _) hw (Ids.nil _)).imp (fun h=>by omega)
  ·refine (qA (m:=n) (j:=.list .param) (by omega) hw (Ids.nil _) (by simp)).thn (fun h=>by simp only [Job.rank];omega) fun as k1 aJ q=>?_
   have q1:=q.lo;have q2:=q.few;simp only [Job.reads] at q1
   exact (Cc q.le (by omega) (by omega) q.more q.wf q.ids).imp (fun h=>by omega)
 | yB =>
  unfold gI;refine dX.bI (by simp) (by omega) fun g1=>dX.need (by simp) (by omega) fun g2=>?_
  refine (qA (m:=n) (j:=.expr) (by omega) hw (Ids.nil _) (by simp)).thn (fun h=>by simp only [Job.rank];omega) fun b k4 MG q=>?_
  have q1:=q.lo;have q2:=q.few;simp only [Job.reads] at q1
  exact dX.add _ (by omega) q.le (by omega) q.more q.wf (Ids.cons q.hd (Ids.nil _))
 | observe =>
  unfold gI;refine dX.bI (by simp) (by omega) fun g1=>dX.need (by simp) (by omega) fun g2=>?_
  refine (qA (m:=n) (j:=.expr) (by omega) hw (Ids.nil _) (by simp)).thn (fun h=>by simp only [Job.rank];omega) fun b k4 MG q=>?_
  have q1:=q.lo;have q2:=q.few;simp only [Job.reads] at q1
  exact dX.add _ (by omega) q.le (by omega) q.more q.wf (Ids.cons q.hd (Ids.nil _))
 | kW =>
  unfold gI;exact dX.bI (by simp) (by omega) fun g1=>dX.add _ (by omega) (by omega) (by omega) (bQ _) hw (Ids.nil _)
 | ask =>
  show dX _ l k (k+1) ns (wT l en n k ns)
  unfold wT;split
  ·exact dX.bad (by omega)
  ·rename_i hq
   have h2:=Aw hq;split
   ·exact dX.add _ (by omega) (by omega) (by omega) (bQ _) hw (Ids.nil _)
   ·split
    ·refine (qA (m:=n) (j:=.list .expr) (by omega) hw (Ids.nil _) (by simp)).thn (fun h=>by simp only [Job.rank];omega) fun as k1 aJ q=>?_
     have q1:=q.lo;have q2:=q.few;simp only [Job.reads] at q1
     exact dX.add _ (by omega) q.le (by omega) q.more q.wf q.ids
    ·refine (qA (m:=n) (j:=.expr) (by omega) hw (Ids.nil _) (by simp)).thn (fun h=>by simp only [Job.rank];omega) fun b k4 MG q=>?_
     have q1:=q.lo;have q2:=q.few;simp only [Job.reads] at q1
     exact dX.add _ (by omega) q.le (by omega) q.more q.wf (Ids.cons q.hd (Ids.nil _))
theorem u6 {n k k1:Nat}{ns aJ:List Nd}{as:List Int}(hk:k≤l.length)(hw:Wf ns)(e:item l en n k ns=some (.ok as k1 aJ)):Goes l k (k+1) ns as k1 aJ:=((uW hk hw).2 _ e).1 as k1 aJ rfl
end
section
variable (l:List Tok)
def rz (s:RS):List Int × RS :=
 if s.next l=[45] then (s.dR.word l 2).2.put ⟨1,[],-j_ (s.dR.word l 2).1,[],s.place l⟩
 else (s.word l 2).2.put ⟨1,[],j_ (s.word l 2).1,[],s.place l⟩
def rup (s:RS):Int × RS :=
 if s.next l=[117,112,116,111] then
  if s.dR.next l=[48] then (j_ (s.dR.fail.word l 2).1,(s.dR.fail.word l 2).2)
  else (j_ (s.dR.word l 2).1,(s.dR.word l 2).2)
 else (0,s)
def iW (n:Nat)(x:Bs)(at_:Int)(ps:List Int)(s:RS):Option (List Int × RS) :=
 gY (aK l n .typ ((s.take l [41]).take l [58])) fun t s1=>gY (aK l n .expr ((rup l s1).2.take l [61])) fun b s2=>some (s2.put ⟨42,x,(rup l s1).1,ps ++ [hd t] ++ [hd b],at_⟩)
def JF (n:Nat)(at_:Int)(s:RS):Option (List Int × RS) :=
 if gy (s.next l)=0 then some ([0],s.fail)
 else if gy (s.next l)=7 then some (s.dR.put ⟨46,[],7,[],at_⟩)
 else if gy (s.next l)=8 then gY (aK l n (.list .expr) s.dR) fun as s1=>some (s1.put ⟨46,[],8,as,at_⟩)
 else gY (aK l n .expr s.dR) fun a s1=>some (s1.put ⟨46,[],(gy (s.next l):Nat),[hd a],at_⟩)
def d9 (n:Nat)(at_:Int)(x:Bs):It→RS→Option (List Int × RS)
 | .choose,s=>gY (some (rz l (s.take l [58]))) fun a s1=>gY (some (rz l (s1.take l [46,46]))) fun b s2=>some (s2.put ⟨40,x,0,[hd a,hd b],at_⟩)
 | .record,s=>gY (aK l n (.list .param) ((s.take l [61]).take l [123])) fun as s1=>some ((s1.take l [125]).put ⟨41,x,0,as,at_⟩)
 | .zu,s=>if (s.take l [40]).next l=[41] then iW l n x at_ [] (s.take l [40]) else gY (aK l n (.list .param) (s.take l [40])) fun ps s1=>iW l n x at_ ps s1
 | .yB,s=>gY (aK l n .expr (s.take l [61])) fun a s1=>some (s1.put ⟨43,x,0,[hd a],at_⟩)
 | .observe,s=>gY (aK l n .expr (s.take l [58])) fun a s1=>some (s1.put ⟨44,x,0,[hd a],at_⟩)
 | .kW,s=>some (s.put ⟨45,x,0,[],at_⟩)
 | .ask,_=>none
def C9 (n:Nat)(s:RS):Option (List Int × RS) :=
 if s.kind l=3 then
  match Hr (s.next l) with
  | some .ask=>JF l n (s.place l) s.dR
  | some i=>d9 l n (s.place l) (s.dR.word l 1).1 i (s.dR.word l 1).2
  | none=>some ([0],s.fail)
 else some ([0],s.fail)
def nM (n:Nat):Nat→RS→List Int→Option (List Int × RS)
 | 0,_,_=>none
 | m+1,s,its =>
  if s.bad=false∧s.k < l.length then gY (C9 l n s) fun a s1=>nM n m (s1.take l [59]) (its ++ [hd a])
  else some (its,s)
end
section
variable {l:List Tok} {en:Int} {k M:Nat} {ns:List Nd}
theorem eG.bad {q:Option (List Int × RS)}(h:au k M q):eG M (some (.bad k)) q :=
 ⟨fun _ _ _ e=>(by injection e with e;cases e),fun k' e=>by injection e with e;injection e with e;subst e;exact h⟩
section
variable (hK:∀ t ∈ l,Mist.kind t.text=t.kind)
include hK
end
end
end Mist
namespace Mist
def dB (ns:List Nd)(c:Int):Nat × Bool:=((ns.getD c.toNat default).kind,decide ((ns.getD c.toNat default).n < 0))
def ru (n:Nd)(i:Nat)(q:Nat × Bool):Bool:=mJ n i q.1 && !(q.1 == 1 && q.2 && !(n.kind == 40))
def oJ (n:Nd):Nat→List (Nat × Bool)→Bool
 | _,[]=>true
 | i,q :: r=>ru n i q && oJ n (i+1) r
def okB (n:Nd)(ki:List (Nat × Bool)):Bool :=
 (lq n.kind || n.kind == 25 || iH n.kind || n.kind == 34 || eP n.kind) && (ig n.kind == isName n.text) && (ig n.kind || n.text.isEmpty) && jC n && gu n && within n.at_ 0 2000 && oJ n 0 ki
def uP (ns:List Nd)(n:Nd):Prop:=okB n (n.kids.map (dB ns))=true
def jN (ns:List Nd):Prop:=∀ (i:Nat) n,ns[i]? = some n→uP ns n
inductive Fo (ns:List Nd):Nat→Nat→List Int→Prop
 | nil (a:Nat):Fo ns a a []
 | snoc {a m b:Nat} {as:List Int} {n:Nd} (h:Fo ns a m as) (k:Fo ns m b n.kids) (e:ns[b]? = some n):Fo ns a (b+1) (as ++ [(b:Int)])
theorem Fo.le {ns:List Nd}{a b:Nat}{as:List Int}(h:Fo ns a b as):a≤b:=by
 induction h with
 | nil=>exact aaJ _
 | snoc _ _ _ i j=>omega
theorem Fo.mono {ns:List Nd}{a b:Nat}{as:List Int}(h:Fo ns a b as)(t:List Nd):Fo (ns ++ t) a b as:=by
 induction h with
 | nil a=>exact .nil a
 | snoc _ _ e i j=>exact .snoc i j (by rw [List.getElem?_append_left (aaE.1 e).1];exact e)
theorem Fo.append {ns:List Nd}{a m b:Nat}{as bs:List Int}(h:Fo ns a m as)(k:Fo ns m b bs):Fo ns a b (as ++ bs):=by
 induction k with
 | nil=>simpa using h
 | snoc k1 k2 e i j=>rw [← List.append_assoc];exact .snoc (i h) k2 e
theorem Fo.one {ns:List Nd}{a b:Nat}{n:Nd}(h:Fo ns a b n.kids)(e:ns[b]? = some n):Fo ns a (b+1) [(b:Int)]:=.snoc (.nil a) h e
theorem Fo.ids {ns:List Nd}{a b:Nat}{as:List Int}(h:Fo ns a b as):∀ c ∈ as,(a:Int)≤c∧c < (b:Int):=by
 induction h with
 | nil=>intro c hc;cases hc
 | snoc h k e i j =>
  intro c hc;have h1:=h.le;have h2:=k.le;rcases List.mem_append.1 hc with hc | hc
  ·have:=i c hc;omega
  ·have:c=_:=List.mem_singleton.1 hc
   omega
theorem Aa {ns:List Nd}{c:Int}(t:List Nd)(h0:0≤c)(h:c < (ns.length:Int)):dB (ns ++ t) c=dB ns c:=by
 unfold dB;have h1:c.toNat < ns.length:=by omega
 simp [aaH,List.getElem?_append_left h1]
theorem uP.mono {ns:List Nd}{n:Nd}(h:uP ns n)(hk:Ids n.kids ns.length)(t:List Nd):uP (ns ++ t) n:=by
 unfold uP at h ⊢
 rw [← h]
 congr 1
 apply List.map_congr_left
 intro c hc;exact Aa t (hk c hc).1 (hk c hc).2
theorem jN.add {ns:List Nd}{n:Nd}(h:jN ns)(hw:Wf ns)(hn:uP ns n)(hk:Ids n.kids ns.length):jN (ns ++ [n]):=by
 intro i m hi;rcases Nat.lt_or_ge i ns.length with h1 | h1
 ·rw [List.getElem?_append_left h1] at hi
  refine (h i m hi).mono (fun c hc=>?_) _
  have:=hw i m hi c hc
  omega
 ·rw [List.getElem?_append_right h1] at hi
  have h2:i - ns.length=0:=by
   rcases Nat.eq_zero_or_pos (i - ns.length) with h2 | h2
   ·exact h2
   ·rw [List.getElem?_eq_none (by simp;omega)] at hi;cases hi
  rw [h2] at hi
  have:n=m:=by simpa using hi
  subst this;exact hn.mono hk _
def pE (q:Nat × Bool):Bool:=lq q.1 && !(q.1 == 1 && q.2)
def El.p:El→Nat × Bool→Bool
 | .expr=>pE
 | .put=>fun q=>q.1 == 25
 | .param=>fun q=>q.1 == 34
def Job.p:Job→Nat × Bool→Bool
 | .put=>fun q=>q.1 == 25
 | .param=>fun q=>q.1 == 34
 | .typ=>fun q=>iH q.1
 | .list e=>e.p
 | .eu e _=>e.p
 | _=>pE
def Job.many:Job→Bool
 | .list _=>true
 | .eu _ _=>true
 | _=>false
structure Grown (lo:Nat) (ns0:List Nd) (p:Nat × Bool→Bool) (many:Bool) (as:List Int) (ns:List Nd):Prop where
 ok:jN ns
 wf:Wf ns
 more:∃ t,ns=ns0 ++ t
 fo:Fo ns lo ns.length as
 all:∀ a ∈ as,p (dB ns a)=true
 ne:as ≠ []
 one:many=false→as=[hd as]
def Seg (lo:Nat)(ns0:List Nd)(p:Nat × Bool→Bool)(many:Bool)(r:Option j6):Prop:=∀ as k ns,r=some (.ok as k ns)→Grown lo ns0 p many as ns
theorem Seg.bad {lo k:Nat}{ns0:List Nd}{p:Nat × Bool→Bool}{many:Bool}:Seg lo ns0 p many (some (.bad k)):=fun as k ns e=>by injection e with e;cases e
theorem Seg.none {lo:Nat}{ns0:List Nd}{p:Nat × Bool→Bool}{many:Bool}:Seg lo ns0 p many none:=fun as k ns e=>by cases e
theorem Seg.add {lo k:Nat}{ns0 ns:List Nd}{p:Nat × Bool→Bool}{many:Bool}(n:Nd)(ha:jN ns)(hw:Wf ns)(hm:∃ t,ns=ns0 ++ t)(hf:Fo ns lo ns.length n.kids)(ho:uP ns n)(hp:p (n.kind,decide (n.n < 0))=true):Seg lo ns0 p many (Mist.add n k ns):=by
 intro as k' ns' e;injection e with e
 injection e with e1 e2 e3
 subst e1;subst e2;subst e3;have hi:Ids n.kids ns.length:=fun c hc=>by have:=hf.ids c hc;omega
 have hg:(ns ++ [n])[ns.length]? = some n:=by simp
 refine⟨ha.add hw ho hi,hw.add hi,dK hm ⟨[n],rfl⟩,?_,fun a h=>?_,by simp,fun _=>rfl⟩
 ·rw [aaO,aaT];exact Fo.one (hf.mono _) hg
 ·have:a=_:=List.mem_singleton.1 h
  subst this;unfold dB
  simpa [aaH] using hp
theorem Seg.give {lo k:Nat}{ns:List Nd}{p:Nat × Bool→Bool}{many:Bool}{as:List Int}(ha:jN ns)(hw:Wf ns)(hf:Fo ns lo ns.length as)(hp:∀ a ∈ as,p (dB ns a)=true)(hn:as ≠ [])(h1:many=false→as=[hd as]):Seg lo ns p many (some (.ok as k ns)):=by
 intro as k' ns' e;injection e with e
 injection e with e1 e2 e3
 subst e1;subst e2;subst e3;exact⟨ha,hw,bQ _,hf,hp,hn,h1⟩
theorem Seg.need {l:List Tok}{t:Bs}{k lo:Nat}{ns0:List Nd}{p:Nat × Bool→Bool}{many:Bool}{f:Option j6}(h:tx l k=t→Seg lo ns0 p many f):Seg lo ns0 p many (Mist.need l t k f):=by
 unfold Mist.need;split
 ·rename_i e;exact h e
 ·exact Seg.bad
theorem Seg.bI {l:List Tok}{c k lo:Nat}{ns0:List Nd}{p:Nat × Bool→Bool}{many:Bool}{f:Option j6}(h:(tg l k).kind=c→Seg lo ns0 p many f):Seg lo ns0 p many (Mist.bI l c k f):=by
 unfold Mist.bI;split
 ·rename_i e;exact h e
 ·exact Seg.bad
theorem Seg.thn {lo lo1:Nat}{ns0 aJ:List Nd}{p p1:Nat × Bool→Bool}{many many1:Bool}{r:Option j6}{f:List Int→Nat→List Nd→Option j6}(h:Seg lo1 aJ p1 many1 r)(hf:∀ as k ns,r=some (.ok as k ns)→Grown lo1 aJ p1 many1 as ns→Seg lo ns0 p many (f as k ns)):Seg lo ns0 p many (Mist.thn r f):=by
 cases r with
 | none=>exact Seg.none
 | some x =>
  cases x with
  | bad k=>exact Seg.bad
  | ok as k ns=>exact hf as k ns rfl (h as k ns rfl)
theorem Seg.on {lo:Nat}{ns0 aJ:List Nd}{p:Nat × Bool→Bool}{many:Bool}{r:Option j6}(h:Seg lo aJ p many r)(hm:∃ t,aJ=ns0 ++ t):Seg lo ns0 p many r:=fun as k ns e =>
 let g:=h as k ns e
 ⟨g.ok,g.wf,dK hm g.more,g.fo,g.all,g.ne,g.one⟩
theorem Seg.imp {lo:Nat}{ns0:List Nd}{p q:Nat × Bool→Bool}{many:Bool}{r:Option j6}(h:Seg lo ns0 p many r)(hp:∀ x,p x=true→q x=true):Seg lo ns0 q many r:=fun as k ns e =>
 let g:=h as k ns e
 ⟨g.ok,g.wf,g.more,g.fo,fun a ha=>hp _ (g.all a ha),g.ne,g.one⟩
structure rF (l:List Tok):Prop where
 kind:∀ t ∈ l,Mist.kind t.text=t.kind
 at_:∀ t ∈ l,0≤t.at_∧t.at_≤2000
section
variable {l:List Tok} {en:Int} (hT:rF l)
include hT
omit hT in
omit hT in
def known (K:Nat):Bool:=lq K || K == 25 || iH K || K == 34 || eP K
omit hT in
omit hT in
omit hT in
omit hT in
theorem Fo.more {ns ns':List Nd}{a b:Nat}{as:List Int}(h:Fo ns a b as)(k:∃ t,ns'=ns ++ t):Fo ns' a b as:=by
 obtain⟨t,rfl⟩:=k;exact h.mono t
omit hT in
omit hT in
omit hT in
omit hT in
omit hT in
theorem Fo.nil_eq {ns:List Nd}{a b:Nat}{as:List Int}(h:Fo ns a b as)(e:as=[]):a=b:=by
 cases h with
 | nil=>rfl
 | snoc _ _ _=>simp at e
end
end Mist
namespace Mist
theorem Fo.each {ns:List Nd}{a b:Nat}{as:List Int}(h:Fo ns a b as):∀ i,a≤i→i < b→∃ n m,ns[i]? = some n∧a≤m∧Fo ns m i n.kids:=by
 induction h with
 | nil=>intro i h1 h2;omega
 | @snoc a m b as n h k e i j =>
  intro x h1 h2;rcases Nat.lt_or_ge x m with h3 | h3
  ·exact i x h1 h3
  ·rcases Nat.lt_or_ge x b with h4 | h4
   ·obtain⟨n',m',e',hm,hf⟩:=j x h3 h4;exact⟨n',m',e',by have:=h.le;omega,hf⟩
   ·have:x=b:=by omega
    subst this;exact⟨n,m,e,h.le,k⟩
theorem Fo.inv {ns:List Nd}{a c:Nat}{bs:List Int}(h:Fo ns a c bs):∀ as x,bs=as ++ [x]→∃ m b n,c=b+1∧x=(b:Int)∧Fo ns a m as∧Fo ns m b n.kids∧ns[b]? = some n:=by
 cases h with
 | nil=>intro as x e;simp at e
 | @snoc a m b as' n h k e =>
  intro as x e2;obtain⟨rfl,e3⟩:=List.append_inj' e2 rfl;injection e3 with e3
  exact⟨m,b,n,rfl,e3.symm,h,k,e⟩
theorem Fo.uniq {ns:List Nd}{a b:Nat}{as:List Int}(h:Fo ns a b as):∀ a',Fo ns a' b as→a=a':=by
 induction h with
 | nil a=>intro a' h';exact (h'.nil_eq rfl).symm
 | @snoc a m b as n h k e i j =>
  intro a' h';obtain⟨m',b',n',hc,hx,h1,k1,e1⟩:=h'.inv as b rfl
  have:b'=b:=by omega
  subst this;rw [e] at e1
  injection e1 with e1
  subst e1
  have:=j m' k1
  subst this;exact i a' h1
theorem Fo.apart {ns:List Nd}{a b:Nat}{as:List Int}(h:Fo ns a b as):∀ i n,a≤i→i < b→ns[i]? = some n→∀ c ∈ n.kids,c ∉ as:=by
 induction h with
 | nil=>intro i n h1 h2;omega
 | @snoc a m b as n h k e ih jh =>
  intro x n' h1 h2 e' c hc hm
  have hin:c < (x:Int):=by
   obtain⟨n2,m2,e2,h3,f2⟩:=(Fo.snoc h k e).each x h1 h2;rw [e'] at e2;injection e2 with e2;subst e2
   exact (f2.ids c hc).2
  rcases List.mem_append.1 hm with hm | hm
  ·have h4:=h.ids c hm;rcases Nat.lt_or_ge x m with h3 | h3
   ·exact ih x n' h1 h3 e' c hc hm
   ·rcases Nat.lt_or_ge x b with h5 | h5
    ·obtain⟨n2,m2,e2,h6,f2⟩:=k.each x h3 h5;rw [e'] at e2;injection e2 with e2;subst e2
     have:=f2.ids c hc
     omega
    ·have:x=b:=by omega
     subst this;rw [e] at e';injection e' with e';subst e'
     have:=k.ids c hc
     omega
  ·have:c=(b:Int):=List.mem_singleton.1 hm
   omega
theorem Fo.parent {ns:List Nd}{a b:Nat}{as:List Int}(h:Fo ns a b as):∀ i,a≤i→i < b→(i:Int) ∈ as∨∃ j n,a≤j∧j < b∧ns[j]? = some n∧(i:Int) ∈ n.kids:=by
 induction h with
 | nil=>intro i h1 h2;omega
 | @snoc a m b as n h k e ih jh =>
  intro x h1 h2;have h9:=h.le;have h8:=k.le;rcases Nat.lt_or_ge x m with h3 | h3
  ·rcases ih x h1 h3 with h4 | ⟨j,n',hj1,hj2,e',hk⟩
   ·exact .inl (List.mem_append_left _ h4)
   ·exact .inr ⟨j,n',hj1,by omega,e',hk⟩
  ·rcases Nat.lt_or_ge x b with h5 | h5
   ·rcases jh x h3 h5 with h4 | ⟨j,n',hj1,hj2,e',hk⟩
    ·exact .inr ⟨b,n,by omega,by omega,e,h4⟩
    ·exact .inr ⟨j,n',by omega,by omega,e',hk⟩
   ·have:x=b:=by omega
    subst this;exact .inl (List.mem_append_right _ (List.mem_singleton.2 rfl))
theorem Fo.Ae {ns:List Nd}{n:Nat}{as:List Int}(h:Fo ns 0 n as){i j:Nat}{x y:Nd}(hi:i < n)(hj:j < n)(ex:ns[i]? = some x)(ey:ns[j]? = some y){c:Int}(hx:c ∈ x.kids)(hy:c ∈ y.kids):i=j:=by
 have key:∀ {i j:Nat} {x y:Nd},i < n→j < n→ns[i]? = some x→ns[j]? = some y→c ∈ x.kids→c ∈ y.kids→¬ i < j:=by
  intro i j x y hi hj ex ey hx hy hlt;obtain⟨x2,m1,e1,_,f1⟩:=h.each i (aaL _) hi;obtain⟨y2,m2,e2,_,f2⟩:=h.each j (aaL _) hj;rw [ex] at e1;injection e1 with e1;subst e1
  rw [ey] at e2;injection e2 with e2;subst e2
  have h1:=f1.ids c hx;have h2:=f2.ids c hy;rcases Nat.lt_or_ge i m2 with h3 | h3
  ·omega
  ·exact f2.apart i x h3 hlt ex c hx hy
 rcases Nat.lt_trichotomy i j with h1 | h1 | h1
 ·exact absurd h1 (key hi hj ex ey hx hy)
 ·exact h1
 ·exact absurd h1 (key hj hi ey ex hy hx)
theorem Fo.len {ns:List Nd}{a b:Nat}{as:List Int}(h:Fo ns a b as):as.length+a≤b:=by
 induction h with
 | nil=>simp
 | snoc h k e i j=>have:=k.le;rw [aaO];simp;omega
def o7 (q:Nat→Bool)(out:List Int)(l:List Int)(b:Int):Option Int :=
 l.foldr (fun c (o:Option Int)=>o.bind fun a=>if a < 0∨c ≠ a∨(!q a.toNat)=true then none else some (a - out.getD a.toNat 0)) (some b)
theorem EB (out l:List Int)(b:Int):lT out l b=o7 (fun _=>true) out l b:=by
 unfold lT o7
 congr 1
 funext c o
 congr 1
 funext a
 by_cases h1:c=a <;> by_cases h2:a < 0 <;> simp [h1,h2]
theorem wM (t:Tr)(sz:List Int):vH t sz=o7 (fun i=>eP (nd t i).kind) sz t.items ((t.nodes.length:Int) - 1):=rfl
theorem Ir (q:Nat→Bool)(out l:List Int)(c b:Int):o7 q out (l ++ [c]) b=if b < 0∨c ≠ b∨(!q b.toNat)=true then none else o7 q out l (b - out.getD b.toNat 0):=by
 have hn:∀ l:List Int,l.foldr (fun c (o:Option Int)=>o.bind fun a=>if a < 0∨c ≠ a∨(!q a.toNat)=true then none else some (a - out.getD a.toNat 0)) none=none:=by
  intro l;induction l with
  | nil=>rfl
  | cons a r ih=>rw [List.foldr_cons,ih];rfl
 unfold o7;rw [List.foldr_append];simp only [List.foldr_cons,List.foldr_nil,Option.bind_some];split
 ·exact hn l
 ·rfl
def uQ (ns:List Nd)(out:List Int)(k:Nat):Prop:=out.length=k∧∀ i,i < k→∃ n m,ns[i]? = some n∧m≤i∧out.getD i 0=(i:Int)+1 - m∧Fo ns m i n.kids
theorem Ip {q:Nat→Bool}{ns:List Nd}{out:List Int}{k:Nat}(hs:uQ ns out k):∀ (r:List Int) (b a:Int),o7 q out r.reverse b=some a→b < (k:Int)→-1≤b→-1≤a∧a≤b∧Fo ns (a+1).toNat (b+1).toNat r.reverse∧∀ c ∈ r,q c.toNat=true
 | [],b,a,h,h1,h2=>by
  have:b=a:=aaP h
  subst this;exact⟨h2,Int.le_refl _,.nil _,fun c hc=>nomatch hc⟩
 | c :: r,b,a,h,h1,h2=>by
  rw [List.reverse_cons,Ir] at h
  split at h
  ·cases h
  ·rename_i hc
   have hb0:0≤b:=by omega
   have hcb:c=b:=by
    apply Classical.byContradiction;intro e;exact hc (.inr (.inl e))
   have hq:q b.toNat=true:=by
    cases e:q b.toNat
    ·exact absurd (.inr (.inr (by simp [e]))) hc
    ·rfl
   clear hc;obtain⟨n,m,e,hm,hsz,hf⟩:=hs.2 b.toNat (by omega);rw [hsz] at h
   obtain⟨g1,g2,g3,g4⟩:=Ip hs r _ a h (by omega) (by omega)
   refine⟨g1,by omega,?_,?_⟩
   ·rw [List.reverse_cons];have e1:(b+1).toNat=b.toNat+1:=by omega
    have e2:c=(b.toNat:Int):=by omega
    rw [e1,e2];refine .snoc (m:=m) ?_ hf e;have e3:(b - ((b.toNat:Int)+1 - (m:Int))+1).toNat=m:=by omega
    rw [e3] at g3
    exact g3
   ·intro x hx;rcases List.mem_cons.1 hx with rfl | hx
    ·rw [hcb];exact hq
    ·exact g4 x hx
theorem OX {q:Nat→Bool}{ns:List Nd}{out:List Int}{k:Nat}(hs:uQ ns out k){a b:Nat}{as:List Int}(h:Fo ns a b as):b≤k→(∀ c ∈ as,q c.toNat=true)→o7 q out as ((b:Int) - 1)=some ((a:Int) - 1):=by
 induction h with
 | nil=>intro _ _;rfl
 | @snoc a m b as n h kf e ih jh =>
  intro hb hq;have h9:=h.le;have h8:=kf.le;rw [Ir];have e1:((b+1:Nat):Int) - 1=(b:Int):=by omega
  rw [e1,aaQ];have hqb:=hq (b:Int) (List.mem_append_right _ (List.mem_singleton.2 rfl));rw [aaQ] at hqb
  rw [if_neg (by rintro (h1 | h1 | h1)
                 ·omega
                 ·exact h1 rfl
                 ·rw [hqb] at h1;cases h1)]
  obtain⟨n',m',e',hm',hsz,hf⟩:=hs.2 b (by omega);rw [e] at e';injection e' with e';subst e'
  have:=hf.uniq m kf
  subst this;rw [hsz];have e2:(b:Int) - ((b:Int)+1 - (m':Int))=(m':Int) - 1:=by omega
  rw [e2];exact ih (by omega) (fun c hc=>hq c (List.mem_append_left _ hc))
theorem KT {ns:List Nd}{out:List Int}{k:Nat}(hs:uQ ns out k){n:Nd}(e:ns[k]? = some n){m:Nat}(hm:m≤k)(hf:Fo ns m k n.kids):uQ ns (out ++ [(out.length:Int) - ((m:Int) - 1)]) (k+1):=by
 refine⟨by rw [aaO,hs.1];rfl,fun i hi=>?_⟩
 rcases Nat.lt_or_ge i k with h1 | h1
 ·obtain⟨n',m',e',hm',hsz,hf'⟩:=hs.2 i h1
  refine⟨n',m',e',hm',?_,hf'⟩
  rw [← hsz];simp [aaH,List.getElem?_append_left (show i < out.length by rw [hs.1];exact h1)]
 ·have:i=k:=by omega
  subst this
  refine⟨n,m,e,hm,?_,hf⟩
  rw [hs.1];simp [aaH,hs.1]
  omega
theorem AB:∀ l:List Nd,l.foldl m_ none=none
 | []=>rfl
 | _ :: r=>AB r
theorem Dh {ns:List Nd}:∀ (l2 l1:List Nd) (out sz:List Int),ns=l1 ++ l2→uQ ns out l1.length→l2.foldl m_ (some out)=some sz→uQ ns sz ns.length
 | [],l1,out,sz,e,hs,h=>by
  have:out=sz:=aaP h
  subst this;rw [e,List.append_nil];rw [e,List.append_nil] at hs;exact hs
 | n :: r,l1,out,sz,e,hs,h=>by
  have en:ns[l1.length]? = some n:=by rw [e];simp
  rw [List.foldl_cons] at h
  unfold m_ at h
  rw [Option.bind_some,EB] at h
  rcases hx:o7 (fun _=>true) out n.kids ((out.length:Int) - 1) with _ | a
  ·rw [hx] at h;rw [Option.map_none] at h
   have:=AB r
   unfold m_ at this
   rw [this] at h;cases h
  ·rw [hx] at h
   have hx':=hx;rw [← List.reverse_reverse n.kids] at hx'
   obtain⟨g1,g2,g3,_⟩:=Ip hs n.kids.reverse _ a hx' (by rw [hs.1];omega) (by omega);rw [List.reverse_reverse,hs.1] at g3
   have e1:((l1.length:Int) - 1+1).toNat=l1.length:=by omega
   rw [e1] at g3
   have e2:a=(((a+1).toNat:Nat):Int) - 1:=by omega
   have hle:=g3.le;have hstep:=KT hs en hle g3;rw [← e2] at hstep
   exact Dh r (l1 ++ [n]) _ sz (by rw [e];simp) (by rw [aaO];exact hstep) h
theorem PG {ns:List Nd}(hall:∀ i,i < ns.length→∃ n m,ns[i]? = some n∧Fo ns m i n.kids):∀ (l2 l1:List Nd) (out:List Int),ns=l1 ++ l2→uQ ns out l1.length→∃ sz,l2.foldl m_ (some out)=some sz
 | [],l1,out,e,hs=>⟨out,rfl⟩
 | n :: r,l1,out,e,hs=>by
  have en:ns[l1.length]? = some n:=by rw [e];simp
  obtain⟨n',m,e',hf⟩:=hall l1.length (by rw [e];simp);rw [en] at e';injection e' with e';subst e'
  have hx:=OX (q:=fun _=>true) hs hf (aaJ _) (fun _ _=>rfl);rw [List.foldl_cons]
  have e1:m_ (some out) n=some (out ++ [(out.length:Int) - ((m:Int) - 1)]):=by
   unfold m_;rw [Option.bind_some,EB,hs.1,hx,Option.map_some]
  rw [e1];have hstep:=KT hs en hf.le hf;exact PG hall r (l1 ++ [n]) _ (by rw [e];simp) (by rw [aaO];exact hstep)
theorem Dj (ns:List Nd):uQ ns [] 0:=⟨rfl,fun i hi=>by omega⟩
structure qV (t:Tr):Prop where
 fo:Fo t.nodes 0 t.nodes.length t.items
 item:∀ c ∈ t.items,eP (nd t c.toNat).kind=true
theorem qV.sizes {t:Tr}(h:Fo t.nodes 0 t.nodes.length t.items):∃ sz,oN t=some sz∧uQ t.nodes sz t.nodes.length:=by
 obtain⟨sz,hz⟩:=PG (ns:=t.nodes) (fun i hi=>by obtain⟨n,m,e,_,f⟩:=h.each i (aaL _) hi;exact⟨n,m,e,f⟩) t.nodes [] [] rfl (Dj _);exact⟨sz,hz,Dh t.nodes [] [] sz rfl (Dj _) hz⟩
theorem rR (t:Tr):kE t=true↔qV t∧∀ i,i < t.nodes.length→je t i=true:=by
 constructor
 ·intro h;unfold kE at h
  rcases hz:oN t with _ | sz
  ·rw [hz] at h
   have h0:t.nodes.length=0:=by simpa using h
   have h1:t.nodes=[]:=List.eq_nil_of_length_eq_zero h0;unfold oN at hz;rw [h1] at hz;cases hz
  ·rw [hz] at h
   simp only [aaS,beq_iff_eq,aaR,List.mem_range] at h
   obtain⟨h1,h2⟩:=h;have hs:uQ t.nodes sz t.nodes.length:=Dh t.nodes [] [] sz rfl (Dj _) hz;rw [wM,← List.reverse_reverse t.items] at h2
   obtain⟨_,_,g3,g4⟩:=Ip hs t.items.reverse _ _ h2 (by omega) (by omega);rw [List.reverse_reverse] at g3
   have e1:((t.nodes.length:Int) - 1+1).toNat=t.nodes.length:=by omega
   rw [e1] at g3
   exact⟨⟨g3,fun c hc=>g4 c (List.mem_reverse.2 hc)⟩,h1⟩
 ·rintro⟨⟨hf,hi⟩,hr⟩
  obtain⟨sz,hz,hs⟩:=qV.sizes hf;unfold kE;rw [hz];simp only [aaS,beq_iff_eq,aaR,List.mem_range]
  refine⟨hr,?_⟩
  rw [wM,OX hs hf (aaJ _) hi];rfl
end Mist
