/-
  A part of the proof.
-/
import Derived.Test.YtflnfhhgamldhaaGreatDoorS08
set_option linter.all false
set_option maxRecDepth 100000
set_option maxHeartbeats 4000000
namespace Go.Proofs.YtflnfhhgamldhaaGreatDoor
section
open Go.RowKit Mist
attribute [local go_sem] ah aM aV au ak
def abX:El→Nat
 | .expr=>157
 | .put=>234
 | .param=>153
def vT:Lv→Nat
 | .or=>185
 | .and=>199
 | .not=>210
 | .cmp=>219
 | .sum=>225
 | .term=>229
 | .unary=>230
def ru:Job→Nat
 | .expr=>157
 | .lv v=>vT v
 | .post=>231
 | .atom=>232
 | .put=>234
 | .param=>153
 | .typ=>154
 | _=>0
def pQ (w:World)(ext:List NV):Prop:=∀ x ∈ ext,∀ b,x.2.ownBlock=some b→w.heap.size≤b
theorem pQ.nil (w:World):pQ w []:=fun x h=>by cases h
theorem pQ.append {w:World}{a b:List NV}(h:pQ w a)(k:pQ w b):pQ w (a ++ b):=fun x c=>by
 rcases List.mem_append.1 c with c | c
 ·exact h x c
 ·exact k x c
theorem pQ.mono {w c:World}{a:List NV}(h:pQ c a)(e:w.heap.size≤c.heap.size):pQ w a:=fun x f b d=>Nat.le_trans e (h x f b d)
theorem pQ.one {w:World}{n:Nd}{v:Value}(h:∀ b,v.ownBlock=some b→w.heap.size≤b):pQ w [(n,v)]:=fun x c b a=>by
 rw [List.mem_singleton.1 c] at a;exact h b a
section
variable (g:Nat) (tv:Value) (l:List Tok) (en:Int) (iv:Value)
structure At (w:World) (xs:List NV) (nv:Value) (k:Nat) (ns:List Nd) (w':World) (ext:List NV) (gB:Value):Prop where
 ns:aF (xs ++ ext)=ns
 ps:PS g tv l en iv w' k (xs ++ ext) gB
 mv:Mv g nv.ownBlock w gB.ownBlock w'
 fresh:pQ w ext
def aZ (w:World)(xs:List NV)(nv:Value)(r:kX)(e:Ending)(w':World):Prop :=
 match r with
 | .ok ks k ns=>e=.returned (.int .i64 (hd ks))∧∃ ext gB,At g tv l en iv w xs nv k ns w' ext gB
 | .bad k=>e=aW l en k∧Below g w w'
def A8 (w:World)(xs:List NV)(nv:Value)(r:kX)(e:Ending)(w':World):Prop :=
 match r with
 | .ok ks k ns=>∃ v ext gB,e=.returned v∧w'.ownsRow w.heap.size 3 1 v ks.length (intCells ks)∧At g tv l en iv w xs nv k ns w' ext gB∧∀ x ∈ ext,x.2.ownBlock=none∨x.2.ownBlock ≠ v.ownBlock
 | .bad k=>e=aW l en k∧Below g w w'
variable {g tv l en iv}
theorem aZ.ok {w a:World}{xs ext:List NV}{nv gB:Value}{ks:List Int}{k:Nat}{ns:List Nd}{e:Ending}(c:e=.returned (.int .i64 (hd ks)))(b:At g tv l en iv w xs nv k ns a ext gB):aZ g tv l en iv w xs nv (.ok ks k ns) e a:=⟨c,ext,gB,b⟩
theorem aZ.bad {w a:World}{xs:List NV}{nv:Value}{k:Nat}{e:Ending}(c:e=aW l en k)(b:Below g w a):aZ g tv l en iv w xs nv (.bad k) e a:=⟨c,b⟩
theorem A8.bad {w a:World}{xs:List NV}{nv:Value}{k:Nat}{e:Ending}(c:e=aW l en k)(b:Below g w a):A8 g tv l en iv w xs nv (.bad k) e a:=⟨c,b⟩
variable (g tv l en iv)
def IC (m:Nat)(j:Job):Prop:=∀ (w:World) (k:Nat) (xs:List NV) (nv:Value) (r:kX),PS g tv l en iv w k xs nv→k≤l.length→xs.length≤k→Wf (aF xs)→run l en m j k (aF xs)=some r →
 Calls Tryz.prog (ru j) #[.pointer (some ⟨g,0,none⟩)] w (aZ g tv l en iv w xs nv r)
def LC (m:Nat)(e:El):Prop:=∀ (w:World) (k:Nat) (xs:List NV) (nv:Value) (r:kX),PS g tv l en iv w k xs nv→k≤l.length→xs.length≤k→Wf (aF xs)→run l en m (.list e) k (aF xs)=some r →
 Calls Tryz.prog 152 #[.pointer (some ⟨g,0,none⟩),.func (.func (abX e)) #[] #[]] w (A8 g tv l en iv w xs nv r)
variable {g tv l en iv}
theorem At.refl {w:World}{k:Nat}{xs:List NV}{nv:Value}(h:PS g tv l en iv w k xs nv):At g tv l en iv w xs nv k (aF xs) w [] nv :=
 ⟨by simp,by simpa using h,Mv.refl,pQ.nil _⟩
theorem At.trans {w w1 w2:World}{xs ext a:List NV}{nv c b:Value}{i e:Nat}{f d:List Nd}(h:At g tv l en iv w xs nv i f w1 ext c)(h2:At g tv l en iv w1 (xs ++ ext) c e d w2 a b):At g tv l en iv w xs nv e d w2 (ext ++ a) b :=
 ⟨by rw [← List.append_assoc];exact h2.ns,by rw [← List.append_assoc];exact h2.ps,h.mv.trans h2.mv,h.fresh.append (h2.fresh.mono h.mv.size)⟩
theorem At.step {w w1 w2:World}{xs ext:List NV}{nv a:Value}{d c:Nat}{b:List Nd}(h:At g tv l en iv w xs nv d b w1 ext a)(p:PS g tv l en iv w2 c (xs ++ ext) a)(m:Mv g a.ownBlock w1 a.ownBlock w2):At g tv l en iv w xs nv c b w2 ext a :=
 ⟨h.ns,p,h.mv.trans m,h.fresh⟩
theorem At.add {w w1 w2:World}{xs ext:List NV}{nv e a:Value}{c:Nat}{d:List Nd}{n:Nd}{v:Value}(h:At g tv l en iv w xs nv c d w1 ext e)(p:PS g tv l en iv w2 c ((xs ++ ext) ++ [(n,v)]) a)(m:Mv g e.ownBlock w1 a.ownBlock w2)(f:∀ b,v.ownBlock=some b→w.heap.size≤b) :
  At g tv l en iv w xs nv c (d ++ [n]) w2 (ext ++ [(n,v)]) a :=
 ⟨by rw [← List.append_assoc,Eh,h.ns];rfl,by rw [← List.append_assoc];exact p,h.mv.trans m,h.fresh.append (pQ.one f)⟩
theorem At.low {w w1:World}{xs ext:List NV}{nv c:Value}{k d:Nat}{b:List Nd}(h:PS g tv l en iv w k xs nv)(a:At g tv l en iv w xs nv d b w1 ext c):Below g w w1:=h.low a.mv
theorem At.len {w w1:World}{xs ext:List NV}{nv b:Value}{c:Nat}{a:List Nd}(h:At g tv l en iv w xs nv c a w1 ext b):(xs ++ ext).length=a.length:=by rw [← dL,h.ns]
def vU (g n:Nat)(w:World):Nat:=n - (intOf ((w.cell? ⟨g,2,none⟩).getD undef)).toNat
theorem PS.vU {w:World}{k n:Nat}{xs:List NV}{nv:Value}(h:PS g tv l en iv w k xs nv):vU g n w=n - k:=by
 have e:w.cell? ⟨g,2,none⟩=some (.int .i64 k):=h.blk.cell 2;unfold Go.Proofs.YtflnfhhgamldhaaGreatDoor.vU;rw [e];simp [intOf]
end
section
variable {g:Nat} {tv:Value} {l:List Tok} {en:Int} {iv:Value}
theorem At.below {w w1 w2:World}{xs ext:List NV}{nv b:Value}{d:Nat}{a:List Nd}(h:At g tv l en iv w xs nv d a w1 ext b)(c:Below w1.heap.size w1 w2):At g tv l en iv w xs nv d a w2 ext b :=
 ⟨h.ns,h.ps.below c,h.mv.aU c,h.fresh⟩
theorem At.alloc {w w1:World}{xs ext:List NV}{nv b:Value}{c:Nat}{a:List Nd}(h:At g tv l en iv w xs nv c a w1 ext b)(o:Obj):At g tv l en iv w xs nv c a (w1.alloc o) ext b:=h.below ((Below.refl _ _).alloc (ak0 _) o)
theorem At.drew {w w1:World}{xs ext:List NV}{nv b:Value}{c:Nat}{a:List Nd}(h:At g tv l en iv w xs nv c a w1 ext b):At g tv l en iv w xs nv c a w1.drew ext b:=h.below (Below.drew (Below.refl _ _))
theorem At.from_ {w w1:World}{o:Obj}{xs ext:List NV}{nv b:Value}{c:Nat}{a:List Nd}(h:At g tv l en iv (w.alloc o) xs nv c a w1 ext b):At g tv l en iv w xs nv c a w1 ext b :=
 ⟨h.ns,h.ps,(Mv.dK Mv.refl).trans h.mv,h.fresh.mono (by simp)⟩
theorem Far.mv {w w1:World}{k:Nat}{xs:List NV}{nv:Value}{r1:Option Nat}(h:PS g tv l en iv w k xs nv)(m:Mv g nv.ownBlock w r1 w1){b:Nat}{T:TypeId}{cs:Array Value}(a:bf w b T cs)(d:g ≠ b)(c:nv.ownBlock ≠ some b):bf w1 b T cs∧r1 ≠ some b :=
 ⟨m.blk a (Ne.symm d) (Ne.symm c),Ne.symm (m.ne a.lt (Ne.symm c))⟩
theorem PS.tag {w:World}{k:Nat}{xs:List NV}{nv:Value}(h:PS g tv l en iv w k xs nv){b:Nat}{T:TypeId}{cs:Array Value}(a:bf w b T cs)(h1:T ≠ 92)(h2:T ≠ 50):b ≠ g∧some b ≠ nv.ownBlock :=
 ⟨a.ne_ h.blk h1,fun e=>bD h.own a (Ne.symm h2) e.symm⟩
theorem PS.aY {w c:World}{k:Nat}{xs:List NV}{nv:Value}(h:PS g tv l en iv w k xs nv){row:Option Nat}(m:Mv g nv.ownBlock w row c){b:Nat}{T:TypeId}{cs:Array Value}(a:bf w b T cs)(h1:T ≠ 92:=by decide)(h2:T ≠ 50:=by decide):bf c b T cs :=
 m.blk a (h.tag a h1 h2).1 (h.tag a h1 h2).2
theorem At.blk {w1 w2:World}{xs ext:List NV}{nv d:Value}{k e:Nat}{c:List Nd}(h:At g tv l en iv w1 xs nv e c w2 ext d)(p:PS g tv l en iv w1 k xs nv){b:Nat}{T:TypeId}{cs:Array Value}(a:bf w1 b T cs)(h1:T ≠ 92)(h2:T ≠ 50):bf w2 b T cs :=
 h.mv.blk a (p.tag a h1 h2).1 (p.tag a h1 h2).2
theorem PS.qF {w:World}{k:Nat}{xs:List NV}{nv:Value}(h:PS g tv l en iv w k xs nv){b c:Nat}{i:Array MapEntry}(a:w.heap[b]? = some (.map i c)):b ≠ g∧some b ≠ nv.ownBlock:=by
 constructor
 ·rintro rfl
  have:=h.blk;unfold bf at this;rw [a] at this;cases this
 ·intro e;rcases h.own.2 with ⟨hv,_⟩ | ⟨j,cap,f,hv,_,d,_⟩
  ·rw [hv] at e;simp [Value.ownBlock] at e
  ·rw [hv] at e;simp [Value.ownBlock] at e
   rw [← e,a] at d;cases d
theorem At.map {w1 w2:World}{xs ext:List NV}{nv f:Value}{k i:Nat}{e:List Nd}(h:At g tv l en iv w1 xs nv i e w2 ext f)(p:PS g tv l en iv w1 k xs nv){b c:Nat}{d:Array MapEntry}(a:w1.heap[b]? = some (.map d c)):w2.heap[b]? = some (.map d c) :=
 (h.mv.block b (akX.1 a).1 (p.qF a).1 (p.qF a).2).trans a
theorem Gh {n k:Nat}{v:Lv}{a:Int}{ns:List Nd}(h:iJ v (tx l k)=0):run l en (n+1) (.tail v a) k ns=some (.ok [a] k ns):=by rw [run,if_pos h]
theorem Nr {n k : Nat} {v : Lv} {a : Int} {ns : List Nd} (h : ¬ iJ v (tx l k) = 0) : run l en (n + 1) (.tail v a) k ns = thn (run l en n (.lv v.below) (k + 1) ns) fun b i f => thn (add ⟨iJ v (tx l k), [], 0, [a, hd b], pl l en k⟩ i f) fun c e d =>
      if v=.cmp then some (.ok [hd c] e d) else run l en n (.tail v (hd c)) e d:=by rw [run,if_neg h]
end
theorem gI (g:Nat)(tv:Value)(l:List Tok)(en:Int)(iv:Value)(n:Nat)(K:Nat)(b c:Value)(p:Int)(x:Bs)(N:Int)(a:Value)(kids:List Int)(w:World)(k:Nat)(xs:List NV)(nv:Value)(h:PS g tv l en iv w k xs nv)(f:dD w a kids)(i:xs.length=n)(j:n≤1000000) :
  Calls Tryz.prog 151 #[.pointer (some ⟨g,0,none⟩),.int .u8 K,.agg #[b,c,.int .i64 p],.string (aH x),.int .i64 N,a] w fun e d=>e=.returned (.int .i64 (n:Nat))∧∃ gB,PS g tv l en iv d k (xs ++ [(⟨K,x,N,kids,p⟩,a)]) gB∧Mv g nv.ownBlock w gB.ownBlock d:=by
 subst i;exact abL g tv l en iv K b c p x N a kids w k xs nv h f j
inductive Nth:List Oper→Nat→Oper→Prop
 | z {o:Oper} {r:List Oper}:Nth (o :: r) 0 o
 | s {a o:Oper} {r:List Oper} {n:Nat} (h:Nth r n o):Nth (a :: r) (n+1) o
theorem Nth.get {l:List Oper}{i:Nat}{o:Oper}(h:Nth l i o):l.toArray[i]? = some o:=by
 induction h with
 | z=>rfl
 | s _ a=>simpa using a
theorem kU {P:Program}{e:Region.Mode}{l:List Oper}{Q:Exit→Act→World→Prop}{S:World→Prop}{i:Nat}{d:Oper}{b:Nat}{listed:Array Bool}{a:Act}{w:World}(hi:Nth l i d)
  (m:Region.noSelect l.toArray=true) (f:Region.free e l.toArray listed i=true) (j:(Region.ready e l.toArray listed).contains i=true) {v:Value}
  (hQ:∀ c a w,Q (.panic c) (a.put d.dst v) w→Q (.panic c) a w) (hy:Region.wanted d (yielded l.toArray a.tmps)=true∧∀ w,S w→(execOp a.eval d).run P w=.ok (.value v) w) (hS:S w)
  (h:wpAnyH P e l.toArray Q S b (listed.setIfInBounds i true) (a.put d.dst v) w):wpAnyH P e l.toArray Q S (b+1) listed a w :=
 wpAnyH_take hi.get m f j hQ (Or.inl hy) hS h
theorem dB {P:Program}{e:Region.Mode}{l:List Oper}{Q:Exit→Act→World→Prop}{S:World→Prop}{d:Oper}{b:Nat}{listed:Array Bool}{a:Act}{w:World}(i:Nat)(hi:l[i]? = some d){v:Value}(hS:S w)
  (h:wpAnyH P e l.toArray Q S b (listed.setIfInBounds i true) (a.put d.dst v) w) (hy:Region.wanted d (yielded l.toArray a.tmps)=true:=by rfl)
  (hv:∀ w,S w→(execOp a.eval d).run P w=.ok (.value v) w:=by intro w0 f;(try dsimp only at f);go_split_ands;go_simp;try with_reducible rfl)
  (n:Region.noSelect l.toArray=true:=by kernel_rfl) (j:Region.free e l.toArray listed i=true:=by kernel_rfl) (m:(Region.ready e l.toArray listed).contains i=true:=by kernel_rfl)
  (hQ:∀ c a w,Q (.panic c) (a.put d.dst v) w→Q (.panic c) a w:=by exact fun _ _ _ h=>h):wpAnyH P e l.toArray Q S (b+1) listed a w :=
 wpAnyH_take (by simpa using hi) n j m hQ (Or.inl ⟨hy,hv⟩) hS h
theorem gN {P:Program}{e:Region.Mode}{l:List Oper}{Q:Exit→Act→World→Prop}{S:World→Prop}{i:Nat}{c:Oper}{b:Nat}{listed:Array Bool}{a:Act}{w:World}(hi:Nth l i c)
  (h:∀ d:Act→World→Prop,Shut (∀ a w,S w→(S w→wpAnyH P e l.toArray Q S b (listed.setIfInBounds i true) a w)→d a w)→if Region.wanted c (yielded l.toArray a.tmps)=true then Oper.wp P c a w d Q else d (a.put c.dst undef) w) :
  AllReadyH P e l.toArray Q S b listed a w [i]:=AllReadyH.cons hi.get h AllReadyH.nil
theorem VP {P:Program}{f:Region.Mode}{l:List Oper}{Q:Exit→Act→World→Prop}{S:World→Prop}{i j:Nat}{d e:Oper}{b:Nat}{listed:Array Bool}{a:Act}{w:World}(hi:Nth l i d)(m:Nth l j e)
  (h:∀ c:Act→World→Prop,Shut (∀ a w,S w→(S w→wpAnyH P f l.toArray Q S b (listed.setIfInBounds i true) a w)→c a w)→if Region.wanted d (yielded l.toArray a.tmps)=true then Oper.wp P d a w c Q else c (a.put d.dst undef) w)
  (h2:∀ c:Act→World→Prop,Shut (∀ a w,S w→(S w→wpAnyH P f l.toArray Q S b (listed.setIfInBounds j true) a w)→c a w)→if Region.wanted e (yielded l.toArray a.tmps)=true then Oper.wp P e a w c Q else c (a.put e.dst undef) w) :
  AllReadyH P f l.toArray Q S b listed a w [i,j]:=AllReadyH.cons hi.get h (AllReadyH.cons m.get h2 AllReadyH.nil)
theorem Cu (w:World)(a b:Int):dD (w.alloc (.cells #[.int .i64 a,.int .i64 b] 3)) (.slice (some ⟨w.heap.size,0,none⟩) 2 2) [a,b]:=World.ownsRow_lit w _ 2 (ak2 _) (by simp [maxLen]) rfl
theorem rA (w:World)(a:Int):dD (w.alloc (.cells #[.int .i64 a] 3)) (.slice (some ⟨w.heap.size,0,none⟩) 1 1) [a]:=World.ownsRow_lit w _ 1 (ak2 _) (by simp [maxLen]) rfl
theorem UR (w:World)(a b c:Int):dD (w.alloc (.cells #[.int .i64 a,.int .i64 b,.int .i64 c] 3)) (.slice (some ⟨w.heap.size,0,none⟩) 3 3) [a,b,c]:=World.ownsRow_lit w _ 3 (ak2 _) (by simp [maxLen]) rfl
def ents:Lv→List (Bs × Value)
 | .or=>[([111,114],.int .u8 18)]
 | .and=>[([97,110,100],.int .u8 17)]
 | .cmp=>[([61,61],.int .u8 11),([33,61],.int .u8 12),([60],.int .u8 13),([60,61],.int .u8 14),([62],.int .u8 15),([62,61],.int .u8 16)]
 | .sum=>[([43],.int .u8 6),([45],.int .u8 7)]
 | .term=>[([42],.int .u8 8),([47],.int .u8 9),([37],.int .u8 10)]
 | _=>[]
theorem abY (v:Lv)(x:Bs):(qJ x (ents v)).getD (.int .u8 0)=.int .u8 (iJ v x:Nat):=by
 cases v <;> simp only [ents,qJ,iJ] <;> (repeat' split) <;> rfl
theorem ada (w:World):(zeroValue 5).run Tryz.prog w=.ok (.int .u8 0) w:=by kernel_rfl
theorem abu (w:World):(zeroValue 3).run Tryz.prog w=.ok (.int .i64 0) w:=by kernel_rfl
theorem U0 (w:World)(v:Lv)(m c:Nat)(a:w.heap[m]? = some (.map (jD (ents v) 0).toArray c))(x:Bs):(Instr.lookup 206 (.map (some m)) (.string (aH x)) false).run Tryz.prog w=.ok (.int .u8 (iJ v x:Nat)) w:=by
 have h:=Ef 206 5 (.int .u8 0) Tryz.underlying206 w (ada w) (ents v) m c a x false;rw [h,abY];rfl
end
section
open Go.RowKit Mist
section
variable {g:Nat} {tv:Value} {l:List Tok} {en:Int} {iv:Value} {w w1 w2:World} {k:Nat} {xs:List NV} {nv:Value}
theorem A8.ok {a:World}{ext:List NV}{gB v:Value}{ks:List Int}{ns:List Nd}{e:Ending}(c:e=.returned v)(f:a.ownsRow w.heap.size 3 1 v ks.length (intCells ks))(b:At g tv l en iv w xs nv k ns a ext gB)(d:∀ x ∈ ext,x.2.ownBlock=none∨x.2.ownBlock ≠ v.ownBlock) :
  A8 g tv l en iv w xs nv (.ok ks k ns) e a:=⟨v,ext,gB,c,f,b,d⟩
theorem PS.iV (h:PS g tv l en iv w k xs nv){r1:Option Nat}(m:Mv g nv.ownBlock w r1 w1){base e s n:Nat}{v:Value}{b:List Value}(a:w.ownsRow base e s v n b)(h1:e ≠ 92)(h2:e ≠ 50):w1.ownsRow base e s v n b :=
 m.row a (bD a h.blk h1) (eY a h.own h2)
theorem PS.acp {a:List NV}(h:PS g tv l en iv w k (xs ++ a) nv){x:NV}(d:x ∈ a){b n c:Nat}(f:w.heap.size≤b):x.2.ownBlock=none∨x.2.ownBlock ≠ (Value.slice (some ⟨b,0,none⟩) n c).ownBlock:=by
 right
 intro e
 have:=(World.ownsRow.lt (h.kids x (List.mem_append_right _ d)) b (by rw [e];rfl)).2
 omega
theorem Ll {ext:List NV}{x:NV}{v:Value}(h:pQ w ext)(a:x ∈ ext)(hv:∀ b,v.ownBlock=some b→b < w.heap.size):x.2.ownBlock=none∨x.2.ownBlock ≠ v.ownBlock:=by
 rcases h1:x.2.ownBlock with _ | b
 ·exact .inl rfl
 ·right
  intro e
  have:=h x a b h1
  have:=hv b e.symm
  omega
theorem Mv.aeH {r0 r1 row:Option Nat}(h:Mv g r0 w r1 w1)(a:w1.grownBy w2 row)(d:∀ b,row=some b→w.heap.size≤b):Mv g r0 w r1 w2 :=
 ⟨a.os.trans h.os,a.tape.trans h.tape,a.output.trans h.output,Nat.le_trans h.size a.size,fun b c h1 h2=>(a.block b (alb c h.size) (fun e=>by have:=d b e.symm;omega)).trans (h.block b c h1 h2),h.tgt⟩
theorem PS.grown (h:PS g tv l en iv w k xs nv){row:Option Nat}(c:w.grownBy w1 row)(d:∀ b,row=some b→Far g nv xs b):PS g tv l en iv w1 k xs nv:=by
 have a:Below g w w1:=(Below.refl _ _).grown c (ak1 h.lt) (fun b a=>ak1 (d b a).lt)
 refine⟨h.blk.grown c (fun e=>by have:=(d g e.symm).lt;omega),h.own.kept c ?_,fun x f=>World.ownsRow.kept (h.kids x f) c ?_,h.toks.below a,qh h.env a⟩
 ·rcases h1:nv.ownBlock with _ | b
  ·exact .inl rfl
  ·right;intro e;exact (d b e.symm).row h1
 ·rcases h1:x.2.ownBlock with _ | b
  ·exact .inl rfl
  ·right;intro e;exact (d b e.symm).kids x f h1
theorem At.grown {ext:List NV}{j:Value}{r:Nat}{i:List Nd}{e s n:Nat}{v:Value}{A:List Value}{o:Obj}(h:At g tv l en iv w xs nv r i (w1.alloc o) ext j)(t:PS g tv l en iv w k xs nv)(q:w1.ownsRow w.heap.size e s v n A)(u:e ≠ 50)
  (m:(w1.alloc o).grownBy w2 v.ownBlock) (y:∀ x ∈ ext,x.2.ownBlock=none∨x.2.ownBlock ≠ v.ownBlock):At g tv l en iv w xs nv r i w2 ext j:=by
 have c:∀ b,v.ownBlock=some b→w.heap.size≤b:=fun b a=>(q.lt b a).1
 refine⟨h.ns,h.ps.grown m (fun b a=>⟨alb t.lt (c b a),fun d=>?_,fun x f d=>?_⟩),h.mv.aeH m c,h.fresh⟩
 ·rcases eY (q.alloc o) h.ps.own u with h3 | h3
  ·rw [h3] at a;cases a
  ·exact h3 (by rw [a,d])
 ·rcases List.mem_append.1 f with f | f
  ·have h4:=World.ownsRow.lt (t.kids x f) b d
   have:=c b a
   omega
  ·rcases y x f with h3 | h3
   ·rw [h3] at d;cases d
   ·exact h3 (by rw [d,a])
end
theorem dP {l:List Tok}{t:Bs}{k:Nat}{f:Option kX}{r:kX}(h:Mist.need l t k f=some r):(tx l k=t∧f=some r)∨(¬ tx l k=t∧r=.bad k):=by
 unfold Mist.need at h
 split at h
 ·rename_i e;exact .inl ⟨e,h⟩
 ·rename_i e;exact .inr ⟨e,(ak6 h).symm⟩
theorem fO {l:List Tok}{c:Nat}{k:Nat}{f:Option kX}{r:kX}(h:Mist.dQ l c k f=some r):((tg l k).kind=c∧f=some r)∨(¬ (tg l k).kind=c∧r=.bad k):=by
 unfold Mist.dQ at h
 split at h
 ·rename_i e;exact .inl ⟨e,h⟩
 ·rename_i e;exact .inr ⟨e,(ak6 h).symm⟩
theorem dY {x:Option kX}{f:List Int→Nat→List Nd→Option kX}{r:kX}(h:thn x f=some r):(∃ ks k ns,x=some (.ok ks k ns)∧f ks k ns=some r)∨(∃ k,x=some (.bad k)∧r=.bad k):=by
 cases x with
 | none=>cases h
 | some y =>
  cases y with
  | ok ks k ns=>exact .inl ⟨ks,k,ns,rfl,h⟩
  | bad k=>exact .inr ⟨k,rfl,(ak6 h).symm⟩
theorem dW {n:Nd}{k:Nat}{ns:List Nd}{r:kX}(h:Mist.add n k ns=some r):r=.ok [(ns.length:Int)] k (ns ++ [n]):=(ak6 h).symm
theorem fT {p:Prop}[Decidable p]{a b:Option kX}{r:kX}(h:(if p then a else b)=some r):(p∧a=some r)∨(¬ p∧b=some r):=by
 split at h
 ·rename_i e;exact .inl ⟨e,h⟩
 ·rename_i e;exact .inr ⟨e,h⟩
def isFn:Job→Bool
 | .expr | .lv _ | .post | .atom | .put | .param | .typ=>true
 | _=>false
end
section
open Go.RowKit Mist
attribute [local go_sem] ah aM aV au ak
section
variable {g:Nat} {tv:Value} {l:List Tok} {en:Int} {iv:Value} (hF:PF l)
include hF
theorem yV (v:Lv)(hem:∀ args W,Sem.run Tryz.prog (callFunc (vT v.below) args) W=.ok (.enter (vT v.below) args) W)(m:Nat)(C:∀ f,f≤m→IC g tv l en iv f (.lv v.below))(w:World)(k:Nat)(xs:List NV)(nv:Value)(r:kX)(h:PS g tv l en iv w k xs nv)(hk:k≤l.length)(hn:xs.length≤k)(hw:Wf (aF xs))
  (E c:Nat) (hb0:w.heap[E]? = some (.map (jD (ents v) 0).toArray c)) (hr:thn (run l en m (.lv v.below) k (aF xs)) (fun a t u=>run l en m (.tail v (hd a)) t u)=some r) :
  Calls Tryz.prog 200 #[.agg #[.map (some E),.func (.func (vT v.below)) #[] #[],.bool (decide (v=.cmp))],.pointer (some ⟨g,0,none⟩)] w (aZ g tv l en iv w xs nv r):=by
 have HC:=O C;clear C;have H:=O h;clear h;have HW:=O hw;clear hw;have FF:=O (H.o.new (ak0 _));have wW:=O (bf.new w 208 #[.map (some E),.func (.func (vT v.below)) #[] #[],.bool (decide (v=.cmp))]);have H0:=O (H.o.alloc (.cells #[.map (some E),.func (.func (vT v.below)) #[] #[],.bool (decide (v=.cmp))] 208));have HM:=O (show (w.alloc (.cells #[.map (some E),.func (.func (vT v.below)) #[] #[],.bool (decide (v=.cmp))] 208)).heap[E]? = _ from nW hb0 _);clear hb0;have HR:=O hr;clear hr;have R:=hF.len;go_in
 go_wp2_with fail;rcases hx:run l en m (.lv v.below) k (aF xs) with _ | x
 ·have:=HR.o;rw [hx] at this;cases this
 have F:=O hx;clear hx;have V:=O (show thn (some x) (fun a t u=>run l en m (.tail v (hd a)) t u)=some r by have:=HR.o;rwa [F.o] at this)
 cases x with
 | bad kb =>
  obtain rfl:kX.bad kb=r:=ak6 V.o;refine (HC.o m (ak0 _) _ k xs nv _ H0.o hk hn HW.o F.o).mono ?_;rintro e w1⟨rfl,hb⟩;unfold aW;go_wp2_with fail;exact⟨rfl,aZ.bad rfl ((aG (Below.refl _ _) (ak1 H.o.lt)).trans hb)⟩
 | ok ks t u =>
  have A:=O (dG F.o hk HW.o (Ids.nil _) (by simp));refine (HC.o m (ak0 _) _ k xs nv _ H0.o hk hn HW.o F.o).mono ?_;rintro e w1⟨rfl,ext,gT,ha⟩;have D:=O ha;clear ha;have HB1:=O (D.o.blk H0.o wW.o (by decide) (by decide));have HM1:=O (D.o.map H0.o HM.o);have U:=O (At.from_ D.o);have X:=O (show run l en m (.tail v (hd ks)) t (aF (xs ++ ext))=some r by rw [D.o.ns];exact V.o);clear HR V F;have hk1:=A.o.le;have hf1:=A.o.few;rw [dL] at hf1
  have hl1:=D.o.len;have Gu:=O (show Wf (aF (xs ++ ext)) by rw [D.o.ns];exact A.o.wf);have KG:=O (show 0≤hd ks∧hd ks < ((xs ++ ext).length:Int) by rw [hl1];exact A.o.hd);have hcn:(xs ++ ext).length≤t:=by omega
  clear hl1 hf1 A D HM wW;obtain⟨j,hav⟩:∃ j,j=hd ks:=⟨_,rfl⟩;rw [← hav] at X KG ⊢
  clear hav;have FY:=O U.o.ns;go_wp2_with fail
  go_loopw [5] (fun a wr=>∃ (f d:Nat) (ext:List NV) (gB:Value) (j:Int),a=.int .i64 j∧f≤m∧d≤l.length∧(xs ++ ext).length≤d∧Hid (run l en f (.tail v j) d (aF (xs ++ ext))=some r)∧Hid (Wf (aF (xs ++ ext)))∧Hid (0≤j∧j < ((xs ++ ext).length:Int)) ∧
    Hid (At g tv l en iv w xs nv d (aF (xs ++ ext)) wr ext gB)∧Hid (bf wr w.heap.size 208 #[.map (some E),.func (.func (vT v.below)) #[] #[],.bool (decide (v=.cmp))])∧Hid (wr.heap[E]? = some (.map (jD (ents v) 0).toArray c))) (fun _ wr=>vU g l.length wr)
  case atStart=>exact⟨m,t,ext,gT,j,rfl,ak0 _,hk1,hcn,X,Gu,KG,by rw [FY.o];exact U,HB1,HM1⟩
  case round =>
   clear U HB1 HM1 X Gu KG hcn hk1 FY;obtain⟨f,d,ext,gB,j,rfl,hfm,hk',hn',I4,Gu,KG,D,wW,HM⟩:=hrel
   obtain⟨f,rfl⟩:∃ f0,f=f0+1:=⟨f - 1,by
    rcases Nat.eq_zero_or_pos f with h | h
    ·subst h;have:=I4.o;rw [run] at this;cases this
    ·omega⟩
   have HMS:=O (D.o.ps.vU (n:=l.length));go_wp2_with fail;refine (iQ g tv l en iv _ d _ gB D.o.ps hk' R).mono ?_;rintro e w2⟨rfl,P⟩;have q:=O ((D.o.below P).alloc (.cells #[.int .u8 (tg l d).kind,.string (aH (tx l d)),.int .i64 (pl l en d)] 80));have J:=(wW.o.below P wW.o.lt).alloc (.cells #[.int .u8 (tg l d).kind,.string (aH (tx l d)),.int .i64 (pl l en d)] 80);have bT2:=bf.new w2 80 #[.int .u8 (tg l d).kind,.string (aH (tx l d)),.int .i64 (pl l en d)];have uo:=O (nW ((P.block E (akX.1 HM.o).1).trans HM.o) (.cells #[.int .u8 (tg l d).kind,.string (aH (tx l d)),.int .i64 (pl l en d)] 80));clear P;have hlk:=U0 _ v E c uo.o (tx l d);have c0:=J.cell 0;have hl2:w.heap.size < w2.heap.size+1:=by have:=J.lt;simpa using this
   have afF:=O J;clear J;have afG:=O bT2;clear bT2;by_cases y:iJ v (tx l d)=0
   ·have T:((iJ v (tx l d):Int) == 0)=true:=by simp [y]
    have Y:=O (show r=.ok [j] d (aF (xs ++ ext)) by have:=I4.o;rw [Gh y] at this;exact (ak6 this).symm);clear y;go_wp2_with fail;go_ret;rw [Y.o];exact aZ.ok rfl q.o
   ·have T:((iJ v (tx l d):Int) == 0)=false:=by simp [y]
    have hkl:=(Cv y).1
    have WL:=O (show thn (run l en f (.lv v.below) (d+1) (aF (xs ++ ext))) (fun b t u=>thn (add ⟨iJ v (tx l d),[],0,[j,hd b],pl l en d⟩ t u) fun c k2 jg=>if v=.cmp then some (.ok [hd c] k2 jg) else run l en f (.tail v (hd c)) k2 jg)=some r by
     have:=I4.o;rw [Nr y] at this;exact this)
    clear y I4;go_wp2_with fail;refine (sI g tv l en iv _ d _ gB q.o.ps hk' R).mono ?_;rintro e w3⟨rfl,p3,m3⟩;have gH:=O (q.o.step p3 m3);have L:=q.o.ps.aY m3 afF.o;have B:=q.o.ps.aY m3 afG.o;have Gq:=O ((m3.block E (akX.1 uo.o).1 (q.o.ps.qF uo.o).1 (q.o.ps.qF uo.o).2).trans uo.o);clear m3 p3 hlk c0 hl2 T;have s0:=B.cell 0;have s1:=B.cell 1;have s2:=B.cell 2;have s3:=L.cell 1;have hl3:=B.lt;have hl4:=L.lt;have FX:=O L;clear L;have ahf:=O B;clear B;clear q afF afG uo wW HM D;go_wp2_with fail;rcases hx:run l en f (.lv v.below) (d+1) (aF (xs ++ ext)) with _ | x
    ·have:=WL.o;rw [hx] at this;cases this
    have F:=O hx;clear hx;have HG2:=O (show thn (some x) _=some r by have:=WL.o;rw [F.o] at this;exact this);clear WL
    cases x with
    | bad kb =>
     obtain rfl:kX.bad kb=r:=ak6 HG2.o;have Tk:=O (H.o.low gH.o.mv);refine wp_region_held_drew (S:=fun Q=>Q.cell? ⟨w2.heap.size,0,none⟩=some (.int .u8 (tg l d).kind)∧Q.cell? ⟨w2.heap.size,1,none⟩=some (.string (aH (tx l d)))∧Q.cell? ⟨w2.heap.size,2,none⟩=some (.int .i64 (pl l en d))∧Q.cell? ⟨w.heap.size,1,none⟩=some (.func (.func (vT v.below)) #[] #[])) (by kernel_rfl) ⟨s0,s1,s2,s3⟩ (fun i=>?_);refine dB 0 rfl i ?_;simp only [Act.put,akR,akS,akT];refine dB 1 rfl i ?_;simp only [Act.put,akR,akS,akT];refine dB 2 rfl i ?_;simp only [Act.put,akR,akS,akT];refine dB 3 rfl i ?_;simp only [Act.put,akR,akS,akT];refine dB 4 rfl i ?_;simp only [Act.put,akR,akS,akT];refine dB 5 rfl i ?_;simp only [Act.put,akR,akS,akT];refine dB 6 rfl i ?_;simp only [Act.put,akR,akS,akT];refine wpAnyH_ready (rs:=[7]) (by kernel_rfl) (by simp) ?_;refine gN (.s (.s (.s (.s (.s (.s (.s .z))))))) (fun K hK=>?_);go_simp;refine (HC.o f (by omega) _ (d+1) (xs ++ ext) gB _ gH.o.ps.drew (by omega) (by omega) Gu.o F.o).mono ?_;rintro e w4⟨rfl,hb4⟩;unfold aW;go_wp2_with fail;exact⟨rfl,aZ.bad rfl ((Below.drew Tk.o).trans hb4)⟩
    | ok kb t u =>
     have A:=O (dG F.o (by omega) Gu.o (Ids.nil _) (by simp))
     go_region_held3 (fun Q=>Q.cell? ⟨w2.heap.size,0,none⟩=some (.int .u8 (tg l d).kind)∧Q.cell? ⟨w2.heap.size,1,none⟩=some (.string (aH (tx l d)))∧Q.cell? ⟨w2.heap.size,2,none⟩=some (.int .i64 (pl l en d))∧Q.cell? ⟨w.heap.size,1,none⟩=some (.func (.func (vT v.below)) #[] #[]))
      (first | go_keep|(go_split_ands;refine⟨?_,?_,?_,?_⟩ <;> assumption))
      (first
       | (go_at_call 151;refine (gI g tv l en iv u.length _ _ _ _ _ _ _ [j,hd kb] _ t (xs ++ (ext ++ zT)) F9 (t_.o.ps.alloc _) (Cu w4 j (hd kb)) t_.o.len (by have h1:=t_.o.len;have h2:=A.o.few;have h3:=A.o.le;simp only [dL] at h2;omega)).mono ?_;rintro e w5⟨rfl,Sn,p5,m5⟩;have N:=m5.blk (Z.o.alloc _) (G.o.ps.tag Z.o (by decide) (by decide)).1 (G.o.ps.tag Z.o (by decide) (by decide)).2;have bL5:=m5.blk (Kv.o.alloc _) (G.o.ps.tag Kv.o (by decide) (by decide)).1 (G.o.ps.tag Kv.o (by decide) (by decide)).2;have e0:=N.cell 0;have e1:=N.cell 1;have e2:=N.cell 2;have e3:=bL5.cell 1;have HM5:=O ((m5.block E (by have:=(akX.1 I.o).1;simp;omega) (G.o.ps.qF I.o).1 (G.o.ps.qF I.o).2).trans (nW I.o _));have Kw:=O bL5;clear bL5;have mF:=O ((At.alloc t_.o _).add p5 m5 (by intro b hb;simp [Value.ownBlock] at hb;omega));clear p5 m5 N)
       | (refine (HC.o f (by omega) _ (d+1) (xs ++ ext) gB _ gH.o.ps.drew (by omega) (by omega) Gu.o F.o).mono ?_;rintro e w4⟨rfl,zT,F9,Kj⟩;have G:=O Kj;clear Kj;have t_:=O (gH.o.drew.trans G.o);have YB:=G.o.blk gH.o.ps.drew ahf.o.drew (by decide) (by decide);have M:=G.o.blk gH.o.ps.drew FX.o.drew (by decide) (by decide);have d0:=YB.cell 0;have d1:=YB.cell 1;have d2:=YB.cell 2;have d3:=M.cell 1;have hl5:=YB.lt;have hl6:=M.lt;have I:=O (G.o.map gH.o.ps.drew Gq.o);have Kv:=O M;clear M;have Z:=O YB;clear YB))
     all_goals
      have g1:=A.o.lo;have g2:=A.o.few;have g3:=A.o.le;have g4:=t_.o.len;have g5:=A.o.len;simp only [dL] at g2 g5
      simp only [Job.reads] at g1
      have b2:=Kw.o.cell 2;have hlb:=Kw.o.lt;clear e0 e1 e2 e3 d0 d1 d2 d3 s0 s1 s2 s3 hl3 hl4 hl5 hl6;have Tf:=O (show (if v=.cmp then some (.ok [((u.length:Nat):Int)] t (u ++ [⟨iJ v (tx l d),[],0,[j,hd kb],pl l en d⟩])) else run l en f (.tail v ((u.length:Nat):Int)) t (u ++ [⟨iJ v (tx l d),[],0,[j,hd kb],pl l en d⟩]))=some r from HG2.o);by_cases hv:v=.cmp
      ·rw [ak' hv] at b2
       have Y:=O (show r=.ok [((u.length:Nat):Int)] t (u ++ [⟨iJ v (tx l d),[],0,[j,hd kb],pl l en d⟩]) by
        have h5:=Tf.o;rw [if_pos hv] at h5;exact (ak6 h5).symm)
       clear g4 Tf;go_wp2_with fail;go_ret;rw [Y.o];exact aZ.ok rfl mF.o
      ·rw [ala hv] at b2
       replace Tf:=O (by have h5:=Tf.o;rwa [if_neg hv] at h5)
       have Di:=O (show run l en f (.tail v ((u.length:Nat):Int)) t (aF (xs ++ (ext ++ zT ++ [(⟨iJ v (tx l d),[],0,[j,hd kb],pl l en d⟩,.slice (some ⟨w4.heap.size,0,none⟩) 2 2)])))=some r by
        rw [mF.o.ns];exact Tf.o)
       have HWN:=O (show Wf (aF (xs ++ (ext ++ zT ++ [(⟨iJ v (tx l d),[],0,[j,hd kb],pl l en d⟩,.slice (some ⟨w4.heap.size,0,none⟩) 2 2)]))) by
        rw [mF.o.ns];exact A.o.wf.add (Ids.cons (by have:=KG.o;omega) (Ids.cons A.o.hd (Ids.nil _))))
       have HAN:=O (show At g tv l en iv w xs nv t (aF (xs ++ (ext ++ zT ++ [(⟨iJ v (tx l d),[],0,[j,hd kb],pl l en d⟩,.slice (some ⟨w4.heap.size,0,none⟩) 2 2)]))) w5 (ext ++ zT ++ [(⟨iJ v (tx l d),[],0,[j,hd kb],pl l en d⟩,.slice (some ⟨w4.heap.size,0,none⟩) 2 2)]) Sn by
        rw [mF.o.ns];exact mF.o)
       have hln:(xs ++ (ext ++ zT ++ [((⟨iJ v (tx l d),[],0,[j,hd kb],pl l en d⟩:Nd),Value.slice (some ⟨w4.heap.size,0,none⟩) 2 2)])).length=(xs ++ (ext ++ zT)).length+1:=by simp;omega
       have HLN:=O hln;clear hln;have HG4:=O g4;clear g4;go_wp2_with fail
       refine⟨⟨f,t,_,Sn,_,rfl,by omega,g3,by rw [HLN.o,HG4.o];omega,Di,HWN,O ⟨by omega,by rw [HLN.o,HG4.o];omega⟩,HAN,Kw,HM5⟩,?_⟩
       rw [HMS.o,mF.o.ps.vU];omega
end
section
variable {g:Nat} {tv:Value} {l:List Tok} {en:Int} {iv:Value} (hF:PF l)
include hF
theorem acV (m:Nat)(C:∀ f,f≤m→IC g tv l en iv f (.lv .and)):IC g tv l en iv (m+1) (.lv .or):=by
 intro w k xs nv r h B E j b;have H:=O h;clear h;have y:=O j;clear j;have t:=O C;clear C;have x:=O (show thn (run l en m (.lv .and) k (aF xs)) (fun a n c=>run l en m (.tail .or (hd a)) n c)=some r by rw [run] at b <;> first | exact b | decide|(intro h;cases h));clear b;have D:=@run_makeMap Tryz.prog;have G:(Instr.mapUpdate 206 (.map (some w.heap.size)) (.string ⟨#[111,114]⟩) (.int .u8 18)).run Tryz.prog (w.alloc (.map #[] 0))=.ok () (w.alloc (.map (jD [([111,114],.int .u8 18)] 0).toArray 1)):=fq 206 5 Tryz.underlying206 w [] [111,114] (.int .u8 18) (by decide +kernel);have u:=O (heap_alloc_new w (.map (jD [([111,114],.int .u8 18)] 0).toArray 1));have v:=O (H.o.alloc (.map (jD [([111,114],.int .u8 18)] 0).toArray 1));unfold ru vT;go_enter Tryz.func185,Tryz.ntmps185
 go_wp2_with fail;refine (yV hF .or (fun _ _=>by kernel_rfl) m t.o _ k xs nv r v.o B E y.o w.heap.size 1 u.o x.o).mono ?_;intro e w1 i
 cases r with
 | bad kb =>
  obtain⟨rfl,A⟩:=i;unfold aW;go_wp2_with fail;exact⟨rfl,aZ.bad rfl ((aG (Below.refl _ _) (ak1 H.o.lt)).trans A)⟩
 | ok ks n c =>
  obtain⟨rfl,ext,F,d⟩:=i;have q:=O (At.from_ d);clear d;go_wp2_with fail;go_ret;exact aZ.ok rfl q.o
theorem aaA (m:Nat)(C:∀ f,f≤m→IC g tv l en iv f (.lv .not)):IC g tv l en iv (m+1) (.lv .and):=by
 intro w k xs nv r h B E j b;have H:=O h;clear h;have y:=O j;clear j;have t:=O C;clear C;have x:=O (show thn (run l en m (.lv .not) k (aF xs)) (fun a n c=>run l en m (.tail .and (hd a)) n c)=some r by rw [run] at b <;> first | exact b | decide|(intro h;cases h));clear b;have D:=@run_makeMap Tryz.prog;have G:(Instr.mapUpdate 206 (.map (some w.heap.size)) (.string ⟨#[97,110,100]⟩) (.int .u8 17)).run Tryz.prog (w.alloc (.map #[] 0))=.ok () (w.alloc (.map (jD [([97,110,100],.int .u8 17)] 0).toArray 1)):=fq 206 5 Tryz.underlying206 w [] [97,110,100] (.int .u8 17) (by decide +kernel);have u:=O (heap_alloc_new w (.map (jD [([97,110,100],.int .u8 17)] 0).toArray 1));have v:=O (H.o.alloc (.map (jD [([97,110,100],.int .u8 17)] 0).toArray 1));unfold ru vT;go_enter Tryz.func199,Tryz.ntmps199
 go_wp2_with fail;refine (yV hF .and (fun _ _=>by kernel_rfl) m t.o _ k xs nv r v.o B E y.o w.heap.size 1 u.o x.o).mono ?_;intro e w1 i
 cases r with
 | bad kb =>
  obtain⟨rfl,A⟩:=i;unfold aW;go_wp2_with fail;exact⟨rfl,aZ.bad rfl ((aG (Below.refl _ _) (ak1 H.o.lt)).trans A)⟩
 | ok ks n c =>
  obtain⟨rfl,ext,F,d⟩:=i;have q:=O (At.from_ d);clear d;go_wp2_with fail;go_ret;exact aZ.ok rfl q.o
theorem aaC (m:Nat)(C:∀ f,f≤m→IC g tv l en iv f (.lv .sum)):IC g tv l en iv (m+1) (.lv .cmp):=by
 intro w k xs nv r h B E j b;have H:=O h;clear h;have y:=O j;clear j;have t:=O C;clear C;have x:=O (show thn (run l en m (.lv .sum) k (aF xs)) (fun a n c=>run l en m (.tail .cmp (hd a)) n c)=some r by rw [run] at b <;> first | exact b | decide|(intro h;cases h));clear b;have D:=@run_makeMap Tryz.prog;have G:(Instr.mapUpdate 206 (.map (some w.heap.size)) (.string ⟨#[61,61]⟩) (.int .u8 11)).run Tryz.prog (w.alloc (.map #[] 0))=.ok () (w.alloc (.map (jD [([61,61],.int .u8 11)] 0).toArray 1)):=fq 206 5 Tryz.underlying206 w [] [61,61] (.int .u8 11) (by decide +kernel);have I:(Instr.mapUpdate 206 (.map (some w.heap.size)) (.string ⟨#[33,61]⟩) (.int .u8 12)).run Tryz.prog (w.alloc (.map (jD [([61,61],.int .u8 11)] 0).toArray 1))=.ok () (w.alloc (.map (jD [([61,61],.int .u8 11),([33,61],.int .u8 12)] 0).toArray 2)):=fq 206 5 Tryz.underlying206 w [([61,61],.int .u8 11)] [33,61] (.int .u8 12) (by decide +kernel);have J:(Instr.mapUpdate 206 (.map (some w.heap.size)) (.string ⟨#[60]⟩) (.int .u8 13)).run Tryz.prog (w.alloc (.map (jD [([61,61],.int .u8 11),([33,61],.int .u8 12)] 0).toArray 2))=.ok () (w.alloc (.map (jD [([61,61],.int .u8 11),([33,61],.int .u8 12),([60],.int .u8 13)] 0).toArray 3)):=fq 206 5 Tryz.underlying206 w [([61,61],.int .u8 11),([33,61],.int .u8 12)] [60] (.int .u8 13) (by decide +kernel);have K:(Instr.mapUpdate 206 (.map (some w.heap.size)) (.string ⟨#[60,61]⟩) (.int .u8 14)).run Tryz.prog (w.alloc (.map (jD [([61,61],.int .u8 11),([33,61],.int .u8 12),([60],.int .u8 13)] 0).toArray 3))=.ok () (w.alloc (.map (jD [([61,61],.int .u8 11),([33,61],.int .u8 12),([60],.int .u8 13),([60,61],.int .u8 14)] 0).toArray 4)):=fq 206 5 Tryz.underlying206 w [([61,61],.int .u8 11),([33,61],.int .u8 12),([60],.int .u8 13)] [60,61] (.int .u8 14) (by decide +kernel);have L:(Instr.mapUpdate 206 (.map (some w.heap.size)) (.string ⟨#[62]⟩) (.int .u8 15)).run Tryz.prog (w.alloc (.map (jD [([61,61],.int .u8 11),([33,61],.int .u8 12),([60],.int .u8 13),([60,61],.int .u8 14)] 0).toArray 4))=.ok () (w.alloc (.map (jD [([61,61],.int .u8 11),([33,61],.int .u8 12),([60],.int .u8 13),([60,61],.int .u8 14),([62],.int .u8 15)] 0).toArray 5)):=fq 206 5 Tryz.underlying206 w [([61,61],.int .u8 11),([33,61],.int .u8 12),([60],.int .u8 13),([60,61],.int .u8 14)] [62] (.int .u8 15) (by decide +kernel);have M:(Instr.mapUpdate 206 (.map (some w.heap.size)) (.string ⟨#[62,61]⟩) (.int .u8 16)).run Tryz.prog (w.alloc (.map (jD [([61,61],.int .u8 11),([33,61],.int .u8 12),([60],.int .u8 13),([60,61],.int .u8 14),([62],.int .u8 15)] 0).toArray 5))=.ok () (w.alloc (.map (jD [([61,61],.int .u8 11),([33,61],.int .u8 12),([60],.int .u8 13),([60,61],.int .u8 14),([62],.int .u8 15),([62,61],.int .u8 16)] 0).toArray 6)):=fq 206 5 Tryz.underlying206 w [([61,61],.int .u8 11),([33,61],.int .u8 12),([60],.int .u8 13),([60,61],.int .u8 14),([62],.int .u8 15)] [62,61] (.int .u8 16) (by decide +kernel);have u:=O (heap_alloc_new w (.map (jD [([61,61],.int .u8 11),([33,61],.int .u8 12),([60],.int .u8 13),([60,61],.int .u8 14),([62],.int .u8 15),([62,61],.int .u8 16)] 0).toArray 6));have v:=O (H.o.alloc (.map (jD [([61,61],.int .u8 11),([33,61],.int .u8 12),([60],.int .u8 13),([60,61],.int .u8 14),([62],.int .u8 15),([62,61],.int .u8 16)] 0).toArray 6));unfold ru vT;go_enter Tryz.func219,Tryz.ntmps219
 go_wp2_with fail;refine (yV hF .cmp (fun _ _=>by kernel_rfl) m t.o _ k xs nv r v.o B E y.o w.heap.size 6 u.o x.o).mono ?_;intro e w1 i
 cases r with
 | bad kb =>
  obtain⟨rfl,A⟩:=i;unfold aW;go_wp2_with fail;exact⟨rfl,aZ.bad rfl ((aG (Below.refl _ _) (ak1 H.o.lt)).trans A)⟩
 | ok ks n c =>
  obtain⟨rfl,ext,F,d⟩:=i;have q:=O (At.from_ d);clear d;go_wp2_with fail;go_ret;exact aZ.ok rfl q.o
theorem aaE (m:Nat)(C:∀ f,f≤m→IC g tv l en iv f (.lv .term)):IC g tv l en iv (m+1) (.lv .sum):=by
 intro w k xs nv r h B E j b;have H:=O h;clear h;have y:=O j;clear j;have t:=O C;clear C;have x:=O (show thn (run l en m (.lv .term) k (aF xs)) (fun a n c=>run l en m (.tail .sum (hd a)) n c)=some r by rw [run] at b <;> first | exact b | decide|(intro h;cases h));clear b;have D:=@run_makeMap Tryz.prog;have G:(Instr.mapUpdate 206 (.map (some w.heap.size)) (.string ⟨#[43]⟩) (.int .u8 6)).run Tryz.prog (w.alloc (.map #[] 0))=.ok () (w.alloc (.map (jD [([43],.int .u8 6)] 0).toArray 1)):=fq 206 5 Tryz.underlying206 w [] [43] (.int .u8 6) (by decide +kernel);have I:(Instr.mapUpdate 206 (.map (some w.heap.size)) (.string ⟨#[45]⟩) (.int .u8 7)).run Tryz.prog (w.alloc (.map (jD [([43],.int .u8 6)] 0).toArray 1))=.ok () (w.alloc (.map (jD [([43],.int .u8 6),([45],.int .u8 7)] 0).toArray 2)):=fq 206 5 Tryz.underlying206 w [([43],.int .u8 6)] [45] (.int .u8 7) (by decide +kernel);have u:=O (heap_alloc_new w (.map (jD [([43],.int .u8 6),([45],.int .u8 7)] 0).toArray 2));have v:=O (H.o.alloc (.map (jD [([43],.int .u8 6),([45],.int .u8 7)] 0).toArray 2));unfold ru vT;go_enter Tryz.func225,Tryz.ntmps225
 go_wp2_with fail;refine (yV hF .sum (fun _ _=>by kernel_rfl) m t.o _ k xs nv r v.o B E y.o w.heap.size 2 u.o x.o).mono ?_;intro e w1 i
 cases r with
 | bad kb =>
  obtain⟨rfl,A⟩:=i;unfold aW;go_wp2_with fail;exact⟨rfl,aZ.bad rfl ((aG (Below.refl _ _) (ak1 H.o.lt)).trans A)⟩
 | ok ks n c =>
  obtain⟨rfl,ext,F,d⟩:=i;have q:=O (At.from_ d);clear d;go_wp2_with fail;go_ret;exact aZ.ok rfl q.o
theorem Vg (m:Nat)(C:∀ f,f≤m→IC g tv l en iv f (.lv .unary)):IC g tv l en iv (m+1) (.lv .term):=by
 intro w k xs nv r h B E j b;have H:=O h;clear h;have y:=O j;clear j;have t:=O C;clear C;have x:=O (show thn (run l en m (.lv .unary) k (aF xs)) (fun a n c=>run l en m (.tail .term (hd a)) n c)=some r by rw [run] at b <;> first | exact b | decide|(intro h;cases h));clear b;have D:=@run_makeMap Tryz.prog;have G:(Instr.mapUpdate 206 (.map (some w.heap.size)) (.string ⟨#[42]⟩) (.int .u8 8)).run Tryz.prog (w.alloc (.map #[] 0))=.ok () (w.alloc (.map (jD [([42],.int .u8 8)] 0).toArray 1)):=fq 206 5 Tryz.underlying206 w [] [42] (.int .u8 8) (by decide +kernel);have I:(Instr.mapUpdate 206 (.map (some w.heap.size)) (.string ⟨#[47]⟩) (.int .u8 9)).run Tryz.prog (w.alloc (.map (jD [([42],.int .u8 8)] 0).toArray 1))=.ok () (w.alloc (.map (jD [([42],.int .u8 8),([47],.int .u8 9)] 0).toArray 2)):=fq 206 5 Tryz.underlying206 w [([42],.int .u8 8)] [47] (.int .u8 9) (by decide +kernel);have J:(Instr.mapUpdate 206 (.map (some w.heap.size)) (.string ⟨#[37]⟩) (.int .u8 10)).run Tryz.prog (w.alloc (.map (jD [([42],.int .u8 8),([47],.int .u8 9)] 0).toArray 2))=.ok () (w.alloc (.map (jD [([42],.int .u8 8),([47],.int .u8 9),([37],.int .u8 10)] 0).toArray 3)):=fq 206 5 Tryz.underlying206 w [([42],.int .u8 8),([47],.int .u8 9)] [37] (.int .u8 10) (by decide +kernel);have u:=O (heap_alloc_new w (.map (jD [([42],.int .u8 8),([47],.int .u8 9),([37],.int .u8 10)] 0).toArray 3));have v:=O (H.o.alloc (.map (jD [([42],.int .u8 8),([47],.int .u8 9),([37],.int .u8 10)] 0).toArray 3));unfold ru vT;go_enter Tryz.func229,Tryz.ntmps229
 go_wp2_with fail;refine (yV hF .term (fun _ _=>by kernel_rfl) m t.o _ k xs nv r v.o B E y.o w.heap.size 3 u.o x.o).mono ?_;intro e w1 i
 cases r with
 | bad kb =>
  obtain⟨rfl,A⟩:=i;unfold aW;go_wp2_with fail;exact⟨rfl,aZ.bad rfl ((aG (Below.refl _ _) (ak1 H.o.lt)).trans A)⟩
 | ok ks n c =>
  obtain⟨rfl,ext,F,d⟩:=i;have q:=O (At.from_ d);clear d;go_wp2_with fail;go_ret;exact aZ.ok rfl q.o
end
end
