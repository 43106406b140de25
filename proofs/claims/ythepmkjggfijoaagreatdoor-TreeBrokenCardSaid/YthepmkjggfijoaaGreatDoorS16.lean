/-
  A part of the proof.
-/
import Derived.Test.YthepmkjggfijoaaGreatDoorSA
import Derived.Carry
import Derived.Test.YthepmkjggfijoaaGreatDoorS15
set_option linter.all false
set_option maxRecDepth 100000
set_option maxHeartbeats 4000000
namespace Go.Proofs.YthepmkjggfijoaaGreatDoor
open Go.RowKit Mist
theorem Ku {l:List Tok}{en:Int}:∀ (n:Nat) (e:El) (a:List Int) (k:Nat) (ns:List Nd) (b:List Int) (c:Nat) (d:List Nd),k≤l.length→Wf ns→run l en n (.eu e a) k ns=some (.ok b c d)→b.length+k≤a.length+c
 | 0,_,_,_,_,_,_,_,_,_,h=>by rw [run] at h;cases h
 | n+1,e,a,k,ns,b,c,d,hk,hw,h=>by
  rw [run] at h
  by_cases f:tx l k=[44]
  ·have o:=aP f (by simp);rw [if_pos f] at h
   rcases dW h with ⟨i,r,m,j,q⟩ | ⟨kb,j,h2⟩
   ·have g:=aW j (by omega) hw (by cases e <;> exact Ids.nil _) (by cases e <;> simp [El.job]);have h3:=Ku n e (a ++ [hd i]) r m b c d g.le g.wf q;have h4:=g.lo;rw [aaO] at h3
    simp only [aaT] at h3
    omega
   ·cases h2
  ·rw [if_neg f] at h
   injection h with h;injection h with h1 h2 h3
   subst h1 h2;omega
theorem aam {l:List Tok}{en:Int}{n:Nat}{e:El}{k:Nat}{ns:List Nd}{a:List Int}{b:Nat}{d:List Nd}(j:k≤l.length)(o:Wf ns)(h:run l en n (.list e) k ns=some (.ok a b d)):a.length≤b:=by
 cases n with
 | zero=>rw [run] at h;cases h
 | succ n =>
  rw [run] at h
  rcases dW h with ⟨c,q,i,f,m⟩ | ⟨kb,f,h2⟩
  ·have g:=aW f j o (by cases e <;> exact Ids.nil _) (by cases e <;> simp [El.job]);have h3:=Ku n e [hd c] q i a b d g.le g.wf m;have h4:=g.lo;have h5:e.job.reads=1:=by cases e <;> rfl
   simp only [aaT] at h3
   omega
  ·cases h2
theorem Hy {w:World}{base q:Nat}{v:Value}{a:List Int}(b:a.length=q)(h:w.ownsRow base 3 1 v q (intCells a)):cB w v a:=by
 subst b;exact kI h (fun _ _=>aaL _)
theorem ne_nil {ext:List NV}:∀ x ∈ ext,x.2.ownBlock=none∨x.2.ownBlock ≠ (Value.slice none 0 0).ownBlock:=fun x _=>by
 rcases h:x.2.ownBlock with _ | b
 ·exact .inl rfl
 ·exact .inr (by simp [Value.ownBlock])
theorem uj {ext c:List NV}{w:World}{v:Value}(h:∀ x ∈ ext,x.2.ownBlock=none∨x.2.ownBlock ≠ v.ownBlock)(d:rA w c)(hv:∀ b,v.ownBlock=some b→b < w.heap.size):∀ x ∈ ext ++ c,x.2.ownBlock=none∨x.2.ownBlock ≠ v.ownBlock:=fun x a=>by
 rcases List.mem_append.1 a with a | a
 ·exact h x a
 ·exact Cg d a hv
theorem qG {g:Nat}{tv:Value}{l:List Tok}{en:Int}{iv:Value}{w1:World}{k:Nat}{xs ext:List NV}{nv:Value}{v:Value}{a:Nat}(p:PS g tv l en iv w1 k (xs ++ ext) nv)(h:∀ x ∈ ext,x.2.ownBlock=none∨x.2.ownBlock ≠ v.ownBlock)(d:v.ownBlock=some a∨a=w1.heap.size+1)(q c:Nat):∀ x ∈ ext,x.2.ownBlock=none∨x.2.ownBlock ≠ (Value.slice (some ⟨a,0,none⟩) q c).ownBlock:=fun x i=>by
 show x.2.ownBlock=none∨x.2.ownBlock ≠ some a
 rcases d with e | e
 ·rw [← e];exact h x i
 ·rcases h9:x.2.ownBlock with _ | b
  ·exact .inl rfl
  ·right
   intro f;injection f with f
   have:=(World.ownsRow.lt (p.kids x (List.mem_append_right _ i)) b h9).2
   omega
theorem fZ {w c:World}{o:Obj}{T e s n b:Nat}{v:Value}{i:List Value}{base:Nat}{cs:Array Value}(a:aC w b T cs)(h:w.ownsRow base e s v n i)(f:(w.alloc o).grownBy c v.ownBlock)(hd:e ≠ T):aC c b T cs :=
 (a.alloc o).grown f (fun d=>aT h a hd d.symm)
theorem UK (x y:Bs)(h:x=y):(x == y)=true:=by simp [h]
theorem KX (x y:Bs)(h:¬ x=y):(x == y)=false:=by simp [h]
def EL:List (Bs × Value):=[([109,117,115,116],.int .i64 1),([109,97,121],.int .i64 2),([99,111,117,110,116],.int .i64 3),([98,111,117,110,100,115],.int .i64 4),([118,97,108,117,101,115],.int .i64 5),([119,104,121],.int .i64 6),([98,108,97,109,101],.int .i64 7),([108,111,111,107],.int .i64 8)]
theorem qents_of (x:Bs):(sW x EL).getD (.int .i64 0)=.int .i64 (gy x:Nat):=by
 simp only [EL,sW,gy];(repeat' split) <;> rfl
theorem aap (w:World)(m c:Nat)(a:w.heap[m]? = some (.map (jF EL 0).toArray c))(x:Bs):(Instr.lookup 187 (.map (some m)) (.string (aM x)) false).run Tryz.prog w=.ok (.int .i64 (gy x:Nat)) w:=by
 have h:=Ic 187 3 (.int .i64 0) Tryz.underlying187 w (zero_int w) EL m c a x false;rw [h,qents_of];rfl
theorem O9 (w:World):Calls Tryz.prog 211 #[] w fun e b=>e=.returned (.map (some w.heap.size))∧b=w.alloc (.map (jF EL 0).toArray 8):=by
 have a:=@run_makeMap Tryz.prog;have c:(Instr.mapUpdate 187 (.map (some w.heap.size)) (.string ⟨#[109,117,115,116]⟩) (.int .i64 1)).run Tryz.prog (w.alloc (.map #[] 0))=.ok () (w.alloc (.map (jF [([109,117,115,116],.int .i64 1)] 0).toArray 1)):=fM 187 3 Tryz.underlying187 w [] [109,117,115,116] (.int .i64 1) (by decide +kernel);have d:(Instr.mapUpdate 187 (.map (some w.heap.size)) (.string ⟨#[109,97,121]⟩) (.int .i64 2)).run Tryz.prog (w.alloc (.map (jF [([109,117,115,116],.int .i64 1)] 0).toArray 1))=.ok () (w.alloc (.map (jF [([109,117,115,116],.int .i64 1),([109,97,121],.int .i64 2)] 0).toArray 2)):=fM 187 3 Tryz.underlying187 w [([109,117,115,116],.int .i64 1)] [109,97,121] (.int .i64 2) (by decide +kernel);have f:(Instr.mapUpdate 187 (.map (some w.heap.size)) (.string ⟨#[99,111,117,110,116]⟩) (.int .i64 3)).run Tryz.prog (w.alloc (.map (jF [([109,117,115,116],.int .i64 1),([109,97,121],.int .i64 2)] 0).toArray 2))=.ok () (w.alloc (.map (jF [([109,117,115,116],.int .i64 1),([109,97,121],.int .i64 2),([99,111,117,110,116],.int .i64 3)] 0).toArray 3)):=fM 187 3 Tryz.underlying187 w [([109,117,115,116],.int .i64 1),([109,97,121],.int .i64 2)] [99,111,117,110,116] (.int .i64 3) (by decide +kernel);have h:(Instr.mapUpdate 187 (.map (some w.heap.size)) (.string ⟨#[98,111,117,110,100,115]⟩) (.int .i64 4)).run Tryz.prog (w.alloc (.map (jF [([109,117,115,116],.int .i64 1),([109,97,121],.int .i64 2),([99,111,117,110,116],.int .i64 3)] 0).toArray 3))=.ok () (w.alloc (.map (jF [([109,117,115,116],.int .i64 1),([109,97,121],.int .i64 2),([99,111,117,110,116],.int .i64 3),([98,111,117,110,100,115],.int .i64 4)] 0).toArray 4)):=fM 187 3 Tryz.underlying187 w [([109,117,115,116],.int .i64 1),([109,97,121],.int .i64 2),([99,111,117,110,116],.int .i64 3)] [98,111,117,110,100,115] (.int .i64 4) (by decide +kernel);have i:(Instr.mapUpdate 187 (.map (some w.heap.size)) (.string ⟨#[118,97,108,117,101,115]⟩) (.int .i64 5)).run Tryz.prog (w.alloc (.map (jF [([109,117,115,116],.int .i64 1),([109,97,121],.int .i64 2),([99,111,117,110,116],.int .i64 3),([98,111,117,110,100,115],.int .i64 4)] 0).toArray 4))=.ok () (w.alloc (.map (jF [([109,117,115,116],.int .i64 1),([109,97,121],.int .i64 2),([99,111,117,110,116],.int .i64 3),([98,111,117,110,100,115],.int .i64 4),([118,97,108,117,101,115],.int .i64 5)] 0).toArray 5)):=fM 187 3 Tryz.underlying187 w [([109,117,115,116],.int .i64 1),([109,97,121],.int .i64 2),([99,111,117,110,116],.int .i64 3),([98,111,117,110,100,115],.int .i64 4)] [118,97,108,117,101,115] (.int .i64 5) (by decide +kernel);have j:(Instr.mapUpdate 187 (.map (some w.heap.size)) (.string ⟨#[119,104,121]⟩) (.int .i64 6)).run Tryz.prog (w.alloc (.map (jF [([109,117,115,116],.int .i64 1),([109,97,121],.int .i64 2),([99,111,117,110,116],.int .i64 3),([98,111,117,110,100,115],.int .i64 4),([118,97,108,117,101,115],.int .i64 5)] 0).toArray 5))=.ok () (w.alloc (.map (jF [([109,117,115,116],.int .i64 1),([109,97,121],.int .i64 2),([99,111,117,110,116],.int .i64 3),([98,111,117,110,100,115],.int .i64 4),([118,97,108,117,101,115],.int .i64 5),([119,104,121],.int .i64 6)] 0).toArray 6)):=fM 187 3 Tryz.underlying187 w [([109,117,115,116],.int .i64 1),([109,97,121],.int .i64 2),([99,111,117,110,116],.int .i64 3),([98,111,117,110,100,115],.int .i64 4),([118,97,108,117,101,115],.int .i64 5)] [119,104,121] (.int .i64 6) (by decide +kernel);have k:(Instr.mapUpdate 187 (.map (some w.heap.size)) (.string ⟨#[98,108,97,109,101]⟩) (.int .i64 7)).run Tryz.prog (w.alloc (.map (jF [([109,117,115,116],.int .i64 1),([109,97,121],.int .i64 2),([99,111,117,110,116],.int .i64 3),([98,111,117,110,100,115],.int .i64 4),([118,97,108,117,101,115],.int .i64 5),([119,104,121],.int .i64 6)] 0).toArray 6))=.ok () (w.alloc (.map (jF [([109,117,115,116],.int .i64 1),([109,97,121],.int .i64 2),([99,111,117,110,116],.int .i64 3),([98,111,117,110,100,115],.int .i64 4),([118,97,108,117,101,115],.int .i64 5),([119,104,121],.int .i64 6),([98,108,97,109,101],.int .i64 7)] 0).toArray 7)):=fM 187 3 Tryz.underlying187 w [([109,117,115,116],.int .i64 1),([109,97,121],.int .i64 2),([99,111,117,110,116],.int .i64 3),([98,111,117,110,100,115],.int .i64 4),([118,97,108,117,101,115],.int .i64 5),([119,104,121],.int .i64 6)] [98,108,97,109,101] (.int .i64 7) (by decide +kernel);have m:(Instr.mapUpdate 187 (.map (some w.heap.size)) (.string ⟨#[108,111,111,107]⟩) (.int .i64 8)).run Tryz.prog (w.alloc (.map (jF [([109,117,115,116],.int .i64 1),([109,97,121],.int .i64 2),([99,111,117,110,116],.int .i64 3),([98,111,117,110,100,115],.int .i64 4),([118,97,108,117,101,115],.int .i64 5),([119,104,121],.int .i64 6),([98,108,97,109,101],.int .i64 7)] 0).toArray 7))=.ok () (w.alloc (.map (jF [([109,117,115,116],.int .i64 1),([109,97,121],.int .i64 2),([99,111,117,110,116],.int .i64 3),([98,111,117,110,100,115],.int .i64 4),([118,97,108,117,101,115],.int .i64 5),([119,104,121],.int .i64 6),([98,108,97,109,101],.int .i64 7),([108,111,111,107],.int .i64 8)] 0).toArray 8)):=fM 187 3 Tryz.underlying187 w [([109,117,115,116],.int .i64 1),([109,97,121],.int .i64 2),([99,111,117,110,116],.int .i64 3),([98,111,117,110,100,115],.int .i64 4),([118,97,108,117,101,115],.int .i64 5),([119,104,121],.int .i64 6),([98,108,97,109,101],.int .i64 7)] [108,111,111,107] (.int .i64 8) (by decide +kernel);go_in
 go_wp2_with fail;go_ret;exact⟨rfl,rfl⟩
def Fe:It→Nat
 | .choose=>182
 | .record=>183
 | .zu=>184
 | .yB=>185
 | .observe=>186
 | .kW=>187
 | .ask=>188
def fv (n:Nat):Value:=.func (.func n) #[] #[]
def Ci:List (Bs × Value):=[([99,104,111,111,115,101],fv (Fe .choose)),([116,121,112,101],fv (Fe .record)),([102,117,110],fv (Fe .zu)),([108,101,116],fv (Fe .yB)),([111,98,115,101,114,118,101],fv (Fe .observe)),([114,101,116,114,97,99,116],fv (Fe .kW)),([97,115,107],fv (Fe .ask))]
theorem Z6 (x:Bs):sW x Ci=(Hr x).map fun i=>fv (Fe i):=by
 simp only [Ci,sW,Hr];(repeat' split) <;> rfl
theorem VU (w:World):Calls Tryz.prog 135 #[] w fun e b=>e=.returned (.map (some w.heap.size))∧b=w.alloc (.map (jF Ci 0).toArray 7):=by
 have a:=@run_makeMap Tryz.prog;have c:(Instr.mapUpdate 141 (.map (some w.heap.size)) (.string ⟨#[99,104,111,111,115,101]⟩) (.func (.func 182) #[] #[])).run Tryz.prog (w.alloc (.map #[] 0))=.ok () (w.alloc (.map (jF [([99,104,111,111,115,101],.func (.func 182) #[] #[])] 0).toArray 1)):=fM 141 145 Tryz.underlying141 w [] [99,104,111,111,115,101] (.func (.func 182) #[] #[]) (by decide +kernel);have d:(Instr.mapUpdate 141 (.map (some w.heap.size)) (.string ⟨#[116,121,112,101]⟩) (.func (.func 183) #[] #[])).run Tryz.prog (w.alloc (.map (jF [([99,104,111,111,115,101],.func (.func 182) #[] #[])] 0).toArray 1))=.ok () (w.alloc (.map (jF [([99,104,111,111,115,101],.func (.func 182) #[] #[]),([116,121,112,101],.func (.func 183) #[] #[])] 0).toArray 2)):=fM 141 145 Tryz.underlying141 w [([99,104,111,111,115,101],.func (.func 182) #[] #[])] [116,121,112,101] (.func (.func 183) #[] #[]) (by decide +kernel);have f:(Instr.mapUpdate 141 (.map (some w.heap.size)) (.string ⟨#[102,117,110]⟩) (.func (.func 184) #[] #[])).run Tryz.prog (w.alloc (.map (jF [([99,104,111,111,115,101],.func (.func 182) #[] #[]),([116,121,112,101],.func (.func 183) #[] #[])] 0).toArray 2))=.ok () (w.alloc (.map (jF [([99,104,111,111,115,101],.func (.func 182) #[] #[]),([116,121,112,101],.func (.func 183) #[] #[]),([102,117,110],.func (.func 184) #[] #[])] 0).toArray 3)):=fM 141 145 Tryz.underlying141 w [([99,104,111,111,115,101],.func (.func 182) #[] #[]),([116,121,112,101],.func (.func 183) #[] #[])] [102,117,110] (.func (.func 184) #[] #[]) (by decide +kernel);have h:(Instr.mapUpdate 141 (.map (some w.heap.size)) (.string ⟨#[108,101,116]⟩) (.func (.func 185) #[] #[])).run Tryz.prog (w.alloc (.map (jF [([99,104,111,111,115,101],.func (.func 182) #[] #[]),([116,121,112,101],.func (.func 183) #[] #[]),([102,117,110],.func (.func 184) #[] #[])] 0).toArray 3))=.ok () (w.alloc (.map (jF [([99,104,111,111,115,101],.func (.func 182) #[] #[]),([116,121,112,101],.func (.func 183) #[] #[]),([102,117,110],.func (.func 184) #[] #[]),([108,101,116],.func (.func 185) #[] #[])] 0).toArray 4)):=fM 141 145 Tryz.underlying141 w [([99,104,111,111,115,101],.func (.func 182) #[] #[]),([116,121,112,101],.func (.func 183) #[] #[]),([102,117,110],.func (.func 184) #[] #[])] [108,101,116] (.func (.func 185) #[] #[]) (by decide +kernel);have i:(Instr.mapUpdate 141 (.map (some w.heap.size)) (.string ⟨#[111,98,115,101,114,118,101]⟩) (.func (.func 186) #[] #[])).run Tryz.prog (w.alloc (.map (jF [([99,104,111,111,115,101],.func (.func 182) #[] #[]),([116,121,112,101],.func (.func 183) #[] #[]),([102,117,110],.func (.func 184) #[] #[]),([108,101,116],.func (.func 185) #[] #[])] 0).toArray 4))=.ok () (w.alloc (.map (jF [([99,104,111,111,115,101],.func (.func 182) #[] #[]),([116,121,112,101],.func (.func 183) #[] #[]),([102,117,110],.func (.func 184) #[] #[]),([108,101,116],.func (.func 185) #[] #[]),([111,98,115,101,114,118,101],.func (.func 186) #[] #[])] 0).toArray 5)):=fM 141 145 Tryz.underlying141 w [([99,104,111,111,115,101],.func (.func 182) #[] #[]),([116,121,112,101],.func (.func 183) #[] #[]),([102,117,110],.func (.func 184) #[] #[]),([108,101,116],.func (.func 185) #[] #[])] [111,98,115,101,114,118,101] (.func (.func 186) #[] #[]) (by decide +kernel);have j:(Instr.mapUpdate 141 (.map (some w.heap.size)) (.string ⟨#[114,101,116,114,97,99,116]⟩) (.func (.func 187) #[] #[])).run Tryz.prog (w.alloc (.map (jF [([99,104,111,111,115,101],.func (.func 182) #[] #[]),([116,121,112,101],.func (.func 183) #[] #[]),([102,117,110],.func (.func 184) #[] #[]),([108,101,116],.func (.func 185) #[] #[]),([111,98,115,101,114,118,101],.func (.func 186) #[] #[])] 0).toArray 5))=.ok () (w.alloc (.map (jF [([99,104,111,111,115,101],.func (.func 182) #[] #[]),([116,121,112,101],.func (.func 183) #[] #[]),([102,117,110],.func (.func 184) #[] #[]),([108,101,116],.func (.func 185) #[] #[]),([111,98,115,101,114,118,101],.func (.func 186) #[] #[]),([114,101,116,114,97,99,116],.func (.func 187) #[] #[])] 0).toArray 6)):=fM 141 145 Tryz.underlying141 w [([99,104,111,111,115,101],.func (.func 182) #[] #[]),([116,121,112,101],.func (.func 183) #[] #[]),([102,117,110],.func (.func 184) #[] #[]),([108,101,116],.func (.func 185) #[] #[]),([111,98,115,101,114,118,101],.func (.func 186) #[] #[])] [114,101,116,114,97,99,116] (.func (.func 187) #[] #[]) (by decide +kernel);have k:(Instr.mapUpdate 141 (.map (some w.heap.size)) (.string ⟨#[97,115,107]⟩) (.func (.func 188) #[] #[])).run Tryz.prog (w.alloc (.map (jF [([99,104,111,111,115,101],.func (.func 182) #[] #[]),([116,121,112,101],.func (.func 183) #[] #[]),([102,117,110],.func (.func 184) #[] #[]),([108,101,116],.func (.func 185) #[] #[]),([111,98,115,101,114,118,101],.func (.func 186) #[] #[]),([114,101,116,114,97,99,116],.func (.func 187) #[] #[])] 0).toArray 6))=.ok () (w.alloc (.map (jF [([99,104,111,111,115,101],.func (.func 182) #[] #[]),([116,121,112,101],.func (.func 183) #[] #[]),([102,117,110],.func (.func 184) #[] #[]),([108,101,116],.func (.func 185) #[] #[]),([111,98,115,101,114,118,101],.func (.func 186) #[] #[]),([114,101,116,114,97,99,116],.func (.func 187) #[] #[]),([97,115,107],.func (.func 188) #[] #[])] 0).toArray 7)):=fM 141 145 Tryz.underlying141 w [([99,104,111,111,115,101],.func (.func 182) #[] #[]),([116,121,112,101],.func (.func 183) #[] #[]),([102,117,110],.func (.func 184) #[] #[]),([108,101,116],.func (.func 185) #[] #[]),([111,98,115,101,114,118,101],.func (.func 186) #[] #[]),([114,101,116,114,97,99,116],.func (.func 187) #[] #[])] [97,115,107] (.func (.func 188) #[] #[]) (by decide +kernel);go_in
 go_wp2_with fail;go_ret;exact⟨rfl,rfl⟩
end Go.Proofs.YthepmkjggfijoaaGreatDoor
namespace Go.Proofs.YthepmkjggfijoaaGreatDoor
open Go.RowKit Mist
attribute [local go_sem] aj aH aS aB ak
section
variable {g:Nat} {tv:Value} {l:List Tok} {en:Int} {iv:Value} (hF:PF l)
include hF
theorem VT (m:Nat)(w:World)(k:Nat)(xs:List NV)(nv:Value)(r:j6)(h:PS g tv l en iv w (k+1) xs nv)(hk:k+1≤l.length)(hn:xs.length≤k)(hw:Wf (aA xs))(hr:gI l en m .yB k (aA xs)=some r) :
  Calls Tryz.prog 185 #[.pointer (some ⟨g,0,none⟩),.agg #[.int .u8 (tg l k).kind,.string (aM (tx l k)),.int .i64 (pl l en k)]] w (aR g tv l en iv w xs nv r):=by
 have C:=fun (f:Nat) (_:f≤m) (j:Job) (hj:isFn j=true)=>qd (g:=g) (tv:=tv) (en:=en) (iv:=iv) hF f j hj
 have CL:=fun (f:Nat) (_:f≤m) (e:El)=>pW (g:=g) (tv:=tv) (en:=en) (iv:=iv) hF f e
 have H:=O h;clear h;have A:=O ((At.refl H.o).alloc (.cells #[.int .u8 (tg l k).kind,.string (aM (tx l k)),.int .i64 (pl l en k)] 68));have zl:=O (aC.new w 68 #[.int .u8 (tg l k).kind,.string (aM (tx l k)),.int .i64 (pl l en k)]);have y:=O hw;clear hw;have hn0:(aA xs).length≤k:=by rw [aD];exact hn
 have hlen:=hF.len;unfold gI at hr
 have qm:=O hr;clear hr;go_in
 rcases gH qm.o with ⟨d,G⟩ | ⟨d,rfl⟩
 rotate_left
 ·have xM:=O d;clear d;go_wp2_with fail;refine (mX g tv l en iv hF _ (k+1) _ _ A.o.ps (by omega) xM.o).mono ?_;rintro e w1⟨rfl,Y⟩;unfold aI;go_wp2_with fail;exact⟨rfl,aR.bad rfl ((H.o.low A.o.mv).trans (Y.mono (aaK A.o.ps.lt)))⟩
 have E:=O G;clear G qm;have hlt1:=fA d (by simp);have xM:=O d;clear d;go_wp2_with fail;refine (lC g tv l en iv hF _ (k+1) _ _ A.o.ps (by omega) xM.o).mono ?_;rintro e w1⟨rfl,p1,m1⟩;have tN:=O (A.o.ps.aU m1 zl.o);clear zl;have D:=O (A.o.step p1 m1);clear A;clear p1 m1;unfold jl;have kC:=O (tN.o.alloc (.cells #[.int .u8 (tg l (k+1)).kind,.string (aM (tx l (k+1))),.int .i64 (pl l en (k+1))] 68));clear tN;have og:=O (aC.new w1 68 #[.int .u8 (tg l (k+1)).kind,.string (aM (tx l (k+1))),.int .i64 (pl l en (k+1))]);have u:=O (D.o.alloc (.cells #[.int .u8 (tg l (k+1)).kind,.string (aM (tx l (k+1))),.int .i64 (pl l en (k+1))] 68));clear D;rcases dO E.o with ⟨i,I⟩ | ⟨i,rfl⟩
 rotate_left
 ·have x:=O i;clear i;go_wp2_with fail;refine (gQ g tv l en iv hF [61] (.inr (by decide +kernel)) _ ((k+1)+1) _ _ u.o.ps (by omega) x.o).mono ?_;rintro e w2⟨rfl,Z⟩;unfold aI;go_wp2_with fail;exact⟨rfl,aR.bad rfl ((H.o.low u.o.mv).trans (Z.mono (aaK u.o.ps.lt)))⟩
 have F:=O I;clear I E;have hlt2:=aP i (by simp);have x:=O i;clear i;go_wp2_with fail;refine (eZ g tv l en iv hF [61] (.inr (by decide +kernel)) _ ((k+1)+1) _ _ u.o.ps (by omega) x.o).mono ?_;rintro e w2⟨rfl,p2,R⟩;have q:=O (u.o.ps.aU R kC.o);have L:=O (u.o.ps.aU R og.o);clear kC og;have a:=O (u.o.step p2 R);clear u;clear p2 R;rcases dW F.o with ⟨Uq,k3,uK,n,J⟩ | ⟨kb3,n,rfl⟩
 rotate_left
 ·have Q:=O n;clear n;have fH:=q.o.cell 0;have fQ:=q.o.cell 1;have fT:=q.o.cell 2;have sl0:=q.o.lt;have rD:=L.o.cell 1;have sl1:=L.o.lt;go_wp2_with fail;refine wp_region_held_drew (S:=fun t=>t.cell? ⟨w.heap.size,0,none⟩=some (.int .u8 (tg l k).kind)∧t.cell? ⟨w.heap.size,1,none⟩=some (.string (aM (tx l k)))∧t.cell? ⟨w.heap.size,2,none⟩=some (.int .i64 (pl l en k))∧t.cell? ⟨w1.heap.size,1,none⟩=some (.string (aM (tx l (k+1))))) (by kernel_rfl) ⟨fH,fQ,fT,rD⟩ (fun c=>?_);refine bf 0 rfl c ?_;simp only [Act.put,aaA,aaB,aaC];refine bf 1 rfl c ?_;simp only [Act.put,aaA,aaB,aaC];refine bf 2 rfl c ?_;simp only [Act.put,aaA,aaB,aaC];refine bf 3 rfl c ?_;simp only [Act.put,aaA,aaB,aaC];refine bf 4 rfl c ?_;simp only [Act.put,aaA,aaB,aaC];refine wpAnyH_ready (rs:=[5]) (by kernel_rfl) (by simp) ?_;refine fJ (.s (.s (.s (.s (.s .z))))) (fun K hK=>?_);go_simp;refine (C m (aaJ _) .expr rfl _ (((k+1)+1)+1) _ _ _ a.o.ps.drew (by omega) (by rw [a.o.len];omega) (by rw [a.o.ns];exact y.o) (by rw [a.o.ns];exact Q.o)).mono ?_;rintro e w3⟨rfl,hb3⟩;unfold aI;go_wp2_with fail;exact⟨rfl,aR.bad rfl ((Below.drew (H.o.low a.o.mv)).trans hb3)⟩
 have Q:=O n;clear n;have W:=O J;clear J F;have N:=O (aW Q.o (by omega) y.o (Ids.nil _) (by simp));have X:=N.o.lo;have gf3:=N.o.few;have ge3:=N.o.le;have gn3:=N.o.len;simp only [Job.reads] at X
 have fH:=q.o.cell 0;have fQ:=q.o.cell 1;have fT:=q.o.cell 2;have sl0:=q.o.lt;have rD:=L.o.cell 1;have sl1:=L.o.lt;go_wp2_with fail
 go_region_held3 (fun t=>t.cell? ⟨w.heap.size,0,none⟩=some (.int .u8 (tg l k).kind)∧t.cell? ⟨w.heap.size,1,none⟩=some (.string (aM (tx l k)))∧t.cell? ⟨w.heap.size,2,none⟩=some (.int .i64 (pl l en k))∧t.cell? ⟨w1.heap.size,1,none⟩=some (.string (aM (tx l (k+1)))))
  (first | go_keep|(go_split_ands;refine⟨?_,?_,?_,?_⟩ <;> assumption))
  (first
   | (go_at_call 210;refine (C m (aaJ _) .expr rfl _ (((k+1)+1)+1) _ _ _ a.o.ps.drew (by omega) (by rw [a.o.len];omega) (by rw [a.o.ns];exact y.o) (by rw [a.o.ns];exact Q.o)).mono ?_;rintro e w3⟨rfl,ext3,FM,P⟩;have v:=O (a.o.drew.trans P);have B:=P.blk a.o.ps.drew q.o.drew (by decide) (by decide);have wV:=B.cell 0;have wW:=B.cell 1;have wX:=B.cell 2;have Xx:=B.lt;have r9:=O B;clear B;have M:=P.blk a.o.ps.drew L.o.drew (by decide) (by decide);have Zl:=M.cell 1;have dl1:=M.lt;have V:=O M;clear M;have hz3:=v.o.mv.size;clear P)
   | (go_at_call 204;refine (gB g tv l en iv uK.length 43 _ _ _ (tx l (k+1)) 0 _ [hd Uq] _ k3 _ _ (v.o.ps.alloc _) (rH w3 (hd Uq)) v.o.len (by omega)).mono ?_;rintro e w4⟨rfl,yH,p4,T⟩;have U:=T.blk (r9.o.alloc _) (v.o.ps.tag r9.o (by decide) (by decide)).1 (v.o.ps.tag r9.o (by decide) (by decide)).2;have wY:=U.cell 0;have wZ:=U.cell 1;have w_:=U.cell 2;clear U;have NM:=T.blk (V.o.alloc _) (v.o.ps.tag V.o (by decide) (by decide)).1 (v.o.ps.tag V.o (by decide) (by decide)).2;have Zn:=NM.cell 1;clear NM;have fq:=O ((At.alloc v.o _).add p4 T (by intro b hb;simp [Value.ownBlock] at hb;omega));clear p4 T))
 all_goals
  obtain rfl:=dV W.o;go_wp2_with fail;go_ret;exact aR.ok rfl fq.o
end
section
variable {g:Nat} {tv:Value} {l:List Tok} {en:Int} {iv:Value} (hF:PF l)
include hF
theorem Mr (m:Nat)(w:World)(k:Nat)(xs:List NV)(nv:Value)(r:j6)(h:PS g tv l en iv w (k+1) xs nv)(hk:k+1≤l.length)(hn:xs.length≤k)(hw:Wf (aA xs))(hr:gI l en m .observe k (aA xs)=some r) :
  Calls Tryz.prog 186 #[.pointer (some ⟨g,0,none⟩),.agg #[.int .u8 (tg l k).kind,.string (aM (tx l k)),.int .i64 (pl l en k)]] w (aR g tv l en iv w xs nv r):=by
 have C:=fun (f:Nat) (_:f≤m) (j:Job) (hj:isFn j=true)=>qd (g:=g) (tv:=tv) (en:=en) (iv:=iv) hF f j hj
 have CL:=fun (f:Nat) (_:f≤m) (e:El)=>pW (g:=g) (tv:=tv) (en:=en) (iv:=iv) hF f e
 have H:=O h;clear h;have A:=O ((At.refl H.o).alloc (.cells #[.int .u8 (tg l k).kind,.string (aM (tx l k)),.int .i64 (pl l en k)] 68));have zl:=O (aC.new w 68 #[.int .u8 (tg l k).kind,.string (aM (tx l k)),.int .i64 (pl l en k)]);have y:=O hw;clear hw;have hn0:(aA xs).length≤k:=by rw [aD];exact hn
 have hlen:=hF.len;unfold gI at hr
 have qm:=O hr;clear hr;go_in
 rcases gH qm.o with ⟨d,G⟩ | ⟨d,rfl⟩
 rotate_left
 ·have xM:=O d;clear d;go_wp2_with fail;refine (mX g tv l en iv hF _ (k+1) _ _ A.o.ps (by omega) xM.o).mono ?_;rintro e w1⟨rfl,Y⟩;unfold aI;go_wp2_with fail;exact⟨rfl,aR.bad rfl ((H.o.low A.o.mv).trans (Y.mono (aaK A.o.ps.lt)))⟩
 have E:=O G;clear G qm;have hlt1:=fA d (by simp);have xM:=O d;clear d;go_wp2_with fail;refine (lC g tv l en iv hF _ (k+1) _ _ A.o.ps (by omega) xM.o).mono ?_;rintro e w1⟨rfl,p1,m1⟩;have tN:=O (A.o.ps.aU m1 zl.o);clear zl;have D:=O (A.o.step p1 m1);clear A;clear p1 m1;unfold jl;have kC:=O (tN.o.alloc (.cells #[.int .u8 (tg l (k+1)).kind,.string (aM (tx l (k+1))),.int .i64 (pl l en (k+1))] 68));clear tN;have og:=O (aC.new w1 68 #[.int .u8 (tg l (k+1)).kind,.string (aM (tx l (k+1))),.int .i64 (pl l en (k+1))]);have u:=O (D.o.alloc (.cells #[.int .u8 (tg l (k+1)).kind,.string (aM (tx l (k+1))),.int .i64 (pl l en (k+1))] 68));clear D;rcases dO E.o with ⟨i,I⟩ | ⟨i,rfl⟩
 rotate_left
 ·have x:=O i;clear i;go_wp2_with fail;refine (gQ g tv l en iv hF [58] (.inr (by decide +kernel)) _ ((k+1)+1) _ _ u.o.ps (by omega) x.o).mono ?_;rintro e w2⟨rfl,Z⟩;unfold aI;go_wp2_with fail;exact⟨rfl,aR.bad rfl ((H.o.low u.o.mv).trans (Z.mono (aaK u.o.ps.lt)))⟩
 have F:=O I;clear I E;have hlt2:=aP i (by simp);have x:=O i;clear i;go_wp2_with fail;refine (eZ g tv l en iv hF [58] (.inr (by decide +kernel)) _ ((k+1)+1) _ _ u.o.ps (by omega) x.o).mono ?_;rintro e w2⟨rfl,p2,R⟩;have q:=O (u.o.ps.aU R kC.o);have L:=O (u.o.ps.aU R og.o);clear kC og;have a:=O (u.o.step p2 R);clear u;clear p2 R;rcases dW F.o with ⟨Uq,k3,uK,n,J⟩ | ⟨kb3,n,rfl⟩
 rotate_left
 ·have Q:=O n;clear n;have fH:=q.o.cell 0;have fQ:=q.o.cell 1;have fT:=q.o.cell 2;have sl0:=q.o.lt;have rD:=L.o.cell 1;have sl1:=L.o.lt;go_wp2_with fail;refine wp_region_held_drew (S:=fun t=>t.cell? ⟨w.heap.size,0,none⟩=some (.int .u8 (tg l k).kind)∧t.cell? ⟨w.heap.size,1,none⟩=some (.string (aM (tx l k)))∧t.cell? ⟨w.heap.size,2,none⟩=some (.int .i64 (pl l en k))∧t.cell? ⟨w1.heap.size,1,none⟩=some (.string (aM (tx l (k+1))))) (by kernel_rfl) ⟨fH,fQ,fT,rD⟩ (fun c=>?_);refine bf 0 rfl c ?_;simp only [Act.put,aaA,aaB,aaC];refine bf 1 rfl c ?_;simp only [Act.put,aaA,aaB,aaC];refine bf 2 rfl c ?_;simp only [Act.put,aaA,aaB,aaC];refine bf 3 rfl c ?_;simp only [Act.put,aaA,aaB,aaC];refine bf 4 rfl c ?_;simp only [Act.put,aaA,aaB,aaC];refine wpAnyH_ready (rs:=[5]) (by kernel_rfl) (by simp) ?_;refine fJ (.s (.s (.s (.s (.s .z))))) (fun K hK=>?_);go_simp;refine (C m (aaJ _) .expr rfl _ (((k+1)+1)+1) _ _ _ a.o.ps.drew (by omega) (by rw [a.o.len];omega) (by rw [a.o.ns];exact y.o) (by rw [a.o.ns];exact Q.o)).mono ?_;rintro e w3⟨rfl,hb3⟩;unfold aI;go_wp2_with fail;exact⟨rfl,aR.bad rfl ((Below.drew (H.o.low a.o.mv)).trans hb3)⟩
 have Q:=O n;clear n;have W:=O J;clear J F;have N:=O (aW Q.o (by omega) y.o (Ids.nil _) (by simp));have X:=N.o.lo;have gf3:=N.o.few;have ge3:=N.o.le;have gn3:=N.o.len;simp only [Job.reads] at X
 have fH:=q.o.cell 0;have fQ:=q.o.cell 1;have fT:=q.o.cell 2;have sl0:=q.o.lt;have rD:=L.o.cell 1;have sl1:=L.o.lt;go_wp2_with fail
 go_region_held3 (fun t=>t.cell? ⟨w.heap.size,0,none⟩=some (.int .u8 (tg l k).kind)∧t.cell? ⟨w.heap.size,1,none⟩=some (.string (aM (tx l k)))∧t.cell? ⟨w.heap.size,2,none⟩=some (.int .i64 (pl l en k))∧t.cell? ⟨w1.heap.size,1,none⟩=some (.string (aM (tx l (k+1)))))
  (first | go_keep|(go_split_ands;refine⟨?_,?_,?_,?_⟩ <;> assumption))
  (first
   | (go_at_call 210;refine (C m (aaJ _) .expr rfl _ (((k+1)+1)+1) _ _ _ a.o.ps.drew (by omega) (by rw [a.o.len];omega) (by rw [a.o.ns];exact y.o) (by rw [a.o.ns];exact Q.o)).mono ?_;rintro e w3⟨rfl,ext3,FM,P⟩;have v:=O (a.o.drew.trans P);have B:=P.blk a.o.ps.drew q.o.drew (by decide) (by decide);have wV:=B.cell 0;have wW:=B.cell 1;have wX:=B.cell 2;have Xx:=B.lt;have r9:=O B;clear B;have M:=P.blk a.o.ps.drew L.o.drew (by decide) (by decide);have Zl:=M.cell 1;have dl1:=M.lt;have V:=O M;clear M;have hz3:=v.o.mv.size;clear P)
   | (go_at_call 204;refine (gB g tv l en iv uK.length 44 _ _ _ (tx l (k+1)) 0 _ [hd Uq] _ k3 _ _ (v.o.ps.alloc _) (rH w3 (hd Uq)) v.o.len (by omega)).mono ?_;rintro e w4⟨rfl,yH,p4,T⟩;have U:=T.blk (r9.o.alloc _) (v.o.ps.tag r9.o (by decide) (by decide)).1 (v.o.ps.tag r9.o (by decide) (by decide)).2;have wY:=U.cell 0;have wZ:=U.cell 1;have w_:=U.cell 2;clear U;have NM:=T.blk (V.o.alloc _) (v.o.ps.tag V.o (by decide) (by decide)).1 (v.o.ps.tag V.o (by decide) (by decide)).2;have Zn:=NM.cell 1;clear NM;have fq:=O ((At.alloc v.o _).add p4 T (by intro b hb;simp [Value.ownBlock] at hb;omega));clear p4 T))
 all_goals
  obtain rfl:=dV W.o;go_wp2_with fail;go_ret;exact aR.ok rfl fq.o
end
section
variable {g:Nat} {tv:Value} {l:List Tok} {en:Int} {iv:Value} (hF:PF l)
include hF
theorem Ms (m:Nat)(w:World)(k:Nat)(xs:List NV)(nv:Value)(r:j6)(h:PS g tv l en iv w (k+1) xs nv)(hk:k+1≤l.length)(X:xs.length≤k)(Q:Wf (aA xs))(D:gI l en m .kW k (aA xs)=some r) :
  Calls Tryz.prog 187 #[.pointer (some ⟨g,0,none⟩),.agg #[.int .u8 (tg l k).kind,.string (aM (tx l k)),.int .i64 (pl l en k)]] w (aR g tv l en iv w xs nv r):=by
 have C:=fun (f:Nat) (_:f≤m) (j:Job) (W:isFn j=true)=>qd (g:=g) (tv:=tv) (en:=en) (iv:=iv) hF f j W
 have CL:=fun (f:Nat) (_:f≤m) (e:El)=>pW (g:=g) (tv:=tv) (en:=en) (iv:=iv) hF f e
 have H:=O h;clear h;have t:=O ((At.refl H.o).alloc (.cells #[.int .u8 (tg l k).kind,.string (aM (tx l k)),.int .i64 (pl l en k)] 68));have i:=O (aC.new w 68 #[.int .u8 (tg l k).kind,.string (aM (tx l k)),.int .i64 (pl l en k)]);have U:=O Q;clear Q;have Y:(aA xs).length≤k:=by rw [aD];exact X
 have N:=hF.len;unfold gI at D
 have T:=O D;clear D;go_in
 rcases gH T.o with ⟨d,u⟩ | ⟨d,rfl⟩
 rotate_left
 ·have I:=O d;clear d;have J:=i.o.cell 0;have L:=i.o.cell 1;have M:=i.o.cell 2;have G:=i.o.lt;go_wp2_with fail;refine wp_region_held_drew (S:=fun n=>n.cell? ⟨w.heap.size,0,none⟩=some (.int .u8 (tg l k).kind)∧n.cell? ⟨w.heap.size,1,none⟩=some (.string (aM (tx l k)))∧n.cell? ⟨w.heap.size,2,none⟩=some (.int .i64 (pl l en k))) (by kernel_rfl) ⟨J,L,M⟩ (fun a=>?_);refine bf 0 rfl a ?_;simp only [Act.put,aaA,aaB,aaC];refine bf 1 rfl a ?_;simp only [Act.put,aaA,aaB,aaC];refine bf 2 rfl a ?_;simp only [Act.put,aaA,aaB,aaC];refine wpAnyH_ready (rs:=[3]) (by kernel_rfl) (by simp) ?_;refine fJ (.s (.s (.s .z))) (fun K hK=>?_);go_simp;refine (mX g tv l en iv hF _ (k+1) _ _ t.o.ps.drew (by omega) I.o).mono ?_;rintro e w1⟨rfl,B⟩;unfold aI;go_wp2_with fail;exact⟨rfl,aR.bad rfl ((Below.drew (H.o.low t.o.mv)).trans (B.mono (aaK t.o.ps.lt)))⟩
 have P:=fA d (by simp);have I:=O d;clear d;have y:=O u;clear u T;have tf1:=mQ;have J:=i.o.cell 0;have L:=i.o.cell 1;have M:=i.o.cell 2;have G:=i.o.lt;go_wp2_with fail
 go_region_held3 (fun n=>n.cell? ⟨w.heap.size,0,none⟩=some (.int .u8 (tg l k).kind)∧n.cell? ⟨w.heap.size,1,none⟩=some (.string (aM (tx l k)))∧n.cell? ⟨w.heap.size,2,none⟩=some (.int .i64 (pl l en k)))
  (first | go_keep|(go_split_ands;refine⟨?_,?_,?_⟩ <;> assumption))
  (first
   | (go_at_call 202;(with_reducible refine (lC g tv l en iv hF _ (k+1) _ _ t.o.ps.drew (by omega) I.o).mono ?_);rintro e w1⟨rfl,p1,E⟩;unfold jl;have c:=O (t.o.drew.step p1 E);have q:=t.o.ps.drew.aU E i.o.drew;have wV:=q.cell 0;have wW:=q.cell 1;have wX:=q.cell 2;have Xx:=q.lt;have A:=O q;clear q;have Z:=c.o.mv.size;clear p1 E)
   | (go_at_call 204;(refine (gB g tv l en iv (aA xs).length 45 _ _ _ (tx l (k+1)) 0 _ [] _ ((k+1)+1) _ _ (c.o.ps) (cB.none_ _) c.o.len (by omega)).mono ?_);rintro e w2⟨rfl,Qu,R,F⟩;have v:=F.blk (A.o) (c.o.ps.tag A.o (by decide) (by decide)).1 (c.o.ps.tag A.o (by decide) (by decide)).2;have wY:=v.cell 0;have wZ:=v.cell 1;have w_:=v.cell 2;clear v;have x:=O ((c.o).add R F (by intro b V;simp [Value.ownBlock] at V));clear R F))
 all_goals
  obtain rfl:=dV y.o;go_wp2_with fail;go_ret;exact aR.ok rfl x.o
end
end Go.Proofs.YthepmkjggfijoaaGreatDoor
