import PyProof.Rows.All
import Wide.All
import OpenK.AllK
import Wide.FinOn
import HandS.ForMost
import HandS.Gcd
import HandS.IsInst
import HandS.Wide
import HandS.TupAny
import HandS.Flow
import HandS.Exc
import HandS.StrMore
import HandS.FStr
import HandS.SetFor
import HandS.Style
import HandS.Deep
import PyProof.ReprRoads
import KE.GoesNew
import HandS.TupLe
import HandS.ExcOwn
import HandS.WordsExc
import HandS.Words
import HandS.Ends
import HandS.EndBits
import PySem.Challenge.RW_surehedge_k18_amounts_and_conditions
set_option Elab.async false
set_option linter.all false
set_option maxRecDepth 100000
set_option maxHeartbeats 4000000
/-! PdA: data D (a Python value as a tree, lists marked by who owns them), how it stands in the abstract heap. -/
namespace PD
open PySem L2
inductive Ow where
  | frz | own | brw
  deriving DecidableEq, Repr
inductive D where
  | non | bl (b : Bool) | int (i : Int) | str (x : Str) | tup (ds : List D) | lst (o : Ow) (ds : List D)
mutual
/-- frozen throughout -/
def D.fz : D → Bool
  | .tup ds => D.fzL ds
  | .lst .frz ds => D.fzL ds
  | .lst _ _ => false
  | _ => true
def D.fzL : List D → Bool
  | [] => true
  | d :: ds => d.fz && D.fzL ds
end
mutual
/-- nothing borrowed in it -/
def D.ret : D → Bool
  | .tup ds => D.retL ds
  | .lst .brw _ => false
  | .lst .frz ds => D.fzL ds
  | .lst .own ds => D.retL ds
  | _ => true
def D.retL : List D → Bool
  | [] => true
  | d :: ds => d.ret && D.retL ds
end
mutual
def D.freeze : D → D
  | .tup ds => .tup (D.freezeL ds)
  | .lst _ ds => .lst .frz (D.freezeL ds)
  | d => d
def D.freezeL : List D → List D
  | [] => []
  | d :: ds => d.freeze :: D.freezeL ds
end
mutual
def D.borrow : D → D
  | .tup ds => .tup (D.borrowL ds)
  | .lst .frz ds => .lst .frz ds
  | .lst _ ds => .lst .brw (D.borrowL ds)
  | d => d
def D.borrowL : List D → List D
  | [] => []
  | d :: ds => d.borrow :: D.borrowL ds
end
mutual
def D.strip : D → PyData
  | .non => .none
  | .bl b => .bool b
  | .int i => .int i
  | .str x => .str x
  | .tup ds => .tuple (D.stripL ds)
  | .lst _ ds => .list (D.stripL ds)
def D.stripL : List D → List PyData
  | [] => []
  | d :: ds => d.strip :: D.stripL ds
end
/-- a written (module's) list -/
def KL (K : PySem.W.Frag) (a : Addr) (xs : List V) : Prop :=
  ∃ (o : Obj) (its : Array Value) (n : Nat), K.lookup a = some o ∧ o.cls = .type "list" ∧ o.dict = none ∧ o.data = .seq its n ∧ its.size ≤ sizeLine ∧ Vals xs its.toList
/-- a frozen list -/
def SqF (K : PySem.W.Frag) (H : Hp) (Z : Addr → Prop) (a : Addr) (xs : List V) : Prop :=
  (Z a ∧ H a = some (.lst xs)) ∨ (∃ o, H a = some (.frz o (.lst xs))) ∨ KL K a xs
theorem SqF.sq {K : PySem.W.Frag} {H : Hp} {Z : Addr → Prop} {a : Addr} {xs : List V} (h : SqF K H Z a xs) : SqL K H a xs := by
  rcases h with h | h | h
  · exact .inl (.inl h.2)
  · exact .inl (.inr h)
  · exact .inr h
abbrev AS := Addr → Prop
mutual
inductive Rep (K : PySem.W.Frag) (H : Hp) (Z : AS) : AS → V → D → Prop
  | non {O : AS} : Rep K H Z O .non .non
  | bl {O : AS} {b : Bool} : Rep K H Z O (.bl b) (.bl b)
  | int {O : AS} {i : Int} : Rep K H Z O (.int i) (.int i)
  | str {O : AS} {x : Str} : Rep K H Z O (.str x) (.str x)
  | tup {O : AS} {a : Addr} {xs : List V} {ds : List D} : SqT K H a xs → RepL K H Z O xs ds → Rep K H Z O (.ref a) (.tup ds)
  | frz {O : AS} {a : Addr} {xs : List V} {ds : List D} : SqF K H Z a xs → RepL K H Z (fun _ => False) xs ds → D.fzL ds = true → Rep K H Z O (.ref a) (.lst .frz ds)
  | own {O O' : AS} {a : Addr} {xs : List V} {ds : List D} : H a = some (.lst xs) → ¬ Z a → O a → (∀ b, O' b → O b) → ¬ O' a → RepL K H Z O' xs ds → Rep K H Z O (.ref a) (.lst .own ds)
  | brw {O : AS} {a : Addr} {xs : List V} {ds : List D} : H a = some (.lst xs) → RepL K H Z (fun _ => False) xs ds → Rep K H Z O (.ref a) (.lst .brw ds)
inductive RepL (K : PySem.W.Frag) (H : Hp) (Z : AS) : AS → List V → List D → Prop
  | nil {O : AS} : RepL K H Z O [] []
  | cons {O O1 O2 : AS} {v : V} {vs : List V} {d : D} {ds : List D} : (∀ b, O1 b → O b) → (∀ b, O2 b → O b) → (∀ b, O1 b → ¬ O2 b) → Rep K H Z O1 v d → RepL K H Z O2 vs ds → RepL K H Z O (v :: vs) (d :: ds)
end
section
variable {K : PySem.W.Frag} {H H' : Hp} {Z Z' E M : AS}
theorem RepL.len : ∀ {ds : List D} {O : AS} {vs : List V}, RepL K H Z O vs ds → vs.length = ds.length
  | [], _, _, .nil => rfl
  | _ :: _, _, _, .cons _ _ _ _ t => by simp [RepL.len t]
/-- a larger room for what is owned -/
theorem Rep.wide {O O2 : AS} {v : V} {d : D} (h : Rep K H Z O v d) (w : ∀ b, O b → O2 b) : Rep K H Z O2 v d := by
  cases h with
  | non => exact .non
  | bl => exact .bl
  | int => exact .int
  | str => exact .str
  | tup s r =>
    refine .tup s ?_
    cases r with
    | nil => exact .nil
    | cons h1 h2 h3 a b => exact .cons (fun b q => w b (h1 b q)) (fun b q => w b (h2 b q)) h3 a b
  | frz s r f => exact .frz s r f
  | own a b c d e f => exact .own a b (w _ c) (fun b q => w b (d b q)) e f
  | brw a r => exact .brw a r
theorem RepL.wide {O O2 : AS} {vs : List V} {ds : List D} (h : RepL K H Z O vs ds) (w : ∀ b, O b → O2 b) : RepL K H Z O2 vs ds := by
  cases h with
  | nil => exact .nil
  | cons h1 h2 h3 a b => exact .cons (fun b q => w b (h1 b q)) (fun b q => w b (h2 b q)) h3 a b
/-- what becomes of the heap: E owned by the frame, M may be changed -/
structure Ext (H : Hp) (Z E M : AS) (H' : Hp) (Z' : AS) : Prop where
  keep : ∀ a o, H a = some o → ¬ M a → H' a = some o
  zin : ∀ a, Z a → Z' a
  znew : ∀ a, Z' a → Z a ∨ E a ∨ H a = none
def noTF : HO → Prop
  | .tup _ => False
  | .frz _ _ => False
  | _ => True
theorem sqT_go (h : ∀ a xs, M a → H a = some xs → noTF xs) (k : ∀ a o, H a = some o → ¬ M a → H' a = some o) {a : Addr} {xs : List V} (s : SqT K H a xs) : SqT K H' a xs := by
  rcases s with (s | ⟨o, s⟩) | s
  · exact .inl (.inl (k _ _ s fun m => h _ _ m s))
  · exact .inl (.inr ⟨o, k _ _ s fun m => h _ _ m s⟩)
  · exact .inr s
theorem sqF_go (x : Ext H Z E M H' Z') (hz : ∀ a, Z a → ¬ M a) (h : ∀ a xs, M a → H a = some xs → noTF xs) {a : Addr} {xs : List V} (s : SqF K H Z a xs) : SqF K H' Z' a xs := by
  rcases s with ⟨z, s⟩ | ⟨o, s⟩ | s
  · exact .inl ⟨x.zin _ z, x.keep _ _ s (hz _ z)⟩
  · exact .inr (.inl ⟨o, x.keep _ _ s fun m => h _ _ m s⟩)
  · exact .inr (.inr s)
mutual
theorem fz_ret : ∀ d : D, d.fz = true → d.ret = true
  | .non, _ => rfl
  | .bl _, _ => rfl
  | .int _, _ => rfl
  | .str _, _ => rfl
  | .tup ds, h => by
    simp only [D.fz] at h
    simp only [D.ret]
    exact fzL_retL ds h
  | .lst .frz ds, h => by simpa only [D.fz, D.ret] using h
  | .lst .own ds, h => by simp [D.fz] at h
  | .lst .brw ds, h => by simp [D.fz] at h
theorem fzL_retL : ∀ ds : List D, D.fzL ds = true → D.retL ds = true
  | [], _ => rfl
  | d :: ds, h => by
    simp only [D.fzL, Bool.and_eq_true] at h
    simp only [D.retL, Bool.and_eq_true]
    exact ⟨fz_ret d h.1, fzL_retL ds h.2⟩
end
mutual
theorem Rep.goN (x : Ext H Z E M H' Z') (mE : ∀ a, M a → E a) (hz : ∀ a, Z a → ¬ E a) (hM : ∀ a xs, M a → H a = some xs → noTF xs) :
    ∀ (d : D) (O : AS) (v : V), (∀ a, O a → ¬ E a) → (d.ret = true ∨ ∀ a, ¬ M a) → Rep K H Z O v d → Rep K H' Z' O v d
  | .non, _, _, _, _, .non => .non
  | .bl _, _, _, _, _, .bl => .bl
  | .int _, _, _, _, _, .int => .int
  | .str _, _, _, _, _, .str => .str
  | .tup ds, O, _, hO, hr, .tup s r => .tup (sqT_go hM x.keep s) (RepL.goN x mE hz hM ds O _ hO (by simpa only [D.ret] using hr) r)
  | .lst .frz ds, O, _, hO, hr, .frz s r f => .frz (sqF_go x (fun a z m => hz a z (mE a m)) hM s) (RepL.goN x mE hz hM ds _ _ (fun _ z => z.elim) (.inl (fzL_retL ds f)) r) f
  | .lst .own ds, O, _, hO, hr, .own (O' := O') a b c d e f => .own (x.keep _ _ a fun m => hO _ c (mE _ m)) (fun z => by
      rcases x.znew _ z with q | q | q
      · exact b q
      · exact hO _ c q
      · rw [q] at a; cases a) c d e (RepL.goN x mE hz hM ds O' _ (fun a q => hO a (d a q)) (by simpa only [D.ret] using hr) f)
  | .lst .brw ds, O, _, hO, hr, .brw a r => .brw (x.keep _ _ a (by
      rcases hr with z | z
      · simp [D.ret] at z
      · exact z _)) (RepL.goN x mE hz hM ds _ _ (fun _ z => z.elim) (.inr (by
      rcases hr with z | z
      · simp [D.ret] at z
      · exact z)) r)
theorem RepL.goN (x : Ext H Z E M H' Z') (mE : ∀ a, M a → E a) (hz : ∀ a, Z a → ¬ E a) (hM : ∀ a xs, M a → H a = some xs → noTF xs) :
    ∀ (ds : List D) (O : AS) (vs : List V), (∀ a, O a → ¬ E a) → (D.retL ds = true ∨ ∀ a, ¬ M a) → RepL K H Z O vs ds → RepL K H' Z' O vs ds
  | [], _, _, _, _, .nil => .nil
  | d :: ds, O, _, hO, hr, .cons h1 h2 h3 a b => .cons h1 h2 h3 (Rep.goN x mE hz hM d _ _ (fun a q => hO a (h1 a q)) (by
      rcases hr with z | z
      · simp only [D.retL, Bool.and_eq_true] at z; exact .inl z.1
      · exact .inr z) a) (RepL.goN x mE hz hM ds _ _ (fun a q => hO a (h2 a q)) (by
      rcases hr with z | z
      · simp only [D.retL, Bool.and_eq_true] at z; exact .inl z.2
      · exact .inr z) b)
end
theorem Rep.go (x : Ext H Z E M H' Z') (mE : ∀ a, M a → E a) (hz : ∀ a, Z a → ¬ E a) (hM : ∀ a xs, M a → H a = some xs → ∃ ys, xs = .lst ys)
    (d : D) (O : AS) (v : V) (hO : ∀ a, O a → ¬ E a) (hr : d.ret = true ∨ ∀ a, ¬ M a) (r : Rep K H Z O v d) : Rep K H' Z' O v d :=
  Rep.goN x mE hz (fun a xs m e => by obtain ⟨ys, rfl⟩ := hM a xs m e; trivial) d O v hO hr r
theorem RepL.go (x : Ext H Z E M H' Z') (mE : ∀ a, M a → E a) (hz : ∀ a, Z a → ¬ E a) (hM : ∀ a xs, M a → H a = some xs → ∃ ys, xs = .lst ys)
    (ds : List D) (O : AS) (vs : List V) (hO : ∀ a, O a → ¬ E a) (hr : D.retL ds = true ∨ ∀ a, ¬ M a) (r : RepL K H Z O vs ds) : RepL K H' Z' O vs ds :=
  RepL.goN x mE hz (fun a xs m e => by obtain ⟨ys, rfl⟩ := hM a xs m e; trivial) ds O vs hO hr r
mutual
/-- what is frozen throughout owns nothing -/
theorem Rep.noO : ∀ (d : D) (O O2 : AS) (v : V), d.fz = true → Rep K H Z O v d → Rep K H Z O2 v d
  | .non, _, _, _, _, .non => .non
  | .bl _, _, _, _, _, .bl => .bl
  | .int _, _, _, _, _, .int => .int
  | .str _, _, _, _, _, .str => .str
  | .tup ds, O, O2, _, h, .tup s r => .tup s (RepL.noO ds _ _ _ (by simpa only [D.fz] using h) r)
  | .lst .frz ds, O, _, _, h, .frz s r f => .frz s r f
  | .lst .own ds, O, _, _, h, _ => by simp [D.fz] at h
  | .lst .brw ds, O, _, _, h, _ => by simp [D.fz] at h
theorem RepL.noO : ∀ (ds : List D) (O O2 : AS) (vs : List V), D.fzL ds = true → RepL K H Z O vs ds → RepL K H Z O2 vs ds
  | [], _, _, _, _, .nil => .nil
  | d :: ds, O, O2, _, h, .cons h1 h2 h3 a b => by
    simp only [D.fzL, Bool.and_eq_true] at h
    exact .cons (O1 := fun _ => False) (O2 := fun _ => False) (fun _ z => z.elim) (fun _ z => z.elim) (fun _ z => z.elim) (Rep.noO d _ _ _ h.1 a) (RepL.noO ds _ _ _ h.2 b)
end
mutual
theorem freeze_fz : ∀ d : D, d.freeze.fz = true
  | .non => rfl
  | .bl _ => rfl
  | .int _ => rfl
  | .str _ => rfl
  | .tup ds => by simp only [D.freeze, D.fz]; exact freezeL_fz ds
  | .lst o ds => by simp only [D.freeze, D.fz]; exact freezeL_fz ds
theorem freezeL_fz : ∀ ds : List D, D.fzL (D.freezeL ds) = true
  | [] => rfl
  | d :: ds => by simp only [D.freezeL, D.fzL, Bool.and_eq_true]; exact ⟨freeze_fz d, freezeL_fz ds⟩
end
mutual
theorem freeze_id : ∀ d : D, d.fz = true → d.freeze = d
  | .non, _ => rfl
  | .bl _, _ => rfl
  | .int _, _ => rfl
  | .str _, _ => rfl
  | .tup ds, h => by simp only [D.freeze]; rw [freezeL_id ds (by simpa only [D.fz] using h)]
  | .lst .frz ds, h => by simp only [D.freeze]; rw [freezeL_id ds (by simpa only [D.fz] using h)]
  | .lst .own ds, h => by simp [D.fz] at h
  | .lst .brw ds, h => by simp [D.fz] at h
theorem freezeL_id : ∀ ds : List D, D.fzL ds = true → D.freezeL ds = ds
  | [], _ => rfl
  | d :: ds, h => by
    simp only [D.fzL, Bool.and_eq_true] at h
    simp only [D.freezeL]; rw [freeze_id d h.1, freezeL_id ds h.2]
end
mutual
/-- freezing: the owned addresses join Z -/
theorem Rep.freeze : ∀ (d : D) (O O2 : AS) (v : V), d.ret = true → (∀ a, O a → Z' a) → (∀ a, Z a → Z' a) → Rep K H Z O v d → Rep K H Z' O2 v d.freeze
  | .non, _, _, _, _, _, _, .non => .non
  | .bl _, _, _, _, _, _, _, .bl => .bl
  | .int _, _, _, _, _, _, _, .int => .int
  | .str _, _, _, _, _, _, _, .str => .str
  | .tup ds, O, O2, _, hr, h1, h2, .tup s r => by
    simp only [D.freeze]
    exact .tup s (RepL.freeze ds O _ _ (by simpa only [D.ret] using hr) h1 h2 r)
  | .lst .frz ds, O, O2, _, hr, h1, h2, .frz s r f => by
    simp only [D.freeze]
    exact .frz (by
      rcases s with ⟨z, s⟩ | s
      · exact .inl ⟨h2 _ z, s⟩
      · exact .inr s) (RepL.freeze ds _ _ _ (fzL_retL ds f) (fun _ z => z.elim) h2 r) (freezeL_fz ds)
  | .lst .own ds, O, O2, _, hr, h1, h2, .own (O' := O') a b c d e f => by
    simp only [D.freeze]
    exact .frz (.inl ⟨h1 _ c, a⟩) (RepL.freeze ds O' _ _ (by simpa only [D.ret] using hr) (fun a q => h1 a (d a q)) h2 f) (freezeL_fz ds)
  | .lst .brw ds, O, O2, _, hr, h1, h2, _ => by simp [D.ret] at hr
theorem RepL.freeze : ∀ (ds : List D) (O O2 : AS) (vs : List V), D.retL ds = true → (∀ a, O a → Z' a) → (∀ a, Z a → Z' a) → RepL K H Z O vs ds → RepL K H Z' O2 vs (D.freezeL ds)
  | [], _, _, _, _, _, _, .nil => .nil
  | d :: ds, O, O2, _, hr, h1, h2, .cons g1 g2 g3 a b => by
    simp only [D.retL, Bool.and_eq_true] at hr
    exact .cons (O1 := fun _ => False) (O2 := fun _ => False) (fun _ z => z.elim) (fun _ z => z.elim) (fun _ z => z.elim) (Rep.freeze d _ _ _ hr.1 (fun a q => h1 a (g1 a q)) h2 a) (RepL.freeze ds _ _ _ hr.2 (fun a q => h1 a (g2 a q)) h2 b)
end
mutual
/-- borrowing: the same place, nothing owned -/
theorem Rep.borrow : ∀ (d : D) (O O2 : AS) (v : V), d.ret = true → Rep K H Z O v d → Rep K H Z O2 v d.borrow
  | .non, _, _, _, _, .non => .non
  | .bl _, _, _, _, _, .bl => .bl
  | .int _, _, _, _, _, .int => .int
  | .str _, _, _, _, _, .str => .str
  | .tup ds, O, O2, _, hr, .tup s r => by
    simp only [D.borrow]
    exact .tup s (RepL.borrow ds O _ _ (by simpa only [D.ret] using hr) r)
  | .lst .frz ds, O, O2, _, hr, .frz s r f => by
    simp only [D.borrow]
    exact .frz s r f
  | .lst .own ds, O, O2, _, hr, .own (O' := O') a b c d e f => by
    simp only [D.borrow]
    exact .brw a (RepL.borrow ds O' _ _ (by simpa only [D.ret] using hr) f)
  | .lst .brw ds, O, O2, _, hr, _ => by simp [D.ret] at hr
theorem RepL.borrow : ∀ (ds : List D) (O O2 : AS) (vs : List V), D.retL ds = true → RepL K H Z O vs ds → RepL K H Z O2 vs (D.borrowL ds)
  | [], _, _, _, _, .nil => .nil
  | d :: ds, O, O2, _, hr, .cons g1 g2 g3 a b => by
    simp only [D.retL, Bool.and_eq_true] at hr
    exact .cons (O1 := fun _ => False) (O2 := fun _ => False) (fun _ z => z.elim) (fun _ z => z.elim) (fun _ z => z.elim) (Rep.borrow d _ _ _ hr.1 a) (RepL.borrow ds _ _ _ hr.2 b)
end
mutual
theorem Rep.dp : ∀ (d : D) (O : AS) (v : V), Rep K H Z O v d → Dp K H v d.strip
  | .non, _, _, .non => .non
  | .bl _, _, _, .bl => .bl _
  | .int _, _, _, .int => .int _
  | .str _, _, _, .str => .str _
  | .tup ds, _, _, .tup s r => by simp only [D.strip]; exact .tup s (RepL.dp ds _ _ r)
  | .lst .frz ds, _, _, .frz s r f => by simp only [D.strip]; exact .lst s.sq (RepL.dp ds _ _ r)
  | .lst .own ds, _, _, .own a b c d e f => by simp only [D.strip]; exact .lst (.inl (.inl a)) (RepL.dp ds _ _ f)
  | .lst .brw ds, _, _, .brw a r => by simp only [D.strip]; exact .lst (.inl (.inl a)) (RepL.dp ds _ _ r)
theorem RepL.dp : ∀ (ds : List D) (O : AS) (vs : List V), RepL K H Z O vs ds → DpAll K H vs (D.stripL ds)
  | [], _, _, .nil => .nil
  | d :: ds, _, _, .cons _ _ _ a b => .cons (Rep.dp d _ _ a) (RepL.dp ds _ _ b)
end
end
end PD
set_option Elab.async false
set_option linter.all false
set_option maxRecDepth 100000
set_option maxHeartbeats 4000000
/-! PdB: the small language that a def of the text is turned into, and its evaluator over data. -/
namespace PD
open PySem L2
abbrev Ev := List (Option D)
/-- what an expression comes to -/
inductive R where
  | ok (d : D) (ρ : Ev) | exc (c : String) (fs : List D) (ρ : Ev) | stuck
inductive RL where
  | ok (ds : List D) (ρ : Ev) | exc (c : String) (fs : List D) (ρ : Ev) | stuck
/-- what a def comes to: its value, what its kept parameters hold at the end -/
inductive RF where
  | ok (d : D) (out : List D) | exc (c : String) (fs : List D) | stuck
inductive Md where
  | frz | mov | brw
  deriving DecidableEq
inductive O2 where
  | add | sub | mul | fdiv | mod | pow | eq | ne | lt | le | gt | ge | isin | notin | is | isnot
  deriving DecidableEq
inductive O1 where
  | neg | not
  deriving DecidableEq
inductive Ty where
  | int | bool | str | list | tuple
  deriving DecidableEq
inductive B1 where
  | len | int | abs | all | any | list | tuple | str | sum | repr | min | max | gcd | isi (t : Ty)
  deriving DecidableEq
inductive M1 where
  | append | extend | pop | popAt | clear | insert
  deriving DecidableEq
inductive PM where
  | index | count | split | startswith | removeprefix
  deriving DecidableEq
mutual
inductive Tg where
  | nm (i : Nat) | tup (ts : TgL)
inductive TgL where
  | nil | cons (t : Tg) (ts : TgL)
end
mutual
inductive CE where
  | lit (d : D)
  | var (m : Md) (i : Nat)
  | glb (i : Nat)
  | op2 (o : O2) (a b : CE)
  | op1 (o : O1) (a : CE)
  | con (es : CL)
  | dis (es : CL)
  | ite (c a b : CE)
  | chn (o o' : O2) (a b c : CE)
  | idx (a b : CE)
  | sl (a : CE) (lo hi : CO)
  | tup (es : CL)
  | lst (es : CL)
  | cal (i : Nat) (es : CL)
  | lnd (i : Nat)
  | blt (b : B1) (es : CL)
  | lc (own : List Nat) (tg : Tg) (it : CI) (cs : CL) (elt : CE)
  | mth (m : M1) (i : Nat) (es : CL)
  | mti (m : M1) (i j : Nat) (es : CL)
  | fz (a : CE)
  | rev (a : CE)
  | jn (x : Str) (a : CE)
  | pm (m : PM) (a : CE) (es : CL)
  | bor (is : List Nat) (a : CE)
  | fst (es : CL)
inductive CO where
  | none | some (e : CE)
inductive CL where
  | nil | cons (e : CE) (es : CL)
inductive CI where
  | seq (e : CE) | rng1 (a : CE) | rng2 (a b : CE) | zip (a b : CE) | enm (a : CE) | zip3 (a b c : CE)
end
mutual
def Tg.slots : Tg → List Nat
  | .nm i => [i]
  | .tup ts => ts.slots
def TgL.slots : TgL → List Nat
  | .nil => []
  | .cons t ts => t.slots ++ ts.slots
end
/-! ### operators by values -/
def mulOk (i j : Int) : Bool := decide (i.natAbs < 18446744073709551616) || decide (j.natAbs < 18446744073709551616) || decide (i.natAbs.log2 + j.natAbs.log2 ≤ 100000000)
def szOk (n : Nat) : Bool := decide (n ≤ sizeLine)
def D.shp (d : D) : Bool := SeqAt.shaped d.strip
def eqD : D → D → Option Bool
  | .int i, .int j => some (decide (i = j))
  | .bl i, .bl j => some (decide (i = j))
  | .str i, .str j => some (decide (i = j))
  | .non, .non => some true
  | .non, .int _ => some false
  | .non, .bl _ => some false
  | .non, .str _ => some false
  | .int _, .non => some false
  | .bl _, .non => some false
  | .str _, .non => some false
  | .int _, .str _ => some false
  | .str _, .int _ => some false
  | .bl _, .str _ => some false
  | .str _, .bl _ => some false
  | d, e => if d.shp && e.shp then some (PyData.eqv d.strip e.strip) else none
/-- a flat value -/
def D.flat : D → Bool
  | .int _ => true
  | .str _ => true
  | .bl _ => true
  | .non => true
  | _ => false
def D.toV : D → V
  | .int i => .int i
  | .str x => .str x
  | .bl b => .bl b
  | _ => .non
def inD (d : D) (ds : List D) : Option Bool :=
  if d.flat && ds.all D.flat then some (inV d.toV (ds.map D.toV)) else none
/-- in a list: flat ones, or data of any depth -/
def inL (d : D) (ds : List D) : Option Bool := match inD d ds with
  | some b => some b
  | none => if d.shp && (D.lst .frz ds).shp then some ((D.stripL ds).any fun z => PyData.eqv z d.strip) else none
def strIn (i j : Str) : Bool := !(Builtin.Str.occurrences j i 0 j.length 1).isEmpty
def O2.ev : O2 → D → D → Option D
  | .add, .int i, .int j => some (.int (i + j))
  | .add, .str i, .str j => if szOk (i.length + j.length) then some (.str (i ++ j)) else none
  | .add, .lst _ xs, .lst _ ys => if D.retL xs && D.retL ys && szOk (xs.length + ys.length) then some (.lst .own (xs ++ ys)) else none
  | .add, .tup xs, .tup ys => if D.retL xs && D.retL ys && szOk (xs.length + ys.length) then some (.tup (xs ++ ys)) else none
  | .sub, .int i, .int j => some (.int (i - j))
  | .mul, .int i, .int j => if mulOk i j then some (.int (i * j)) else none
  | .mul, .lst .own xs, .int k => if D.fzL xs && decide (-(2 ^ 63) ≤ k) && decide (k < 2 ^ 63) && szOk (xs.length * k.toNat) then some (.lst .own (List.replicate k.toNat xs).flatten) else none
  | .fdiv, .int i, .int j => if decide (0 < j) && decide (j.natAbs.log2 < 9000) then some (.int (i / j)) else none
  | .mod, .int i, .int j => if decide (0 < j) then some (.int (i % j)) else none
  | .pow, .int i, .int j => if decide (0 ≤ j) && decide (j ≤ 1000000) && decide (i.natAbs < 2 ^ 64) then some (.int (i ^ j.toNat)) else none
  | .eq, d, e => (eqD d e).map .bl
  | .ne, d, e => (eqD d e).map fun b => .bl (!b)
  | .lt, .int i, .int j => some (.bl (decide (i < j)))
  | .le, .int i, .int j => some (.bl (decide (i ≤ j)))
  | .gt, .int i, .int j => some (.bl (decide (j < i)))
  | .ge, .int i, .int j => some (.bl (decide (j ≤ i)))
  | .isin, .str i, .str j => some (.bl (strIn i j))
  | .isin, d, .lst _ ys => (inL d ys).map .bl
  | .isin, d, .tup ys => (inD d ys).map .bl
  | .notin, .str i, .str j => some (.bl (!strIn i j))
  | .notin, d, .lst _ ys => (inL d ys).map fun b => .bl (!b)
  | .notin, d, .tup ys => (inD d ys).map fun b => .bl (!b)
  | .is, .bl i, .bl j => some (.bl (decide (i = j)))
  | .isnot, .bl i, .bl j => some (.bl (!decide (i = j)))
  | .is, .non, .non => some (.bl true)
  | .is, .int _, .non => some (.bl false)
  | .is, .str _, .non => some (.bl false)
  | .is, .bl _, .non => some (.bl false)
  | .is, .lst _ _, .non => some (.bl false)
  | .is, .tup _, .non => some (.bl false)
  | .isnot, .non, .non => some (.bl false)
  | .isnot, .int _, .non => some (.bl true)
  | .isnot, .str _, .non => some (.bl true)
  | .isnot, .bl _, .non => some (.bl true)
  | .isnot, .lst _ _, .non => some (.bl true)
  | .isnot, .tup _, .non => some (.bl true)
  | _, _, _ => none
def truth : D → Option Bool
  | .non => some false
  | .bl b => some b
  | .int i => some (i != 0)
  | .str x => if szOk x.length then some ((x.length : Int) != 0) else none
  | .tup ds => some (!ds.isEmpty)
  | .lst _ ds => some (!ds.isEmpty)
def O1.ev : O1 → D → Option D
  | .neg, .int i => some (.int (-i))
  | .not, d => (truth d).map fun b => .bl (!b)
  | _, _ => none
/-- an item, by its place -/
def ixD (x i : D) : Option D :=
  match x, i with
  | .lst _ ds, .int i => atI ds i
  | .tup ds, .int i => atI ds i
  | .str z, .int i => if szOk z.length then (atI z.cps.toList i).map fun c => .str ⟨#[c]⟩ else none
  | _, _ => none
def cutD (ds : List D) (lo hi : Option Int) : List D := (ds.drop (HT.sIx ds.length 0 lo)).take (HT.sIx ds.length ds.length hi - HT.sIx ds.length 0 lo)
def slD (x : D) (lo hi : Option Int) : Option D :=
  match x with
  | .lst _ ds => if D.retL ds then some (.lst .own (cutD ds lo hi)) else none
  | .tup ds => if D.retL ds then some (.tup (cutD ds lo hi)) else none
  | .str z => if szOk z.length then some (.str (cutS z lo hi)) else none
  | _ => none
def allB : List D → Option (List Bool)
  | [] => some []
  | .bl b :: ds => (allB ds).map (b :: ·)
  | _ :: _ => none
def allI : List D → Option (List Int)
  | [] => some []
  | .int b :: ds => (allI ds).map (b :: ·)
  | _ :: _ => none
def Ty.ev : Ty → D → Bool
  | .int, .int _ => true
  | .int, .bl _ => true
  | .bool, .bl _ => true
  | .str, .str _ => true
  | .list, .lst _ _ => true
  | .tuple, .tup _ => true
  | _, _ => false
def allS : List D → Option (List Str)
  | [] => some []
  | .str b :: ds => (allS ds).map (b :: ·)
  | _ :: _ => none
def minI : List Int → Int
  | [] => 0
  | [a] => a
  | a :: b :: r => min a (minI (b :: r))
def maxI : List Int → Int
  | [] => 0
  | [a] => a
  | a :: b :: r => max a (maxI (b :: r))
/-- what repr can show -/
def repOk (d : PyData) : Bool := decide (d.depth ≤ 60) && d.showable && !d.hasDict && decide (d.shown.length ≤ sizeLine)
def revD : D → Option D
  | .lst _ ds => if D.retL ds then some (.lst .own ds.reverse) else none
  | _ => none
def joinD (x : Str) : D → Option D
  | .lst _ ds => (allS ds).bind fun ys => if decide ((ys.map (·.length)).sum + ys.length * x.length ≤ 16777216) then some (.str (Txt.join x ys)) else none
  | _ => none
def PM.onD : PM → D → Bool
  | .index, .lst _ _ => true
  | .count, .lst _ _ => true
  | .split, .str _ => true
  | .startswith, .str _ => true
  | .removeprefix, .str _ => true
  | _, _ => false
def PM.ev : PM → D → List D → Option D
  | .index, .lst _ ds, [d] => if d.flat && ds.all D.flat then (ds.findIdx? fun z => eqV z.toV d.toV).map fun j => .int (j : Nat) else none
  | .count, .lst _ ds, [.int k] => (allI ds).map fun ns => .int (ns.count k : Nat)
  | .split, .str a, [.str b] => if !(b.length == 0) && decide (a.length + 2 ≤ sizeLine) then some (.lst .own ((Txt.split a b).map D.str)) else none
  | .startswith, .str a, [.str b] => some (.bl (Txt.startswith a b))
  | .removeprefix, .str a, [.str b] => if szOk a.length then some (.str (Txt.removeprefix a b)) else none
  | _, _, _ => none
def B1.ev : B1 → List D → Option D
  | .len, [.lst _ ds] => some (.int ds.length)
  | .len, [.tup ds] => some (.int ds.length)
  | .len, [.str z] => if szOk z.length then some (.int z.length) else none
  | .int, [.int i] => some (.int i)
  | .int, [.bl b] => some (.int (if b then 1 else 0))
  | .abs, [.int i] => some (.int (if i < 0 then -i else i))
  | .all, [.lst _ ds] => (allB ds).map fun bs => .bl (bs.all id)
  | .any, [.lst _ ds] => (allB ds).map fun bs => .bl (bs.any id)
  | .list, [.lst _ ds] => if D.retL ds then some (.lst .own ds) else none
  | .list, [.tup ds] => if D.retL ds then some (.lst .own ds) else none
  | .tuple, [.lst _ ds] => if D.retL ds then some (.tup ds) else none
  | .tuple, [.tup ds] => some (.tup ds)
  | .str, [.int i] => if decide (i.natAbs.log2 < 1920) then some (.str (toString i)) else none
  | .sum, [.lst _ ds] => (allI ds).map fun ns => .int ns.sum
  | .repr, [.lst o ds] => if repOk (D.lst o ds).strip then some (.str (D.lst o ds).strip.shown) else none
  | .repr, [.tup ds] => if repOk (D.tup ds).strip then some (.str (D.tup ds).strip.shown) else none
  | .min, [.int i, .int j] => some (.int (if j < i then j else i))
  | .max, [.int i, .int j] => some (.int (if j > i then j else i))
  | .min, [.lst _ ds] => (allI ds).bind fun ns => if ns.isEmpty then none else some (.int (minI ns))
  | .max, [.lst _ ds] => (allI ds).bind fun ns => if ns.isEmpty then none else some (.int (maxI ns))
  | .gcd, [.int i, .int j] => some (.int ((Nat.gcd i.natAbs j.natAbs : Nat) : Int))
  | .isi t, [d] => some (.bl (t.ev d))
  | _, _ => none
/-- what stands for a value in an f-string -/
def fmtD : D → Option Str
  | .str y => if szOk y.length then some y else none
  | .int i => if decide (i.natAbs.log2 < 1920) then some (toString i) else none
  | _ => none
/-- a method of an owned list: what it hands back, the list behind it -/
def M1.ev : M1 → List D → List D → Option (D × List D)
  | .append, ds, [d] => if d.ret && decide (ds.length < sizeLine) then some (.non, ds ++ [d]) else none
  | .extend, ds, [.lst .own es] => if D.retL es && szOk (ds.length + es.length) then some (.non, ds ++ es) else none
  | .pop, ds, [] => (ds[ds.length - 1]?).map fun d => (d, ds.eraseIdx (ds.length - 1))
  | .popAt, ds, [.int i] => if decide (0 ≤ i) && decide (i < 2 ^ 63) then (ds[i.toNat]?).map fun d => (d, ds.eraseIdx i.toNat) else none
  | .clear, _, [] => some (.non, [])
  | .insert, ds, [.int i, d] => if d.ret && decide (ds.length < sizeLine) && decide (0 ≤ i) && decide (i < 2 ^ 63) then some (.non, ds.take i.toNat ++ [d] ++ ds.drop i.toNat) else none
  | _, _, _ => none
/-! ### targets -/
mutual
def Tg.st (kp : List Nat) : Tg → D → Ev → Option Ev
  | .nm i, d, ρ => if d.ret && !kp.contains i && decide (i < ρ.length) then some (ρ.set i (some d)) else none
  | .tup ts, .tup ds, ρ => TgL.st kp ts ds ρ
  | .tup _, _, _ => none
def TgL.st (kp : List Nat) : TgL → List D → Ev → Option Ev
  | .nil, [], ρ => some ρ
  | .cons t ts, d :: ds, ρ => match t.st kp d ρ with
    | some ρ' => ts.st kp ds ρ'
    | none => none
  | _, _, _ => none
end
def wipeD : Ev → List Nat → Ev
  | ρ, [] => ρ
  | ρ, i :: is => (wipeD ρ is).set i none
/-- the slots of is as they were in ρ -/
def backD (ρ : Ev) : List Nat → Ev → Ev
  | [], ρ' => ρ'
  | i :: is, ρ' => (backD ρ is ρ').set i (ρ[i]?.join)
def lcLoop (own : List Nat) (st : D → Ev → Option Ev) (tt : Ev → R) (el : Ev → R) : List D → List D → Ev → R
  | [], acc, ρ => .ok (.lst .own acc) ρ
  | x :: xs, acc, ρ => match st x (wipeD ρ own) with
    | none => .stuck
    | some ρ1 => match tt ρ1 with
      | .ok (.bl true) ρ2 => (match el ρ2 with
        | .ok d ρ3 => if d.ret && decide (acc.length < sizeLine) then lcLoop own st tt el xs (acc ++ [d]) ρ3 else .stuck
        | _ => .stuck)
      | .ok (.bl false) ρ2 => lcLoop own st tt el xs acc ρ2
      | _ => .stuck
/-- the callees, where a callee keeps its parameters, the module's constants, the kept parameters of the def itself -/
structure Gs where
  fn : Nat → List D → RF
  fk : Nat → List Nat
  gl : Nat → Option D
  kp : List Nat
def R.bind (r : R) (f : D → Ev → R) : R := match r with
  | .ok d ρ => f d ρ
  | .exc c fs ρ => .exc c fs ρ
  | .stuck => .stuck
def R.thenL (r : R) (f : D → Ev → RL) : RL := match r with
  | .ok d ρ => f d ρ
  | .exc c fs ρ => .exc c fs ρ
  | .stuck => .stuck
def RL.bind (r : RL) (f : List D → Ev → R) : R := match r with
  | .ok d ρ => f d ρ
  | .exc c fs ρ => .exc c fs ρ
  | .stuck => .stuck
def RL.thenL (r : RL) (f : List D → Ev → RL) : RL := match r with
  | .ok d ρ => f d ρ
  | .exc c fs ρ => .exc c fs ρ
  | .stuck => .stuck
def R.of (o : Option D) (ρ : Ev) : R := match o with
  | some d => .ok d ρ
  | none => .stuck
/-- as a test -/
def R.tr (t : Bool) (r : R) : R := if t then r.bind fun d ρ => R.of ((truth d).map .bl) ρ else r
def D.asInt : D → Option Int
  | .int i => some i
  | _ => none
mutual
/-- nothing is lent in it: what stands in owned lists is left as it is -/
def CE.quiet : CE → Bool
  | .lit _ => true
  | .var .mov _ => false
  | .var _ _ => true
  | .glb _ => true
  | .op2 _ a b => a.quiet && b.quiet
  | .op1 _ a => a.quiet
  | .con es => es.quiet
  | .dis es => es.quiet
  | .ite c a b => c.quiet && a.quiet && b.quiet
  | .chn _ _ a b c => a.quiet && b.quiet && c.quiet
  | .idx a b => a.quiet && b.quiet
  | .sl a lo hi => a.quiet && lo.quiet && hi.quiet
  | .tup es => es.quiet
  | .lst es => es.quiet
  | .cal _ es => es.quiet
  | .lnd _ => false
  | .blt _ es => es.quiet
  | .lc _ _ it cs e => it.quiet && cs.quiet && e.quiet
  | .mth _ _ _ => false
  | .mti _ _ _ _ => false
  | .fz a => a.quiet
  | .rev a => a.quiet
  | .jn _ a => a.quiet
  | .pm _ a es => a.quiet && es.quiet
  | .bor _ a => a.quiet
  | .fst es => es.quiet
def CO.quiet : CO → Bool
  | .none => true
  | .some e => e.quiet
def CL.quiet : CL → Bool
  | .nil => true
  | .cons e es => e.quiet && es.quiet
def CI.quiet : CI → Bool
  | .seq e => e.quiet
  | .rng1 a => a.quiet
  | .rng2 a b => a.quiet && b.quiet
  | .zip a b => a.quiet && b.quiet
  | .enm a => a.quiet
  | .zip3 a b c => a.quiet && b.quiet && c.quiet
end
mutual
/-- the names stand as they are -/
def CE.still : CE → Bool
  | .lit _ => true
  | .var .brw _ => true
  | .var _ _ => false
  | .glb _ => true
  | .op2 _ a b => a.still && b.still
  | .op1 _ a => a.still
  | .con es => es.still
  | .dis es => es.still
  | .ite c a b => c.still && a.still && b.still
  | .chn _ _ a b c => a.still && b.still && c.still
  | .idx a b => a.still && b.still
  | .sl a lo hi => a.still && lo.still && hi.still
  | .tup es => es.still
  | .lst es => es.still
  | .cal _ es => es.still
  | .lnd _ => false
  | .blt _ es => es.still
  | .lc own tg it cs e => tg.slots.all own.contains && it.still && cs.still && e.still
  | .mth _ _ _ => false
  | .mti _ _ _ _ => false
  | .fz a => a.still
  | .rev a => a.still
  | .jn _ a => a.still
  | .pm _ a es => a.still && es.still
  | .bor _ _ => false
  | .fst es => es.still
def CO.still : CO → Bool
  | .none => true
  | .some e => e.still
def CL.still : CL → Bool
  | .nil => true
  | .cons (.lnd _) _ => false
  | .cons e es => e.still && es.still
def CI.still : CI → Bool
  | .seq e => e.still
  | .rng1 a => a.still
  | .rng2 a b => a.still && b.still
  | .zip a b => a.still && b.still
  | .enm a => a.still
  | .zip3 a b c => a.still && b.still && c.still
end
mutual
/-- no frozen and no borrowed list in it -/
def D.noF : D → Bool
  | .tup ds => D.noFL ds
  | .lst .own ds => D.noFL ds
  | .lst _ _ => false
  | _ => true
def D.noFL : List D → Bool
  | [] => true
  | d :: ds => d.noF && D.noFL ds
end
/-- frozen, or an owned list of frozen things -/
def shalD : Option D → Bool
  | none => true
  | some (.lst .own ds) => D.fzL ds
  | some d => d.fz
def frzS : List Nat → Ev → Ev
  | [], ρ => ρ
  | i :: is, ρ => match ρ[i]? with
    | some (some d) => frzS is (ρ.set i (some d.freeze))
    | _ => frzS is ρ
/-- the slot that is lent at a place of an argument list -/
def CL.lndAt : CL → Nat → Option Nat
  | .nil, _ => none
  | .cons (.lnd i) _, 0 => some i
  | .cons _ _, 0 => none
  | .cons _ es, p + 1 => es.lndAt p
/-- the lent slots are given back -/
def giveBack (es : CL) : List Nat → List D → Ev → Option Ev
  | [], [], ρ => some ρ
  | p :: ps, d :: ds, ρ => match es.lndAt p with
    | some i => giveBack es ps ds (ρ.set i (some d))
    | none => giveBack es ps ds ρ
  | _, _, _ => none
def rangeD (i j : Int) : List D := (List.range (j - i).toNat).map fun (k : Nat) => D.int (i + k)
def enumD (ds : List D) : List D := ds.zipIdx.map fun p => D.tup [.int (p.2 : Nat), p.1]
def zip3D : List D → List D → List D → List D
  | x :: xs, y :: ys, z :: zs => .tup [x, y, z] :: zip3D xs ys zs
  | _, _, _ => []
def rngOk (i : Int) : Bool := decide (-(2 ^ 62) ≤ i) && decide (i < 2 ^ 62)
def strD (x : Str) : List D := x.cps.toList.map fun c => .str ⟨#[c]⟩
/-- what is walked, frozen -/
def lstI : D → Option (List D)
  | .lst o ds => if (D.lst o ds).ret then some (D.freezeL ds) else none
  | _ => none
def itemsD : D → Option (List D)
  | .lst o ds => lstI (.lst o ds)
  | .tup ds => if D.retL ds then some (D.freezeL ds) else none
  | .str x => some (strD x)
  | _ => none
mutual
def CE.ev (g : Gs) : CE → Bool → Ev → R
  | .lit d, t, ρ => R.tr t (R.ok d ρ)
  | .var .frz i, t, ρ => R.tr t (match ρ[i]? with
    | some (some d) => R.ok d.freeze (ρ.set i (some d.freeze))
    | _ => .stuck)
  | .var .mov i, t, ρ => R.tr t (match ρ[i]? with
    | some (some d) => if g.kp.contains i then .stuck else R.ok d (ρ.set i none)
    | _ => .stuck)
  | .var .brw i, t, ρ => R.tr t (match ρ[i]? with
    | some (some d) => R.ok d.borrow ρ
    | _ => .stuck)
  | .glb i, t, ρ => R.tr t (match g.gl i with
    | some d => R.ok d ρ
    | none => .stuck)
  | .op2 o a b, t, ρ => R.tr t ((a.ev g false ρ).bind fun x ρ1 => (b.ev g false ρ1).bind fun y ρ2 => if x.ret || b.quiet then R.of (o.ev x y) ρ2 else .stuck)
  | .op1 .not a, true, ρ => (a.ev g true ρ).bind fun x ρ1 => match x with
    | .bl b => .ok (.bl (!b)) ρ1
    | _ => .stuck
  | .op1 .not a, false, ρ => (a.ev g false ρ).bind fun x ρ1 => R.of (O1.not.ev x) ρ1
  | .op1 .neg a, t, ρ => R.tr t ((a.ev g false ρ).bind fun x ρ1 => R.of (O1.neg.ev x) ρ1)
  | .con es, t, ρ => es.evAnd g t ρ
  | .dis es, t, ρ => es.evOr g t ρ
  | .ite c a b, t, ρ => (c.ev g true ρ).bind fun x ρ1 => match x with
    | .bl k => if k then a.ev g t ρ1 else b.ev g t ρ1
    | _ => .stuck
  | .chn o o' a b c, t, ρ => R.tr t ((a.ev g false ρ).bind fun x ρ1 => (b.ev g false ρ1).bind fun y ρ2 => if x.fz && y.fz then
      (match o.ev x y with
      | some (.bl k) => if k then (c.ev g false ρ2).bind fun z ρ3 => R.of (o'.ev y z) ρ3 else .ok (.bl false) ρ2
      | _ => .stuck) else .stuck)
  | .idx a b, t, ρ => R.tr t ((a.ev g false ρ).bind fun x ρ1 => (b.ev g false ρ1).bind fun y ρ2 => if x.ret || b.quiet then R.of (ixD x y) ρ2 else .stuck)
  | .sl a lo hi, t, ρ => R.tr t ((a.ev g false ρ).bind fun x ρ1 => (lo.ev g ρ1).bind fun l ρ2 => (hi.ev g ρ2).bind fun h ρ3 =>
      if x.ret || (lo.quiet && hi.quiet) then R.of (slD x l.asInt h.asInt) ρ3 else .stuck)
  | .tup es, t, ρ => R.tr t ((es.ev g ρ).bind fun ds ρ1 => if D.retL ds && szOk ds.length then .ok (.tup ds) ρ1 else .stuck)
  | .lst es, t, ρ => R.tr t ((es.ev g ρ).bind fun ds ρ1 => if D.retL ds && szOk ds.length then .ok (.lst .own ds) ρ1 else .stuck)
  | .cal i es, t, ρ => R.tr t ((es.ev g ρ).bind fun ds ρ1 => if D.retL ds then
      (match g.fn i ds with
      | .ok d out => (match giveBack es (g.fk i) out ρ1 with
        | some ρ2 => .ok d ρ2
        | none => .stuck)
      | .exc c fs => .exc c fs ρ1
      | .stuck => .stuck) else .stuck)
  | .lnd _, _, _ => .stuck
  | .blt b es, t, ρ => R.tr t ((es.ev g ρ).bind fun ds ρ1 => if D.retL ds || es.quiet then R.of (b.ev ds) ρ1 else .stuck)
  | .lc own tg it cs e, t, ρ => R.tr t (match it.ev g ρ with
    | .ok xs ρ1 => (match lcLoop own (tg.st []) (fun ρ => cs.evIf g ρ) (fun ρ => e.ev g false ρ) xs [] ρ1 with
      | .ok d ρ2 => .ok d (backD ρ1 own ρ2)
      | _ => .stuck)
    | .exc c fs ρ => .exc c fs ρ
    | .stuck => .stuck)
  | .mth m i es, t, ρ => R.tr t (match ρ[i]? with
    | some (some (.lst .own _)) => (es.ev g ρ).bind fun ds ρ1 => (match ρ1[i]? with
      | some (some (.lst .own xs)) => if D.retL ds then (match m.ev xs ds with
        | some (d, ys) => .ok d (ρ1.set i (some (.lst .own ys)))
        | none => .stuck) else .stuck
      | _ => .stuck)
    | _ => .stuck)
  | .mti m i j es, t, ρ => R.tr t (match ρ[i]? with
    | some (some (.lst .own zs0)) => (match zs0[j]? with
      | some (.lst .own _) => if es.quiet then (es.ev g ρ).bind fun ds ρ1 => (match ρ1[i]? with
        | some (some (.lst .own zs)) => (match zs[j]? with
          | some (.lst .own xs) => if D.retL ds then (match m.ev xs ds with
            | some (d, ys) => .ok d (ρ1.set i (some (.lst .own (zs.set j (.lst .own ys)))))
            | none => .stuck) else .stuck
          | _ => .stuck)
        | _ => .stuck) else .stuck
      | _ => .stuck)
    | _ => .stuck)
  | .fz a, t, ρ => R.tr t ((a.ev g false ρ).bind fun x ρ1 => if x.ret then .ok x.freeze ρ1 else .stuck)
  | .rev a, t, ρ => R.tr t ((a.ev g false ρ).bind fun x ρ1 => R.of (revD x) ρ1)
  | .jn s a, t, ρ => R.tr t ((a.ev g false ρ).bind fun x ρ1 => R.of (joinD s x) ρ1)
  | .pm m a es, t, ρ => R.tr t ((a.ev g false ρ).bind fun x ρ1 => if m.onD x then (es.ev g ρ1).bind fun ds ρ2 => if x.ret || es.quiet then R.of (m.ev x ds) ρ2 else .stuck else .stuck)
  | .bor is a, t, ρ => if a.still && a.quiet then (match a.ev g t (frzS is ρ) with
    | .ok d _ => if d.noF then .ok d ρ else .stuck
    | _ => .stuck) else .stuck
  | .fst es, t, ρ => R.tr t (es.evFs g Str.empty ρ)
def CL.evFs (g : Gs) : CL → Str → Ev → R
  | .nil, acc, ρ => .ok (.str acc) ρ
  | .cons e es, acc, ρ => (e.ev g false ρ).bind fun d ρ1 => match fmtD d with
    | some y => if szOk (acc ++ y).length then es.evFs g (acc ++ y) ρ1 else .stuck
    | none => .stuck
def CO.ev (g : Gs) : CO → Ev → R
  | .none, ρ => .ok .non ρ
  | .some e, ρ => (e.ev g false ρ).bind fun d ρ1 => match d with
    | .int i => .ok (.int i) ρ1
    | _ => .stuck
def CL.ev (g : Gs) : CL → Ev → RL
  | .nil, ρ => .ok [] ρ
  | .cons (.lnd i) es, ρ => (match ρ[i]? with
    | some (some _) => (es.ev g ρ).thenL fun ds ρ1 => (match ρ1[i]? with
      | some (some d) => .ok (d :: ds) (ρ1.set i none)
      | _ => .stuck)
    | _ => .stuck)
  | .cons e es, ρ => (e.ev g false ρ).thenL fun d ρ1 => (es.ev g ρ1).thenL fun ds ρ2 => if d.ret || es.quiet then .ok (d :: ds) ρ2 else .stuck
def CL.evAnd (g : Gs) : CL → Bool → Ev → R
  | .nil, _, _ => .stuck
  | .cons e .nil, t, ρ => e.ev g t ρ
  | .cons e es, t, ρ => (e.ev g t ρ).bind fun d ρ1 => match d with
    | .bl k => if k then es.evAnd g t ρ1 else .ok (.bl false) ρ1
    | _ => .stuck
def CL.evOr (g : Gs) : CL → Bool → Ev → R
  | .nil, _, _ => .stuck
  | .cons e .nil, t, ρ => e.ev g t ρ
  | .cons e es, t, ρ => (e.ev g t ρ).bind fun d ρ1 => match d with
    | .bl k => if k then .ok (.bl true) ρ1 else es.evOr g t ρ1
    | _ => .stuck
/-- a comprehension's tests (none or one) -/
def CL.evIf (g : Gs) : CL → Ev → R
  | .nil, ρ => .ok (.bl true) ρ
  | .cons e .nil, ρ => e.ev g true ρ
  | .cons _ _, _ => .stuck
def CI.ev (g : Gs) : CI → Ev → RL
  | .seq e, ρ => (e.ev g false ρ).thenL fun d ρ1 => match itemsD d with
    | some ds => .ok ds ρ1
    | none => .stuck
  | .rng1 a, ρ => (a.ev g false ρ).thenL fun d ρ1 => match d with
    | .int j => if rngOk j then .ok (rangeD 0 j) ρ1 else .stuck
    | _ => .stuck
  | .rng2 a b, ρ => (a.ev g false ρ).thenL fun d ρ1 => (b.ev g false ρ1).thenL fun e ρ2 => match d, e with
    | .int i, .int j => if rngOk i && rngOk j then .ok (rangeD i j) ρ2 else .stuck
    | _, _ => .stuck
  | .zip a b, ρ => (a.ev g false ρ).thenL fun d ρ1 => (b.ev g false ρ1).thenL fun e ρ2 => match lstI d, lstI e with
    | some ds, some es => .ok (List.zipWith (fun x y => D.tup [x, y]) ds es) ρ2
    | _, _ => .stuck
  | .enm a, ρ => (a.ev g false ρ).thenL fun d ρ1 => match lstI d with
    | some ds => .ok (enumD ds) ρ1
    | none => .stuck
  | .zip3 a b c, ρ => (a.ev g false ρ).thenL fun d ρ1 => (b.ev g false ρ1).thenL fun e ρ2 => (c.ev g false ρ2).thenL fun f ρ3 => match lstI d, lstI e, lstI f with
    | some ds, some es, some fs => .ok (zip3D ds es fs) ρ3
    | _, _, _ => .stuck
end
/-! ### statements -/
mutual
inductive CS where
  | asg (t : Tg) (e : CE)
  | set (i : Nat) (ix e : CE)
  | par (i j : Nat) (a b : CE)
  | aug (i : Nat) (neg : Bool) (e : CE)
  | exp (e : CE)
  | ret (e : CE)
  | retN
  | ifs (c : CE) (a b : CSs)
  | fors (t : Tg) (it : CI) (b : CSs)
  | whl (n : Nat) (c : CE) (b : CSs)
  | brk
  | cnt
  | pass
  | wip (is : List Nat)
  | par3 (i j k : Nat) (a b c : CE)
  | stk
inductive CSs where
  | nil | cons (s : CS) (r : CSs) | dret (j : Nat) (ks : List Str) (es : CL) (k : CE)
end
inductive RS where
  | nx (ρ : Ev) | ret (d : D) (ρ : Ev) | brk (ρ : Ev) | cnt (ρ : Ev) | exc (c : String) (fs : List D) (ρ : Ev) | stuck
def R.thenS (r : R) (f : D → Ev → RS) : RS := match r with
  | .ok d ρ => f d ρ
  | .exc c fs ρ => .exc c fs ρ
  | .stuck => .stuck
def RL.thenS (r : RL) (f : List D → Ev → RS) : RS := match r with
  | .ok d ρ => f d ρ
  | .exc c fs ρ => .exc c fs ρ
  | .stuck => .stuck
def RS.then (r : RS) (f : Ev → RS) : RS := match r with
  | .nx ρ => f ρ
  | .ret d ρ => .ret d ρ
  | .brk ρ => .brk ρ
  | .cnt ρ => .cnt ρ
  | .exc c fs ρ => .exc c fs ρ
  | .stuck => .stuck
/-- behind a turn of a loop -/
def RS.turn (r : RS) (f : Ev → RS) : RS := match r with
  | .nx ρ => f ρ
  | .cnt ρ => f ρ
  | .brk ρ => .nx ρ
  | .ret d ρ => .ret d ρ
  | .exc c fs ρ => .exc c fs ρ
  | .stuck => .stuck
def forLoop (st : D → Ev → Option Ev) (body : Ev → RS) : List D → Ev → RS
  | [], ρ => .nx ρ
  | x :: xs, ρ => match st x ρ with
    | none => .stuck
    | some ρ1 => (body ρ1).turn (forLoop st body xs)
def whLoop (c : Ev → R) (body : Ev → RS) : Nat → Ev → RS
  | 0, _ => .stuck
  | n + 1, ρ => (c ρ).thenS fun d ρ1 => match d with
    | .bl k => if k then (body ρ1).turn (whLoop c body n) else .nx ρ1
    | _ => .stuck
def setAt (ρ : Ev) (i : Nat) (k d : D) : RS := match ρ[i]?, k with
  | some (some (.lst .own xs)), .int k => (match ixN xs.length k with
    | some j => if d.ret then .nx (ρ.set i (some (.lst .own (xs.set j d)))) else .stuck
    | none => .stuck)
  | _, _ => .stuck
def isOwn (ρ : Ev) (i : Nat) : Bool := match ρ[i]? with
  | some (some (.lst .own _)) => true
  | _ => false
/-- the values of a dict display: flat ones -/
def CL.evFlat (g : Gs) : CL → Ev → Option (List D × Ev)
  | .nil, ρ => some ([], ρ)
  | .cons e es, ρ => match e.ev g false ρ with
    | .ok d ρ1 => if d.flat then (match es.evFlat g ρ1 with
      | some r => some (d :: r.1, r.2)
      | none => none) else none
    | _ => none
def lk (z : Str) : List Str → List D → Option D
  | k :: ks, d :: ds => if k = z then some d else lk z ks ds
  | _, _ => none
mutual
def CS.ev (g : Gs) : CS → Ev → RS
  | .asg t e, ρ => (e.ev g false ρ).thenS fun d ρ1 => match t.st g.kp d ρ1 with
    | some ρ2 => .nx ρ2
    | none => .stuck
  | .set i ix e, ρ => (e.ev g false ρ).thenS fun d ρ1 => if isOwn ρ1 i && d.ret then (ix.ev g false ρ1).thenS fun k ρ2 => setAt ρ2 i k d else .stuck
  | .par i j a b, ρ => (a.ev g false ρ).thenS fun d ρ1 => (b.ev g false ρ1).thenS fun e ρ2 => if d.ret && e.ret && !g.kp.contains i && !g.kp.contains j && decide (i < ρ2.length) && decide (j < ρ2.length) then .nx ((ρ2.set i (some d)).set j (some e)) else .stuck
  | .aug i neg e, ρ => match ρ[i]? with
    | some (some (.int x)) => (e.ev g false ρ).thenS fun d ρ1 => (match d with
      | .int y => if g.kp.contains i then .stuck else .nx (ρ1.set i (some (.int (if neg then x - y else x + y))))
      | _ => .stuck)
    | _ => .stuck
  | .exp e, ρ => (e.ev g false ρ).thenS fun _ ρ1 => .nx ρ1
  | .ret e, ρ => (e.ev g false ρ).thenS fun d ρ1 => if d.ret then .ret d ρ1 else .stuck
  | .retN, ρ => .ret .non ρ
  | .ifs c a b, ρ => (c.ev g true ρ).thenS fun d ρ1 => match d with
    | .bl k => if k then a.ev g ρ1 else b.ev g ρ1
    | _ => .stuck
  | .fors t it b, ρ => (it.ev g ρ).thenS fun xs ρ1 => forLoop (t.st g.kp) (fun ρ => b.ev g ρ) xs ρ1
  | .whl n c b, ρ => whLoop (fun ρ => c.ev g true ρ) (fun ρ => b.ev g ρ) n ρ
  | .brk, ρ => .brk ρ
  | .cnt, ρ => .cnt ρ
  | .pass, ρ => .nx ρ
  | .wip is, ρ => .nx (wipeD ρ is)
  | .par3 i j k a b c, ρ => (a.ev g false ρ).thenS fun d ρ1 => (b.ev g false ρ1).thenS fun e ρ2 => (c.ev g false ρ2).thenS fun f ρ3 => if d.fz && e.fz && f.fz && !g.kp.contains i && !g.kp.contains j && !g.kp.contains k && decide (i < ρ3.length) && decide (j < ρ3.length) && decide (k < ρ3.length) then .nx (((ρ3.set i (some d)).set j (some e)).set k (some f)) else .stuck
  | .stk, _ => .stuck
def CSs.ev (g : Gs) : CSs → Ev → RS
  | .nil, ρ => .nx ρ
  | .dret j ks es k, ρ => (match es.evFlat g ρ with
    | some r => if !ks.isEmpty && decide (ks.length ≤ 15) && decide (ks.length = r.1.length) && decide ks.Nodup && !g.kp.contains j && decide (j < r.2.length) then (match k.ev g false (r.2.set j none) with
      | .ok (.str z) ρ2 => (match lk z ks r.1 with
        | some d => .ret d ρ2
        | none => .stuck)
      | _ => .stuck) else .stuck
    | none => .stuck)
  | .cons s r, ρ => (s.ev g ρ).then fun ρ1 => r.ev g ρ1
end
/-- a def: how many parameters, how many names, its body -/
structure CD where
  np : Nat
  nn : Nat
  body : CSs
def outs (kp : List Nat) (ρ : Ev) : Option (List D) := kp.mapM fun j => (ρ[j]?).join
def CD.run (c : CD) (g : Gs) (ds : List D) : RF :=
  if ds.length = c.np then
    match c.body.ev g (ds.map some ++ List.replicate (c.nn - c.np) none) with
    | .ret d ρ => (match outs g.kp ρ with
      | some out => .ok d out
      | none => .stuck)
    | .nx ρ => (match outs g.kp ρ with
      | some out => .ok .non out
      | none => .stuck)
    | .exc c fs _ => .exc c fs
    | _ => .stuck
  else .stuck
end PD
set_option Elab.async false
set_option linter.all false
set_option maxRecDepth 100000
set_option maxHeartbeats 4000000
/-! PdC: states, what follows; operators by values. -/
namespace PD
open PySem L2
abbrev Ws := Addr → Option Nat
def Own (w : Ws) : AS := fun a => w a ≠ none
/-- the frame's names stand for data -/
structure S (K : PySem.W.Frag) (Z : AS) (w : Ws) (σ : St) (ρ : Ev) (H : Hp) : Prop where
  len : σ.length = ρ.length
  rep : ∀ i d, ρ[i]? = some (some d) → d.ret = true ∧ ∃ v, σ[i]? = some (some v) ∧ Rep K H Z (fun a => w a = some i) v d
  zok : ∀ a, Z a → ∃ xs, H a = some (.lst xs)
  wok : ∀ a, w a ≠ none → (∃ xs, H a = some (.lst xs)) ∧ ¬ Z a
/-- what becomes of the state: A the values at hand that are given away, q: the owned lists are left as they are -/
structure Nx (q : Bool) (A : AS) (H : Hp) (Z : AS) (w : Ws) (H' : Hp) (Z' : AS) (w' : Ws) : Prop where
  keep : ∀ a o, H a = some o → ¬ A a → (q = true ∨ w a = none) → H' a = some o
  zin : ∀ a, Z a → Z' a
  znew : ∀ a, Z' a → Z a ∨ w a ≠ none ∨ H a = none ∨ A a
  fresh : ∀ a, w' a ≠ none → w a ≠ none ∨ H a = none ∨ A a
/-- what a value at hand owns -/
structure Tm (q : Bool) (A : AS) (H : Hp) (w : Ws) (H' : Hp) (Z' : AS) (w' : Ws) (O : AS) : Prop where
  free : ∀ a, O a → w' a = none
  nz : ∀ a, O a → ¬ Z' a
  lst : ∀ a, O a → ∃ xs, H' a = some (.lst xs)
  new : ∀ a, O a → (q = false ∧ w a ≠ none) ∨ H a = none ∨ A a
/-- a value at hand, ahead -/
structure Tn (H : Hp) (Z : AS) (w : Ws) (O : AS) : Prop where
  free : ∀ a, O a → w a = none
  nz : ∀ a, O a → ¬ Z a
  lst : ∀ a, O a → ∃ xs, H a = some (.lst xs)
/-- nothing -/
def A0 : AS := fun _ => False
section
variable {K : PySem.W.Frag} {H H' H1 H2 : Hp} {Z Z' Z1 Z2 : AS} {w w' w1 w2 : Ws} {O O' A A2 : AS} {σ : St} {ρ : Ev} {q q1 q2 : Bool}
theorem Tm.tn (t : Tm q A H w H' Z' w' O) : Tn H' Z' w' O := ⟨t.free, t.nz, t.lst⟩
theorem Tn.zero : Tn H Z w A0 := ⟨fun _ h => h.elim, fun _ h => h.elim, fun _ h => h.elim⟩
theorem Tn.ne (t : Tn H Z w O) : ∀ a, O a → H a ≠ none := fun a h => by
  obtain ⟨xs, e⟩ := t.lst a h
  rw [e]; exact fun z => nomatch z
theorem Tn.or (t : Tn H Z w O) (u : Tn H Z w O') : Tn H Z w (fun a => O a ∨ O' a) := ⟨fun a h => h.elim (t.free a) (u.free a), fun a h => h.elim (t.nz a) (u.nz a), fun a h => h.elim (t.lst a) (u.lst a)⟩
theorem Tn.sub (t : Tn H Z w O) (h : ∀ a, O' a → O a) : Tn H Z w O' := ⟨fun a x => t.free a (h a x), fun a x => t.nz a (h a x), fun a x => t.lst a (h a x)⟩
theorem Nx.refl : Nx q A H Z w H Z w := ⟨fun _ _ h _ _ => h, fun _ h => h, fun _ h => .inl h, fun _ h => .inl h⟩
theorem Nx.weak (n : Nx true A H Z w H' Z' w') : Nx q A H Z w H' Z' w' := ⟨fun a o h ha _ => n.keep a o h ha (.inl rfl), n.zin, n.znew, n.fresh⟩
theorem Nx.more (n : Nx q A H Z w H' Z' w') (h : ∀ a, A a → A2 a) : Nx q A2 H Z w H' Z' w' :=
  ⟨fun a o e ha => n.keep a o e fun z => ha (h a z), n.zin, fun a z => (n.znew a z).imp id fun z => z.imp id fun z => z.imp id (h a), fun a z => (n.fresh a z).imp id fun z => z.imp id (h a)⟩
theorem Tm.more (n : Tm q A H w H' Z' w' O) (h : ∀ a, A a → A2 a) : Tm q A2 H w H' Z' w' O := ⟨n.free, n.nz, n.lst, fun a z => (n.new a z).imp id fun z => z.imp id (h a)⟩
theorem Tm.weak (n : Tm true A H w H' Z' w' O) : Tm q A H w H' Z' w' O := ⟨n.free, n.nz, n.lst, fun a z => (n.new a z).elim (fun e => nomatch e.1) .inr⟩
theorem Nx.old (n : Nx q A H Z w H1 Z1 w1) {a : Addr} (h : H1 a = none) : w a ≠ none ∨ H a = none ∨ A a := by
  cases e : H a with
  | none => exact .inr (.inl rfl)
  | some o =>
    by_cases ha : A a
    · exact .inr (.inr ha)
    · refine .inl fun z => ?_
      rw [n.keep a o e ha (.inr z)] at h
      cases h
theorem Nx.old1 (n : Nx true A H Z w H1 Z1 w1) {a : Addr} (h : H1 a = none) : H a = none ∨ A a := by
  cases e : H a with
  | none => exact .inl rfl
  | some o =>
    by_cases ha : A a
    · exact .inr ha
    · rw [n.keep a o e ha (.inl rfl)] at h
      cases h
/-- one step, then another to which values at hand are given -/
theorem Nx.trans (a : Nx q1 A H Z w H1 Z1 w1) (b : Nx q2 A2 H1 Z1 w1 H2 Z2 w2) (hA : ∀ a, A2 a → (q1 = false ∧ w a ≠ none) ∨ H a = none ∨ A a) : Nx (q1 && q2) A H Z w H2 Z2 w2 := by
  have up : ∀ {x}, w x ≠ none ∨ H x = none ∨ A x → w x ≠ none ∨ H x = none ∨ A x := id
  have hA' : ∀ x, A2 x → w x ≠ none ∨ H x = none ∨ A x := fun x h => (hA x h).imp And.right id
  refine ⟨fun x o h ha hq => ?_, fun x h => b.zin x (a.zin x h), fun x h => ?_, fun x h => ?_⟩
  · have h1 : H1 x = some o := a.keep x o h ha (by
      rcases hq with z | z
      · simp only [Bool.and_eq_true] at z; exact .inl z.1
      · exact .inr z)
    refine b.keep x o h1 (fun z => ?_) ?_
    · rcases hA x z with y | y | y
      · rcases hq with z | z
        · simp only [Bool.and_eq_true] at z; rw [z.1] at y; exact nomatch y.1
        · exact y.2 z
      · rw [y] at h; cases h
      · exact ha y
    · rcases hq with z | z
      · simp only [Bool.and_eq_true] at z; exact .inl z.2
      · by_cases e : w1 x = none
        · exact .inr e
        · rcases a.fresh x e with y | y | y
          · exact absurd z y
          · rw [y] at h; cases h
          · exact absurd y ha
  · rcases b.znew x h with y | y | y | y
    · exact a.znew x y
    · exact .inr (a.fresh x y)
    · exact .inr (a.old y)
    · exact .inr (hA' x y)
  · rcases b.fresh x h with y | y | y
    · exact a.fresh x y
    · exact a.old y
    · exact hA' x y
theorem Nx.tm (n : Nx q1 A H Z w H1 Z1 w1) (t : Tm q2 A2 H1 w1 H2 Z2 w2 O) (hA : ∀ a, A2 a → (q1 = false ∧ w a ≠ none) ∨ H a = none ∨ A a) : Tm (q1 && q2) A H w H2 Z2 w2 O := ⟨t.free, t.nz, t.lst, fun a h => by
  have fin : (w a ≠ none ∨ H a = none ∨ A a) → ((q1 && q2) = false) → ((q1 && q2) = false ∧ w a ≠ none) ∨ H a = none ∨ A a := fun z e => z.imp (fun y => ⟨e, y⟩) id
  rcases t.new a h with y | y | y
  · exact fin (n.fresh a y.2) (by rw [y.1, Bool.and_false])
  · cases q1 with
    | true => exact .inr (n.old1 y)
    | false => exact fin (n.old y) rfl
  · rcases hA a y with z | z
    · exact .inl ⟨by rw [z.1, Bool.false_and], z.2⟩
    · exact .inr z⟩
/-- a value at hand stays over a step to which it is not given -/
theorem Tn.go (t : Tn H Z w O) (n : Nx q A H Z w H' Z' w') (hA : ∀ a, O a → ¬ A a) : Tn H' Z' w' O := by
  refine ⟨fun a h => ?_, fun a h z => ?_, fun a h => ?_⟩
  · cases e : w' a with
    | none => rfl
    | some i =>
      rcases n.fresh a (by rw [e]; exact fun x => nomatch x) with y | y | y
      · exact absurd (t.free a h) y
      · exact absurd y (t.ne a h)
      · exact absurd y (hA a h)
  · rcases n.znew a z with y | y | y | y
    · exact t.nz a h y
    · exact y (t.free a h)
    · exact t.ne a h y
    · exact hA a h y
  · obtain ⟨xs, e⟩ := t.lst a h
    exact ⟨xs, n.keep a _ e (hA a h) (.inr (t.free a h))⟩
theorem Tm.dis (t : Tm q A0 H w H' Z' w' O) (u : Tn H Z w O') : ∀ a, O' a → ¬ O a := fun a h z => by
  rcases t.new a z with y | y | y
  · exact y.2 (u.free a h)
  · exact u.ne a h y
  · exact y
theorem Nx.ext (n : Nx q A0 H Z w H' Z' w') : Ext H Z (Own w) (fun a => q = false ∧ Own w a) H' Z' :=
  ⟨fun a o h m => n.keep a o h id (by
    cases q with
    | true => exact .inl rfl
    | false =>
      cases e : w a with
      | none => exact .inr rfl
      | some i => exact absurd ⟨rfl, by unfold Own; rw [e]; exact fun x => nomatch x⟩ m), n.zin, fun a z => by
    rcases n.znew a z with y | y | y | y
    · exact .inl y
    · exact .inr (.inl y)
    · exact .inr (.inr y)
    · exact y.elim⟩
theorem S.zOwn (s : S K Z w σ ρ H) : ∀ a, Z a → ¬ Own w a := fun a z o => (s.wok a o).2 z
theorem S.mLst (s : S K Z w σ ρ H) : ∀ a xs, (q = false ∧ Own w a) → H a = some xs → ∃ ys, xs = .lst ys := fun a xs m e => by
  obtain ⟨⟨ys, e2⟩, _⟩ := s.wok a m.2
  rw [e] at e2; cases e2
  exact ⟨ys, rfl⟩
theorem Rep.on (s : S K Z w σ ρ H) (n : Nx q A0 H Z w H' Z' w') {d : D} {v : V} (t : Tn H Z w O) (hr : d.ret = true ∨ q = true) (r : Rep K H Z O v d) : Rep K H' Z' O v d :=
  Rep.go n.ext (fun _ m => m.2) s.zOwn s.mLst d O v (fun a h o => o (t.free a h)) (hr.imp id fun e a m => by rw [e] at m; exact nomatch m.1) r
theorem RepL.on (s : S K Z w σ ρ H) (n : Nx q A0 H Z w H' Z' w') {ds : List D} {vs : List V} (t : Tn H Z w O) (hr : D.retL ds = true ∨ q = true) (r : RepL K H Z O vs ds) : RepL K H' Z' O vs ds :=
  RepL.go n.ext (fun _ m => m.2) s.zOwn s.mLst ds O vs (fun a h o => o (t.free a h)) (hr.imp id fun e a m => by rw [e] at m; exact nomatch m.1) r
/-- only new objects -/
theorem Nx.same (h : Same H H') : Nx q A H Z w H' Z w := ⟨fun a o e _ _ => h a o e, fun _ z => z, fun _ z => .inl z, fun _ z => .inl z⟩
theorem S.same (s : S K Z w σ ρ H) (h : Same H H') : S K Z w σ ρ H' := by
  refine ⟨s.len, fun i d e => ?_, fun a z => ?_, fun a z => ?_⟩
  · obtain ⟨hr, v, e1, r⟩ := s.rep i d e
    refine ⟨hr, v, e1, ?_⟩
    refine Rep.go (E := fun _ => False) (M := fun _ => False) ⟨fun a o e _ => h a o e, fun _ z => z, fun _ z => .inl z⟩ (fun _ m => m.elim) (fun _ _ m => m) (fun _ _ m => m.elim) d _ v (fun _ _ m => m) (.inl hr) r
  · obtain ⟨xs, e⟩ := s.zok a z
    exact ⟨xs, h _ _ e⟩
  · obtain ⟨⟨xs, e⟩, nz⟩ := s.wok a z
    exact ⟨⟨xs, h _ _ e⟩, nz⟩
theorem Rep.same (h : Same H H') {d : D} {v : V} (r : Rep K H Z O v d) : Rep K H' Z O v d :=
  Rep.go (E := fun _ => False) (M := fun _ => False) ⟨fun a o e _ => h a o e, fun _ z => z, fun _ z => .inl z⟩ (fun _ m => m.elim) (fun _ _ m => m) (fun _ _ m => m.elim) d _ v (fun _ _ m => m) (.inr fun _ m => m) r
theorem RepL.same (h : Same H H') {ds : List D} {vs : List V} (r : RepL K H Z O vs ds) : RepL K H' Z O vs ds :=
  RepL.go (E := fun _ => False) (M := fun _ => False) ⟨fun a o e _ => h a o e, fun _ z => z, fun _ z => .inl z⟩ (fun _ m => m.elim) (fun _ _ m => m) (fun _ _ m => m.elim) ds _ vs (fun _ _ m => m) (.inr fun _ m => m) r
theorem S.nz (s : S K Z w σ ρ H) {p : Addr} (h : H p = none) : ¬ Z p := fun z => by
  obtain ⟨xs, e⟩ := s.zok p z
  rw [h] at e; cases e
theorem S.nw (s : S K Z w σ ρ H) {p : Addr} (h : H p = none) : w p = none := by
  cases e : w p with
  | none => rfl
  | some i =>
    obtain ⟨⟨xs, e2⟩, _⟩ := s.wok p (by rw [e]; exact fun x => nomatch x)
    rw [h] at e2; cases e2
theorem same_upd {p : Addr} {o : HO} (h : H p = none) : Same H (upd H p o) := fun b u e => by
  rw [upd_ne (ne_of_none e h)]; exact e
/-! ### what lists of data hold -/
theorem RepL.get : ∀ {ds : List D} {O : AS} {vs : List V} {i : Nat} {d : D}, RepL K H Z O vs ds → ds[i]? = some d → ∃ v, vs[i]? = some v ∧ Rep K H Z O v d
  | [], _, _, _, _, _, e => by simp at e
  | d :: ds, O, _, 0, _, .cons h1 _ _ a _, e => by
    simp at e; subst e
    exact ⟨_, rfl, a.wide h1⟩
  | d :: ds, O, _, i + 1, _, .cons _ h2 _ _ b, e => by
    obtain ⟨v, e1, r⟩ := RepL.get b (by simpa using e)
    exact ⟨v, by simpa using e1, r.wide h2⟩
theorem RepL.append : ∀ {ds es : List D} {O1 O2 : AS} {vs us : List V}, (∀ a, O1 a → ¬ O2 a) → RepL K H Z O1 vs ds → RepL K H Z O2 us es → RepL K H Z (fun a => O1 a ∨ O2 a) (vs ++ us) (ds ++ es)
  | [], es, O1, O2, _, us, _, .nil, r => r.wide fun _ h => .inr h
  | d :: ds, es, O1, O2, _, us, hd, .cons (O1 := P1) (O2 := P2) h1 h2 h3 a b, r =>
    .cons (O1 := P1) (O2 := fun x => P2 x ∨ O2 x) (fun x h => .inl (h1 x h)) (fun x h => h.imp (h2 x) id) (fun x h q => q.elim (h3 x h) (hd x (h1 x h))) a (RepL.append (fun x h => hd x (h2 x h)) b r)
theorem RepL.take : ∀ {ds : List D} {O : AS} {vs : List V} (n : Nat), RepL K H Z O vs ds → RepL K H Z O (vs.take n) (ds.take n)
  | [], _, _, n, .nil => by simp; exact .nil
  | d :: ds, _, _, 0, .cons _ _ _ _ _ => .nil
  | d :: ds, _, _, n + 1, .cons h1 h2 h3 a b => .cons h1 h2 h3 a (RepL.take n b)
theorem RepL.drop : ∀ {ds : List D} {O : AS} {vs : List V} (n : Nat), RepL K H Z O vs ds → RepL K H Z O (vs.drop n) (ds.drop n)
  | [], _, _, n, .nil => by simp; exact .nil
  | d :: ds, _, _, 0, r => r
  | d :: ds, _, _, n + 1, .cons h1 h2 h3 a b => (RepL.drop n b).wide h2
theorem retL_append : ∀ xs ys : List D, D.retL (xs ++ ys) = (D.retL xs && D.retL ys)
  | [], ys => by simp [D.retL]
  | x :: xs, ys => by simp only [List.cons_append, D.retL, retL_append xs ys, Bool.and_assoc]
theorem retL_take : ∀ (xs : List D) (n : Nat), D.retL xs = true → D.retL (xs.take n) = true
  | [], n, _ => by simp [D.retL]
  | x :: xs, 0, _ => by simp [D.retL]
  | x :: xs, n + 1, h => by
    simp only [D.retL, Bool.and_eq_true] at h
    simp only [List.take_succ_cons, D.retL, Bool.and_eq_true]
    exact ⟨h.1, retL_take xs n h.2⟩
theorem retL_drop : ∀ (xs : List D) (n : Nat), D.retL xs = true → D.retL (xs.drop n) = true
  | [], n, _ => by simp [D.retL]
  | x :: xs, 0, h => h
  | x :: xs, n + 1, h => by
    simp only [D.retL, Bool.and_eq_true] at h
    simpa only [List.drop_succ_cons] using retL_drop xs n h.2
theorem retL_get : ∀ {xs : List D} {i : Nat} {d : D}, D.retL xs = true → xs[i]? = some d → d.ret = true
  | [], _, _, _, e => by simp at e
  | x :: xs, 0, _, h, e => by
    simp only [D.retL, Bool.and_eq_true] at h
    simp at e; subst e
    exact h.1
  | x :: xs, i + 1, _, h, e => by
    simp only [D.retL, Bool.and_eq_true] at h
    exact retL_get h.2 (by simpa using e)
/-! ### where a list stands -/
theorem Rep.lstRd {o : Ow} {ds : List D} {v : V} (r : Rep K H Z O v (.lst o ds)) : ∃ a xs, v = .ref a ∧ SqL K H a xs ∧ RepL K H Z O xs ds := by
  cases r with
  | frz s r f => exact ⟨_, _, rfl, s.sq, RepL.noO _ _ _ _ f r⟩
  | own a b c d e f => exact ⟨_, _, rfl, .inl (.inl a), f.wide d⟩
  | brw a r => exact ⟨_, _, rfl, .inl (.inl a), r.wide fun _ h => h.elim⟩
theorem Rep.tupSq {ds : List D} {v : V} (r : Rep K H Z O v (.tup ds)) : ∃ a xs, v = .ref a ∧ SqT K H a xs ∧ RepL K H Z O xs ds := by
  cases r with
  | tup s r => exact ⟨_, _, rfl, s, r⟩
theorem Rep.newLst {p : Addr} {xs : List V} {ds : List D} (hp : H p = none) (nz : ¬ Z p) (r : RepL K H Z O xs ds) (ol : ∀ a, O a → H a ≠ none) : Rep K (upd H p (.lst xs)) Z (fun a => a = p ∨ O a) (.ref p) (.lst .own ds) :=
  .own (O' := O) upd_same nz (.inl rfl) (fun _ h => .inr h) (fun h => ol p h hp) (r.same (same_upd hp))
theorem Rep.newTup {p : Addr} {xs : List V} {ds : List D} (hp : H p = none) (r : RepL K H Z O xs ds) : Rep K (upd H p (.tup xs)) Z O (.ref p) (.tup ds) :=
  .tup (.inl (.inl upd_same)) (r.same (same_upd hp))
theorem Rep.toV {d : D} {v : V} (h : d.flat = true) (r : Rep K H Z O v d) : v = d.toV := by
  cases r <;> first | rfl | (simp [D.flat] at h)
theorem RepL.toV : ∀ {ds : List D} {O : AS} {vs : List V}, ds.all D.flat = true → RepL K H Z O vs ds → vs = ds.map D.toV
  | [], _, _, _, .nil => rfl
  | d :: ds, _, _, h, .cons _ _ _ a b => by
    simp only [List.all_cons, Bool.and_eq_true] at h
    rw [a.toV h.1, RepL.toV h.2 b]
    rfl
theorem flat_flatV {d : D} (h : d.flat = true) : flatV d.toV = true := by
  cases d <;> first | rfl | simp [D.flat] at h
theorem flats : ∀ {ds : List D}, ds.all D.flat = true → (ds.map D.toV).all flatV = true
  | [], _ => rfl
  | d :: ds, h => by
    simp only [List.all_cons, Bool.and_eq_true] at h
    simp only [List.map_cons, List.all_cons, Bool.and_eq_true]
    exact ⟨flat_flatV h.1, flats h.2⟩
end
/-- what an operation by values may hand back: nothing but new objects, what it owns is of its arguments or new -/
def Hand (K : PySem.W.Frag) (H : Hp) (Z O : AS) (d : D) (Q : VK) : Prop :=
  ∀ z H' O', Same H H' → Rep K H' Z O' z d → (∀ a, O' a → O a ∨ (H a = none ∧ ∃ xs, H' a = some (.lst xs))) → Q z H'
section
variable {K : PySem.W.Frag} {H : Hp} {Z O : AS} {Q : VK} {X : Cx}
theorem Hand.int {i : Int} (h : Hand K H Z O (.int i) Q) : Q (.int i) H := h _ H (fun _ => False) (Same.refl H) .int fun _ z => z.elim
theorem Hand.bl {i : Bool} (h : Hand K H Z O (.bl i) Q) : Q (.bl i) H := h _ H (fun _ => False) (Same.refl H) .bl fun _ z => z.elim
theorem Hand.str {i : Str} (h : Hand K H Z O (.str i) Q) : Q (.str i) H := h _ H (fun _ => False) (Same.refl H) .str fun _ z => z.elim
theorem Hand.non (h : Hand K H Z O .non Q) : Q .non H := h _ H (fun _ => False) (Same.refl H) .non fun _ z => z.elim
theorem Hand.rep {d : D} {v : V} (h : Hand K H Z O d Q) (r : Rep K H Z O v d) : Q v H := h _ H O (Same.refl H) r fun _ z => .inl z
theorem Hand.lst {ds : List D} {xs : List V} {p : Addr} (h : Hand K H Z O (.lst .own ds) Q) (r : RepL K H Z O xs ds) (ol : ∀ a, O a → H a ≠ none) (hz : ∀ a, Z a → H a ≠ none) (hp : H p = none) : Q (.ref p) (upd H p (.lst xs)) :=
  h _ _ _ (same_upd hp) (Rep.newLst hp (fun z => hz p z hp) r ol) fun a z => z.elim (fun e => by subst e; exact .inr ⟨hp, _, upd_same⟩) .inl
theorem Hand.tup {ds : List D} {xs : List V} {p : Addr} (h : Hand K H Z O (.tup ds) Q) (r : RepL K H Z O xs ds) (hp : H p = none) : Q (.ref p) (upd H p (.tup xs)) :=
  h _ _ _ (same_upd hp) (Rep.newTup hp r) fun a z => .inl z
theorem Hand.mono' {O2 : AS} {d : D} (h : Hand K H Z O d Q) (i : ∀ a, O2 a → O a) : Hand K H Z O2 d Q := fun z H' O' sm rp ho => h z H' O' sm rp fun a x => (ho a x).imp (i a) id
/-- list + list, also frozen ones -/
def rCatL (K : PySem.W.Frag) : R2 := fun x y H Q => ∃ l b xs zs, x = .ref l ∧ y = .ref b ∧ SqL K H l xs ∧ SqL K H b zs ∧ xs.length + zs.length ≤ sizeLine ∧ ∀ p, H p = none → Q (.ref p) (upd H p (.lst (xs ++ zs)))
theorem op_catL : OpR X (binaryOp .Add) (rCatL X.K) := by
  intro pins s σ H x y v u Q I rx ry h
  obtain ⟨l, b, xs, zs, rfl, rfl, hH, hB, hz, q⟩ := h
  cases rx
  cases ry
  obtain ⟨its, r, ⟨⟨cls, dd, data, sl⟩, n, ho, hc, _, hd⟩, _⟩ := I.list hH
  obtain ⟨its2, r2, ⟨⟨cls2, dd2, data2, sl2⟩, n2, ho2, hc2, _, hd2⟩, _⟩ := I.list hB
  simp only at hc hd hc2 hd2
  subst hc hd hc2 hd2
  have l1 := r.length
  have l2 := r2.length
  have ea : its.toArray ++ its2.toArray = (its ++ its2).toArray := by simp
  refine concat_meets ⟨_, ho, rfl⟩ ⟨_, ho2, rfl⟩ PySem.noFill_list_add PySem.seq_list_add F.slot_list_add F.entry_list_add (F.args_list_add_2 _ _) (PyProof.Rows.list_addW l b _ _ n n2 dd dd2 sl sl2 (by simp only [List.size_toArray]; omega)) ⟨ho, ho2, ?_⟩
  rw [ea]
  exact ⟨.ref _, _, I.lnew (t' := s.toks) (r.append r2) (by rw [List.length_append]; omega), rfl, q _ I.fresh⟩
/-- an operator's place in the machine -/
def O2.sem : O2 → Value → Value → Sem Value
  | .add => binaryOp .Add
  | .sub => binaryOp .Sub
  | .mul => binaryOp .Mult
  | .fdiv => binaryOp .FloorDiv
  | .mod => binaryOp .Mod
  | .pow => binaryOp .Pow
  | .eq => compareOp .Eq
  | .ne => compareOp .NotEq
  | .lt => compareOp .Lt
  | .le => compareOp .LtE
  | .gt => compareOp .Gt
  | .ge => compareOp .GtE
  | .isin => compareOp .In
  | .notin => compareOp .NotIn
  | .is => compareOp .Is
  | .isnot => compareOp .IsNot
/-- by data: x and y stand for d and e -/
def rD (o : O2) (K : PySem.W.Frag) : R2 := fun x y H Q => ∃ (Z P1 P2 : AS) (d e r : D), Rep K H Z P1 x d ∧ Rep K H Z P2 y e ∧ (∀ a, P1 a → ¬ P2 a) ∧ (∀ a, P1 a → H a ≠ none) ∧ (∀ a, P2 a → H a ≠ none) ∧ (∀ a, Z a → H a ≠ none) ∧
  o.ev d e = some r ∧ Hand K H Z (fun a => P1 a ∨ P2 a) r Q
end
end PD
set_option Elab.async false
set_option linter.all false
set_option maxRecDepth 100000
set_option maxHeartbeats 4000000
/-! PdD: the operators do what the evaluator says. -/
namespace PD
open PySem L2
theorem OpR.imp {X : Cx} {f : Value → Value → Sem Value} {r r' : R2} (h : OpR X f r) (i : ∀ x y H Q, r' x y H Q → r x y H Q) : OpR X f r' :=
  fun pins s σ H x y v u Q I rx ry q => h pins s σ H x y v u Q I rx ry (i _ _ _ _ q)
theorem CallR.imp {X : Cx} {f : Value} {r r' : List V → Hp → VK → Prop} (h : CallR X f r) (i : ∀ xs H Q, r' xs H Q → r xs H Q) : CallR X f r' :=
  fun pins s σ H xs us Q I rx q => h pins s σ H xs us Q I rx (i _ _ _ q)
section
variable {X : Cx}
theorem o_add : OpR X (binaryOp .Add) (rD .add X.K) := by
  refine OpR.imp (((op_add (X := X)).or op_add_str).or (op_catL.or op_catA)) fun x y H Q h => ?_
  obtain ⟨Z, P1, P2, d, e, r, rx, ry, dj, l1, l2, lz, he, hd⟩ := h
  cases d with
  | int i =>
    cases e <;> simp only [O2.ev] at he <;> try contradiction
    cases rx; cases ry
    obtain rfl := Option.some.inj he
    exact .inl (.inl ⟨_, _, rfl, rfl, hd.int⟩)
  | str i =>
    cases e <;> simp only [O2.ev] at he <;> try contradiction
    cases rx; cases ry
    split at he <;> try contradiction
    obtain rfl := Option.some.inj he
    rename_i hz
    exact .inl (.inr ⟨_, _, rfl, rfl, of_decide_eq_true hz, hd.str⟩)
  | lst o ds =>
    cases e <;> simp only [O2.ev] at he <;> try contradiction
    split at he <;> try contradiction
    obtain rfl := Option.some.inj he
    rename_i hz
    simp only [Bool.and_eq_true] at hz
    obtain ⟨a, xs, rfl, ha, ra⟩ := rx.lstRd
    obtain ⟨b, zs, rfl, hb, rb⟩ := ry.lstRd
    refine .inr (.inl ⟨_, _, _, _, rfl, rfl, ha, hb, ?_, fun p hp => hd.lst (ra.append dj rb) (fun a h => h.elim (l1 a) (l2 a)) lz hp⟩)
    rw [ra.len, rb.len]
    exact of_decide_eq_true hz.2
  | tup ds =>
    cases e <;> simp only [O2.ev] at he <;> try contradiction
    split at he <;> try contradiction
    obtain rfl := Option.some.inj he
    rename_i es hz
    simp only [Bool.and_eq_true] at hz
    obtain ⟨a, xs, rfl, ha, ra⟩ := rx.tupSq
    obtain ⟨b, zs, rfl, hb, rb⟩ := ry.tupSq
    have hl1 := ra.len
    have hl2 := rb.len
    refine .inr (.inr ⟨_, _, _, _, rfl, rfl, ha, hb, by rw [hl1, hl2]; exact of_decide_eq_true hz.2, ?_⟩)
    refine ⟨fun e0 => ?_, fun e0 e1 => ?_, fun _ _ p hp => hd.tup (ra.append dj rb) hp⟩
    · subst e0
      cases ra
      exact hd.rep (ry.wide fun _ h => .inr h)
    · subst e1
      cases rb
      simp only [List.append_nil] at hd
      exact hd.rep (rx.wide fun _ h => .inl h)
  | _ => cases e <;> simp only [O2.ev] at he <;> try contradiction
theorem o_sub : OpR X (binaryOp .Sub) (rD .sub X.K) := by
  refine OpR.imp (op_sub (X := X)) fun x y H Q h => ?_
  obtain ⟨Z, P1, P2, d, e, r, rx, ry, dj, l1, l2, lz, he, hd⟩ := h
  cases d <;> cases e <;> simp only [O2.ev] at he <;> try contradiction
  cases rx; cases ry
  obtain rfl := Option.some.inj he
  exact ⟨_, _, rfl, rfl, hd.int⟩
theorem mulOk_ok {i j : Int} (h : mulOk i j = true) : IntMulOk i j := by
  have b : ∀ x : Int, Builtin.Int.intBits x ≤ x.natAbs.log2 + 1 := fun x => by
    unfold Builtin.Int.intBits
    split <;> omega
  have h1 := b i
  have h2 := b j
  unfold mulOk at h
  rcases Bool.or_eq_true_iff.mp h with h | h
  · rcases Bool.or_eq_true_iff.mp h with h | h
    · have := of_decide_eq_true h
      exact .of_left (intBits_le_64 (by omega) (by omega))
    · have := of_decide_eq_true h
      exact .of_right (intBits_le_64 (by omega) (by omega))
  · have h3 := of_decide_eq_true h
    have e : bitsLine = 134217728 := by decide
    unfold IntMulOk
    intro z
    have z2 := (Bool.and_eq_true_iff.mp z).2
    unfold Builtin.Int.intTooBig at z2
    have z3 := of_decide_eq_true z2
    rw [e] at z3
    omega
theorem op_mulY : OpR X (binaryOp .Mult) (rI (fun i j => mulOk i j = true) fun i j => .int (i * j)) := opI fun _ _ _ _ _ _ _ hc q => PyProof.Rows.mul_int q (mulOk_ok hc)
theorem RepL.rept {K : PySem.W.Frag} {H : Hp} {Z O : AS} {xs : List D} {vs : List V} (h : D.fzL xs = true) (r : RepL K H Z O vs xs) : ∀ n : Nat, RepL K H Z A0 (List.replicate n vs).flatten (List.replicate n xs).flatten
  | 0 => .nil
  | n + 1 => by
    rw [List.replicate_succ, List.replicate_succ, List.flatten_cons, List.flatten_cons]
    exact (RepL.append (O1 := A0) (O2 := A0) (fun _ z => z.elim) (RepL.noO _ _ _ _ h r) (RepL.rept h r n)).wide fun _ z => z.elim (fun y => y) (fun y => y)
theorem o_mul : OpR X (binaryOp .Mult) (rD .mul X.K) := by
  refine OpR.imp ((op_mulY (X := X)).or op_rep) fun x y H Q h => ?_
  obtain ⟨Z, P1, P2, d, e, r, rx, ry, dj, l1, l2, lz, he, hd⟩ := h
  cases d with
  | int i =>
    cases e <;> simp only [O2.ev] at he <;> try contradiction
    cases rx; cases ry
    split at he <;> try contradiction
    obtain rfl := Option.some.inj he
    rename_i hz
    exact .inl ⟨_, _, rfl, rfl, hz, hd.int⟩
  | lst o xs =>
    cases o <;> cases e <;> simp only [O2.ev] at he <;> try contradiction
    rename_i k
    split at he <;> try contradiction
    obtain rfl := Option.some.inj he
    rename_i hz
    simp only [Bool.and_eq_true, decide_eq_true_eq] at hz
    cases ry
    cases rx with
    | own a b c d2 e2 f =>
      refine .inr ⟨_, k, _, rfl, rfl, a, hz.1.1.2, hz.1.2, by rw [f.len]; exact of_decide_eq_true hz.2, fun p hp => ?_⟩
      exact (hd.mono' (O2 := A0) fun _ z => z.elim).lst (RepL.rept hz.1.1.1 f k.toNat) (fun _ z => z.elim) lz hp
  | _ => cases e <;> simp only [O2.ev] at he <;> try contradiction
theorem o_fdiv : OpR X (binaryOp .FloorDiv) (rD .fdiv X.K) := by
  refine OpR.imp (op_fdivW (X := X)) fun x y H Q h => ?_
  obtain ⟨Z, P1, P2, d, e, r, rx, ry, dj, l1, l2, lz, he, hd⟩ := h
  cases d <;> cases e <;> simp only [O2.ev] at he <;> try contradiction
  cases rx; cases ry
  split at he <;> try contradiction
  obtain rfl := Option.some.inj he
  rename_i hz
  simp only [Bool.and_eq_true, decide_eq_true_eq] at hz
  exact ⟨_, _, rfl, rfl, hz, hd.int⟩
theorem o_mod : OpR X (binaryOp .Mod) (rD .mod X.K) := by
  refine OpR.imp (op_mod (X := X)) fun x y H Q h => ?_
  obtain ⟨Z, P1, P2, d, e, r, rx, ry, dj, l1, l2, lz, he, hd⟩ := h
  cases d <;> cases e <;> simp only [O2.ev] at he <;> try contradiction
  cases rx; cases ry
  split at he <;> try contradiction
  obtain rfl := Option.some.inj he
  rename_i hz
  exact ⟨_, _, rfl, rfl, of_decide_eq_true hz, hd.int⟩
theorem o_pow : OpR X (binaryOp .Pow) (rD .pow X.K) := by
  refine OpR.imp (op_pow (X := X)) fun x y H Q h => ?_
  obtain ⟨Z, P1, P2, d, e, r, rx, ry, dj, l1, l2, lz, he, hd⟩ := h
  cases d <;> cases e <;> simp only [O2.ev] at he <;> try contradiction
  cases rx; cases ry
  split at he <;> try contradiction
  obtain rfl := Option.some.inj he
  rename_i hz
  simp only [Bool.and_eq_true, decide_eq_true_eq] at hz
  exact ⟨_, _, rfl, rfl, ⟨hz.1.1, hz.1.2, hz.2⟩, hd.int⟩
theorem o_cmpI {op : CmpOp} {o : O2} {f : Int → Int → Bool} (ho : OpR X (compareOp op) (rI0 fun i j => .bl (f i j))) (h1 : ∀ i j, o.ev (.int i) (.int j) = some (.bl (f i j)))
    (h2 : ∀ d e r, o.ev d e = some r → ∃ i j, d = .int i ∧ e = .int j) : OpR X (compareOp op) (rD o X.K) := by
  refine OpR.imp ho fun x y H Q h => ?_
  obtain ⟨Z, P1, P2, d, e, r, rx, ry, dj, l1, l2, lz, he, hd⟩ := h
  obtain ⟨i, j, rfl, rfl⟩ := h2 _ _ _ he
  rw [h1] at he
  cases rx; cases ry
  obtain rfl := Option.some.inj he
  exact ⟨_, _, rfl, rfl, hd.bl⟩
theorem o_lt : OpR X (compareOp .Lt) (rD .lt X.K) := o_cmpI op_lt (fun _ _ => rfl) fun d e r h => by
  cases d <;> cases e <;> first | exact ⟨_, _, rfl, rfl⟩ | (simp [O2.ev] at h; done) | contradiction
theorem o_le : OpR X (compareOp .LtE) (rD .le X.K) := o_cmpI op_le (fun _ _ => rfl) fun d e r h => by
  cases d <;> cases e <;> first | exact ⟨_, _, rfl, rfl⟩ | (simp [O2.ev] at h; done) | contradiction
theorem o_gt : OpR X (compareOp .Gt) (rD .gt X.K) := o_cmpI op_gt (fun _ _ => rfl) fun d e r h => by
  cases d <;> cases e <;> first | exact ⟨_, _, rfl, rfl⟩ | (simp [O2.ev] at h; done) | contradiction
theorem o_ge : OpR X (compareOp .GtE) (rD .ge X.K) := o_cmpI op_ge (fun _ _ => rfl) fun d e r h => by
  cases d <;> cases e <;> first | exact ⟨_, _, rfl, rfl⟩ | (simp [O2.ev] at h; done) | contradiction
theorem eqD_sound {K : PySem.W.Frag} {H : Hp} {Z P1 P2 : AS} {d e : D} {x y : V} {b : Bool} (rx : Rep K H Z P1 x d) (ry : Rep K H Z P2 y e) (h : eqD d e = some b) :
    (scal x y = true ∧ b = decide (x = y)) ∨ (∃ d' e', Dp K H x d' ∧ Dp K H y e' ∧ SeqAt.shaped d' = true ∧ SeqAt.shaped e' = true ∧ b = PyData.eqv d' e') := by
  have deep : (d.shp && e.shp) = true → b = PyData.eqv d.strip e.strip → (scal x y = true ∧ b = decide (x = y)) ∨ (∃ d' e', Dp K H x d' ∧ Dp K H y e' ∧ SeqAt.shaped d' = true ∧ SeqAt.shaped e' = true ∧ b = PyData.eqv d' e') := fun hs hb => by
    simp only [Bool.and_eq_true] at hs
    exact .inr ⟨_, _, Rep.dp _ _ _ rx, Rep.dp _ _ _ ry, hs.1, hs.2, hb⟩
  unfold eqD at h
  split at h <;> first
    | (split at h
       · rename_i hs
         exact deep hs (Option.some.inj h).symm
       · contradiction)
    | (cases rx; cases ry
       obtain rfl := Option.some.inj h
       exact .inl ⟨rfl, by simp⟩)
theorem o_eq (hu : X.A.units + 64 < cLine) : OpR X (compareOp .Eq) (rD .eq X.K) := by
  refine OpR.imp ((op_eq (X := X)).or (op_eqD hu)) fun x y H Q h => ?_
  obtain ⟨Z, P1, P2, d, e, r, rx, ry, dj, l1, l2, lz, he, hd⟩ := h
  simp only [O2.ev, Option.map_eq_some_iff] at he
  obtain ⟨b, hb, rfl⟩ := he
  rcases eqD_sound rx ry hb with ⟨hs, rfl⟩ | ⟨d', e', h1, h2, h3, h4, rfl⟩
  · exact .inl ⟨hs, hd.bl⟩
  · exact .inr ⟨_, _, h1, h2, h3, h4, hd.bl⟩
theorem o_ne (hu : X.A.units + 64 < cLine) : OpR X (compareOp .NotEq) (rD .ne X.K) := by
  refine OpR.imp ((op_ne (X := X)).or (op_neD hu)) fun x y H Q h => ?_
  obtain ⟨Z, P1, P2, d, e, r, rx, ry, dj, l1, l2, lz, he, hd⟩ := h
  simp only [O2.ev, Option.map_eq_some_iff] at he
  obtain ⟨b, hb, rfl⟩ := he
  rcases eqD_sound rx ry hb with ⟨hs, rfl⟩ | ⟨d', e', h1, h2, h3, h4, rfl⟩
  · exact .inl ⟨hs, hd.bl⟩
  · exact .inr ⟨_, _, h1, h2, h3, h4, hd.bl⟩
theorem inD_sound {K : PySem.W.Frag} {H : Hp} {Z P1 P2 : AS} {d : D} {ds : List D} {x : V} {ys : List V} {b : Bool} (rx : Rep K H Z P1 x d) (ry : RepL K H Z P2 ys ds) (h : inD d ds = some b) :
    flatV x = true ∧ ys.all flatV = true ∧ b = inV x ys := by
  unfold inD at h
  split at h <;> try contradiction
  rename_i hf
  simp only [Bool.and_eq_true] at hf
  obtain rfl := Option.some.inj h
  rw [rx.toV hf.1, ry.toV hf.2]
  exact ⟨flat_flatV hf.1, flats hf.2, rfl⟩
theorem o_in (hu : X.A.units + 65 < cLine) : OpR X (compareOp .In) (rD .isin X.K) := by
  refine OpR.imp ((op_in_str (X := X)).or ((op_in_seq).or (op_inD hu))) fun x y H Q h => ?_
  obtain ⟨Z, P1, P2, d, e, r, rx, ry, dj, l1, l2, lz, he, hd⟩ := h
  have lst : ∀ o ds, e = .lst o ds → (inL d ds).map D.bl = some r → rIn X.K false x y H Q ∨ rInD X.K x y H Q := fun o ds hE hi => by
    subst hE
    obtain ⟨b, hb, rfl⟩ := Option.map_eq_some_iff.mp hi
    unfold inL at hb
    split at hb
    · rename_i hb'
      obtain rfl := Option.some.inj hb
      obtain ⟨a, xs, rfl, ha, ra⟩ := ry.lstRd
      obtain ⟨f1, f2, rfl⟩ := inD_sound rx ra hb'
      exact .inl ⟨a, xs, rfl, .inl ha, f1, f2, hd.bl⟩
    · split at hb
      · rename_i hs
        obtain rfl := Option.some.inj hb
        simp only [Bool.and_eq_true] at hs
        exact .inr ⟨_, _, Rep.dp _ _ _ rx, Rep.dp _ _ _ ry, hs.1, hs.2, hd.bl⟩
      · contradiction
  have tup : ∀ ds, e = .tup ds → (inD d ds).map D.bl = some r → rIn X.K false x y H Q := fun ds hE hi => by
    subst hE
    obtain ⟨b, hb, rfl⟩ := Option.map_eq_some_iff.mp hi
    obtain ⟨a, xs, rfl, ha, ra⟩ := ry.tupSq
    obtain ⟨f1, f2, rfl⟩ := inD_sound rx ra hb
    exact ⟨a, xs, rfl, .inr ha, f1, f2, hd.bl⟩
  cases e with
  | lst o ds => exact .inr (lst o ds rfl (by cases d <;> simpa only [O2.ev] using he))
  | tup ds => exact .inr (.inl (tup ds rfl (by cases d <;> simpa only [O2.ev] using he)))
  | str j =>
    cases d <;> simp only [O2.ev] at he <;> try contradiction
    cases rx; cases ry
    obtain rfl := Option.some.inj he
    exact .inl ⟨_, _, rfl, rfl, hd.bl⟩
  | _ => cases d <;> simp only [O2.ev] at he <;> try contradiction
theorem o_notin (hu : X.A.units + 65 < cLine) : OpR X (compareOp .NotIn) (rD .notin X.K) := by
  refine OpR.imp ((op_notIn_str (X := X)).or ((op_notIn_seq).or (op_notInD hu))) fun x y H Q h => ?_
  obtain ⟨Z, P1, P2, d, e, r, rx, ry, dj, l1, l2, lz, he, hd⟩ := h
  have lst : ∀ o ds, e = .lst o ds → ((inL d ds).map fun b => D.bl (!b)) = some r → rIn X.K true x y H Q ∨ rNotInD X.K x y H Q := fun o ds hE hi => by
    subst hE
    obtain ⟨b, hb, rfl⟩ := Option.map_eq_some_iff.mp hi
    unfold inL at hb
    split at hb
    · rename_i hb'
      obtain rfl := Option.some.inj hb
      obtain ⟨a, xs, rfl, ha, ra⟩ := ry.lstRd
      obtain ⟨f1, f2, rfl⟩ := inD_sound rx ra hb'
      exact .inl ⟨a, xs, rfl, .inl ha, f1, f2, hd.bl⟩
    · split at hb
      · rename_i hs
        obtain rfl := Option.some.inj hb
        simp only [Bool.and_eq_true] at hs
        exact .inr ⟨_, _, Rep.dp _ _ _ rx, Rep.dp _ _ _ ry, hs.1, hs.2, hd.bl⟩
      · contradiction
  have tup : ∀ ds, e = .tup ds → ((inD d ds).map fun b => D.bl (!b)) = some r → rIn X.K true x y H Q := fun ds hE hi => by
    subst hE
    obtain ⟨b, hb, rfl⟩ := Option.map_eq_some_iff.mp hi
    obtain ⟨a, xs, rfl, ha, ra⟩ := ry.tupSq
    obtain ⟨f1, f2, rfl⟩ := inD_sound rx ra hb
    exact ⟨a, xs, rfl, .inr ha, f1, f2, hd.bl⟩
  cases e with
  | lst o ds => exact .inr (lst o ds rfl (by cases d <;> simpa only [O2.ev] using he))
  | tup ds => exact .inr (.inl (tup ds rfl (by cases d <;> simpa only [O2.ev] using he)))
  | str j =>
    cases d <;> simp only [O2.ev] at he <;> try contradiction
    cases rx; cases ry
    obtain rfl := Option.some.inj he
    exact .inl ⟨_, _, rfl, rfl, hd.bl⟩
  | _ => cases d <;> simp only [O2.ev] at he <;> try contradiction
theorem o_is : OpR X (compareOp .Is) (rD .is X.K) := by
  refine OpR.imp ((op_isN (X := X)).or op_is_bl) fun x y H Q h => ?_
  obtain ⟨Z, P1, P2, d, e, r, rx, ry, dj, l1, l2, lz, he, hd⟩ := h
  cases e <;> cases d <;> simp only [O2.ev] at he  <;> try contradiction
  all_goals
    obtain rfl := Option.some.inj he
    cases rx <;> cases ry <;> first
      | exact .inl ⟨rfl, hd.bl⟩
      | exact .inr ⟨_, _, rfl, rfl, hd.bl⟩
theorem o_isnot : OpR X (compareOp .IsNot) (rD .isnot X.K) := by
  refine OpR.imp ((op_notN (X := X)).or op_isnot_bl) fun x y H Q h => ?_
  obtain ⟨Z, P1, P2, d, e, r, rx, ry, dj, l1, l2, lz, he, hd⟩ := h
  cases e <;> cases d <;> simp only [O2.ev] at he  <;> try contradiction
  all_goals
    obtain rfl := Option.some.inj he
    cases rx <;> cases ry <;> first
      | exact .inl ⟨rfl, hd.bl⟩
      | exact .inr ⟨_, _, rfl, rfl, hd.bl⟩
theorem o2_ok (hu : X.A.units + 66 < cLine) : ∀ o : O2, OpR X o.sem (rD o X.K)
  | .add => o_add
  | .sub => o_sub
  | .mul => o_mul
  | .fdiv => o_fdiv
  | .mod => o_mod
  | .pow => o_pow
  | .eq => o_eq (by omega)
  | .ne => o_ne (by omega)
  | .lt => o_lt
  | .le => o_le
  | .gt => o_gt
  | .ge => o_ge
  | .isin => o_in (by omega)
  | .notin => o_notin (by omega)
  | .is => o_is
  | .isnot => o_isnot
end
end PD
set_option Elab.async false
set_option linter.all false
set_option maxRecDepth 100000
set_option maxHeartbeats 4000000
/-! PdE: built-in calls, items, slices do what the evaluator says. -/
namespace PD
open PySem L2
/-- by data: the arguments stand for ds -/
def rB (f : List D → Option D) (K : PySem.W.Frag) : List V → Hp → VK → Prop := fun vs H Q => ∃ (Z O : AS) (ds : List D) (r : D), RepL K H Z O vs ds ∧ (∀ a, O a → H a ≠ none) ∧ (∀ a, Z a → H a ≠ none) ∧ f ds = some r ∧ Hand K H Z O r Q
section
variable {K : PySem.W.Frag} {H : Hp} {Z O : AS} {X : Cx}
theorem RepL.bools : ∀ {ds : List D} {O : AS} {vs : List V} {bs : List Bool}, RepL K H Z O vs ds → allB ds = some bs → vs = bs.map V.bl
  | [], _, _, _, .nil, h => by simp only [allB, Option.some.injEq] at h; subst h; rfl
  | .bl b :: ds, _, _, _, .cons _ _ _ a t, h => by
    simp only [allB, Option.map_eq_some_iff] at h
    obtain ⟨bs, hb, rfl⟩ := h
    cases a
    rw [RepL.bools t hb]; rfl
  | .non :: ds, _, _, _, _, h => by simp [allB] at h
  | .int _ :: ds, _, _, _, _, h => by simp [allB] at h
  | .str _ :: ds, _, _, _, _, h => by simp [allB] at h
  | .tup _ :: ds, _, _, _, _, h => by simp [allB] at h
  | .lst _ _ :: ds, _, _, _, _, h => by simp [allB] at h
theorem RepL.ints : ∀ {ds : List D} {O : AS} {vs : List V} {bs : List Int}, RepL K H Z O vs ds → allI ds = some bs → vs = bs.map V.int
  | [], _, _, _, .nil, h => by simp only [allI, Option.some.injEq] at h; subst h; rfl
  | .int b :: ds, _, _, _, .cons _ _ _ a t, h => by
    simp only [allI, Option.map_eq_some_iff] at h
    obtain ⟨bs, hb, rfl⟩ := h
    cases a
    rw [RepL.ints t hb]; rfl
  | .non :: ds, _, _, _, _, h => by simp [allI] at h
  | .bl _ :: ds, _, _, _, _, h => by simp [allI] at h
  | .str _ :: ds, _, _, _, _, h => by simp [allI] at h
  | .tup _ :: ds, _, _, _, _, h => by simp [allI] at h
  | .lst _ _ :: ds, _, _, _, _, h => by simp [allI] at h
theorem RepL.one {d : D} {vs : List V} (r : RepL K H Z O vs [d]) : ∃ v, vs = [v] ∧ Rep K H Z O v d := by
  cases r with
  | cons h1 _ _ a b => cases b; exact ⟨_, rfl, a.wide h1⟩
theorem RepL.two {d e : D} {vs : List V} (r : RepL K H Z O vs [d, e]) : ∃ v u, vs = [v, u] ∧ Rep K H Z O v d ∧ Rep K H Z O u e := by
  cases r with
  | cons h1 h2 _ a b =>
    obtain ⟨u, rfl, b'⟩ := RepL.one b
    exact ⟨_, _, rfl, a.wide h1, b'.wide h2⟩
theorem c_len : CallR X (.builtin "len") (rB B1.len.ev X.K) := by
  refine CallR.imp ((call_len_seq (X := X)).or call_len_str) fun vs H Q h => ?_
  obtain ⟨Z, O, ds, r, rp, _, _, he, hd⟩ := h
  simp only [B1.ev] at he
  split at he
  any_goals contradiction
  all_goals rename_i hb; cases hb
  · obtain ⟨v, rfl, a⟩ := rp.one
    obtain ⟨p, xs, rfl, hp, ra⟩ := a.lstRd
    obtain rfl := Option.some.inj he
    refine .inl ⟨p, xs, rfl, .inl hp, ?_⟩
    rw [ra.len]; exact hd.int
  · obtain ⟨v, rfl, a⟩ := rp.one
    obtain ⟨p, xs, rfl, hp, ra⟩ := a.tupSq
    obtain rfl := Option.some.inj he
    refine .inl ⟨p, xs, rfl, .inr hp, ?_⟩
    rw [ra.len]; exact hd.int
  · obtain ⟨v, rfl, a⟩ := rp.one
    split at he
    · rename_i hz
      obtain rfl := Option.some.inj he
      cases a
      exact .inr ⟨_, rfl, of_decide_eq_true hz, hd.int⟩
    · contradiction
theorem c_int : CallR X (.type "int") (rB B1.int.ev X.K) := by
  refine CallR.imp (call_int1 (X := X)) fun vs H Q h => ?_
  obtain ⟨Z, O, ds, r, rp, _, _, he, hd⟩ := h
  simp only [B1.ev] at he
  split at he
  any_goals contradiction
  all_goals rename_i hb; cases hb
  · obtain ⟨v, rfl, a⟩ := rp.one
    obtain rfl := Option.some.inj he
    cases a
    exact .inl ⟨_, rfl, hd.int⟩
  · obtain ⟨v, rfl, a⟩ := rp.one
    obtain rfl := Option.some.inj he
    cases a
    exact .inr ⟨_, rfl, hd.int⟩
theorem c_abs : CallR X (.builtin "abs") (rB B1.abs.ev X.K) := by
  refine CallR.imp (call_abs (X := X)) fun vs H Q h => ?_
  obtain ⟨Z, O, ds, r, rp, _, _, he, hd⟩ := h
  simp only [B1.ev] at he
  split at he
  any_goals contradiction
  all_goals rename_i hb; cases hb
  obtain ⟨v, rfl, a⟩ := rp.one
  obtain rfl := Option.some.inj he
  cases a
  exact ⟨_, rfl, hd.int⟩
theorem c_all (hc : X.calm = true) : CallR X (.builtin "all") (rB B1.all.ev X.K) := by
  refine CallR.imp (cr_all hc) fun vs H Q h => ?_
  obtain ⟨Z, O, ds, r, rp, _, _, he, hd⟩ := h
  simp only [B1.ev] at he
  split at he
  any_goals contradiction
  all_goals rename_i hb; cases hb
  obtain ⟨v, rfl, a⟩ := rp.one
  obtain ⟨bs, hb, rfl⟩ := Option.map_eq_some_iff.mp he
  obtain ⟨p, xs, rfl, hp, ra⟩ := a.lstRd
  obtain rfl := ra.bools hb
  exact ⟨p, bs, rfl, hp, hd.bl⟩
theorem c_any (hc : X.calm = true) : CallR X (.builtin "any") (rB B1.any.ev X.K) := by
  refine CallR.imp (cr_any hc) fun vs H Q h => ?_
  obtain ⟨Z, O, ds, r, rp, _, _, he, hd⟩ := h
  simp only [B1.ev] at he
  split at he
  any_goals contradiction
  all_goals rename_i hb; cases hb
  obtain ⟨v, rfl, a⟩ := rp.one
  obtain ⟨bs, hb, rfl⟩ := Option.map_eq_some_iff.mp he
  obtain ⟨p, xs, rfl, hp, ra⟩ := a.lstRd
  obtain rfl := ra.bools hb
  exact ⟨p, bs, rfl, hp, hd.bl⟩
theorem c_sum (hc : X.calm = true) : CallR X (.builtin "sum") (rB B1.sum.ev X.K) := by
  refine CallR.imp (cr_sum hc) fun vs H Q h => ?_
  obtain ⟨Z, O, ds, r, rp, _, _, he, hd⟩ := h
  simp only [B1.ev] at he
  split at he
  any_goals contradiction
  all_goals rename_i hb; cases hb
  obtain ⟨v, rfl, a⟩ := rp.one
  obtain ⟨bs, hb, rfl⟩ := Option.map_eq_some_iff.mp he
  obtain ⟨p, xs, rfl, hp, ra⟩ := a.lstRd
  obtain rfl := ra.ints hb
  exact ⟨p, bs, rfl, hp, hd.int⟩
theorem minI_mem : ∀ ns : List Int, ns.isEmpty = false → minI ns ∈ ns ∧ ∀ y ∈ ns, minI ns ≤ y
  | [], h => nomatch h
  | [a], _ => ⟨by simp [minI], by simp [minI]⟩
  | a :: b :: r, _ => by
    obtain ⟨h1, h2⟩ := minI_mem (b :: r) rfl
    have e : minI (a :: b :: r) = min a (minI (b :: r)) := rfl
    rw [e]
    refine ⟨?_, fun y hy => ?_⟩
    · rcases Int.le_total a (minI (b :: r)) with z | z
      · rw [Int.min_eq_left z]; exact List.mem_cons_self
      · rw [Int.min_eq_right z]; exact List.mem_cons_of_mem _ h1
    · rcases List.mem_cons.mp hy with z | z
      · subst z; exact Int.min_le_left _ _
      · exact Int.le_trans (Int.min_le_right _ _) (h2 y z)
theorem maxI_mem : ∀ ns : List Int, ns.isEmpty = false → maxI ns ∈ ns ∧ ∀ y ∈ ns, y ≤ maxI ns
  | [], h => nomatch h
  | [a], _ => ⟨by simp [maxI], by simp [maxI]⟩
  | a :: b :: r, _ => by
    obtain ⟨h1, h2⟩ := maxI_mem (b :: r) rfl
    have e : maxI (a :: b :: r) = max a (maxI (b :: r)) := rfl
    rw [e]
    refine ⟨?_, fun y hy => ?_⟩
    · rcases Int.le_total a (maxI (b :: r)) with z | z
      · rw [Int.max_eq_right z]; exact List.mem_cons_of_mem _ h1
      · rw [Int.max_eq_left z]; exact List.mem_cons_self
    · rcases List.mem_cons.mp hy with z | z
      · subst z; exact Int.le_max_left _ _
      · exact Int.le_trans (h2 y z) (Int.le_max_right _ _)
theorem c_min (hc : X.calm = true) : CallR X (.builtin "min") (rB B1.min.ev X.K) := by
  refine CallR.imp ((call_min2 hc).or (cr_min hc)) fun vs H Q h => ?_
  obtain ⟨Z, O, ds, r, rp, _, _, he, hd⟩ := h
  simp only [B1.ev] at he
  split at he
  any_goals contradiction
  all_goals rename_i hb; cases hb
  · obtain ⟨v, u, rfl, a, b⟩ := rp.two
    obtain rfl := Option.some.inj he
    cases a; cases b
    exact .inl ⟨_, _, rfl, hd.int⟩
  · obtain ⟨v, rfl, a⟩ := rp.one
    obtain ⟨ns, hn, he⟩ := Option.bind_eq_some_iff.mp he
    split at he
    · contradiction
    · rename_i hz
      obtain rfl := Option.some.inj he
      obtain ⟨p, xs, rfl, hp, ra⟩ := a.lstRd
      obtain rfl := ra.ints hn
      have hz' : ns.isEmpty = false := by simpa using hz
      obtain ⟨m1, m2⟩ := minI_mem ns hz'
      refine .inr ⟨p, ns, rfl, hp, List.length_pos_of_mem m1, fun m hm hl => ?_⟩
      obtain rfl : m = minI ns := Int.le_antisymm (hl _ m1) (m2 _ hm)
      exact hd.int
theorem c_max (hc : X.calm = true) : CallR X (.builtin "max") (rB B1.max.ev X.K) := by
  refine CallR.imp ((call_max2 hc).or (cr_max hc)) fun vs H Q h => ?_
  obtain ⟨Z, O, ds, r, rp, _, _, he, hd⟩ := h
  simp only [B1.ev] at he
  split at he
  any_goals contradiction
  all_goals rename_i hb; cases hb
  · obtain ⟨v, u, rfl, a, b⟩ := rp.two
    obtain rfl := Option.some.inj he
    cases a; cases b
    exact .inl ⟨_, _, rfl, hd.int⟩
  · obtain ⟨v, rfl, a⟩ := rp.one
    obtain ⟨ns, hn, he⟩ := Option.bind_eq_some_iff.mp he
    split at he
    · contradiction
    · rename_i hz
      obtain rfl := Option.some.inj he
      obtain ⟨p, xs, rfl, hp, ra⟩ := a.lstRd
      obtain rfl := ra.ints hn
      have hz' : ns.isEmpty = false := by simpa using hz
      obtain ⟨m1, m2⟩ := maxI_mem ns hz'
      refine .inr ⟨p, ns, rfl, hp, List.length_pos_of_mem m1, fun m hm hl => ?_⟩
      obtain rfl : m = maxI ns := Int.le_antisymm (m2 _ hm) (hl _ m1)
      exact hd.int
theorem c_repr (hg : X.A.guards = some []) (hu : X.A.units + 64 < cLine) : CallR X (.builtin "repr") (rB B1.repr.ev X.K) := by
  have fin : ∀ {d : D} {r : D} {v : V} {O Z : AS} {H : Hp} {Q : VK} {pins : List (Addr × Obj)} {s : Shared} {σ : St} {u : Value} {a : Addr}, v = .ref a → Inv X pins σ H s → RelV v u → Rep X.K H Z O v d → (if repOk d.strip then some (D.str d.strip.shown) else none) = some r → Hand X.K H Z O r Q →
      wpAny (model X.prog X.w) X.A (call (.builtin "repr") [u]) (EP X pins σ Q) X.xe s := by
    intro d r v O Z H Q pins s σ u a hv I ru rd he hd
    subst hv
    cases ru
    split at he <;> try contradiction
    rename_i hk
    obtain rfl := Option.some.inj he
    unfold repOk at hk
    simp only [Bool.and_eq_true, decide_eq_true_eq, Bool.not_eq_true'] at hk
    obtain ⟨⟨⟨k1, k2⟩, k3⟩, k4⟩ := hk
    obtain ⟨as, r1⟩ := Dp.reads I d.strip (.ref a) (.ref a) (Rep.dp _ _ _ rd) rfl
    refine repr_of_reads' r1 k2 (fun z => by rw [k3] at z; cases z) hg (by omega) (fun _ _ e => e) (fun h' t tk hk => ?_) k4
    exact ⟨.str _, H, I.kept hk, ⟨t, rfl⟩, hd.str⟩
  intro pins s σ H xs us Q I rx h
  obtain ⟨Z, O, ds, r, rp, _, _, he, hd⟩ := h
  simp only [B1.ev] at he
  split at he
  any_goals contradiction
  all_goals rename_i hb; cases hb
  · obtain ⟨v, rfl, a⟩ := rp.one
    obtain ⟨u, rfl, ru⟩ := rx.one
    obtain ⟨p, xs, hv, hp, ra⟩ := a.lstRd
    exact fin hv I ru a he hd
  · obtain ⟨v, rfl, a⟩ := rp.one
    obtain ⟨u, rfl, ru⟩ := rx.one
    obtain ⟨p, xs, hv, hp, ra⟩ := a.tupSq
    exact fin hv I ru a he hd
theorem c_list : CallR X (.type "list") (rB B1.list.ev X.K) := by
  refine CallR.imp (call_list_of (X := X)) fun vs H Q h => ?_
  obtain ⟨Z, O, ds, r, rp, lo, lz, he, hd⟩ := h
  simp only [B1.ev] at he
  split at he
  any_goals contradiction
  all_goals rename_i hb; cases hb
  · obtain ⟨v, rfl, a⟩ := rp.one
    obtain ⟨p, xs, rfl, hp, ra⟩ := a.lstRd
    split at he
    · obtain rfl := Option.some.inj he
      exact ⟨p, xs, rfl, .inl hp, fun l hl => hd.lst ra lo lz hl⟩
    · contradiction
  · obtain ⟨v, rfl, a⟩ := rp.one
    obtain ⟨p, xs, rfl, hp, ra⟩ := a.tupSq
    split at he
    · obtain rfl := Option.some.inj he
      exact ⟨p, xs, rfl, .inr hp, fun l hl => hd.lst ra lo lz hl⟩
    · contradiction
theorem c_tuple : CallR X (.type "tuple") (rB B1.tuple.ev X.K) := by
  refine CallR.imp (call_tuple_of (X := X)) fun vs H Q h => ?_
  obtain ⟨Z, O, ds, r, rp, lo, lz, he, hd⟩ := h
  simp only [B1.ev] at he
  split at he
  any_goals contradiction
  all_goals rename_i hb; cases hb
  · obtain ⟨v, rfl, a⟩ := rp.one
    obtain ⟨p, xs, rfl, hp, ra⟩ := a.lstRd
    split at he
    · obtain rfl := Option.some.inj he
      exact ⟨p, xs, rfl, .inl ⟨hp, fun l hl => hd.tup ra hl⟩⟩
    · contradiction
  · obtain ⟨v, rfl, a⟩ := rp.one
    obtain rfl := Option.some.inj he
    obtain ⟨p, xs, rfl, hp, ra⟩ := a.tupSq
    exact ⟨p, xs, rfl, .inr ⟨hp, hd.rep a⟩⟩
theorem c_str : CallR X (.type "str") (rB B1.str.ev X.K) := by
  refine CallR.imp (call_str_int (X := X)) fun vs H Q h => ?_
  obtain ⟨Z, O, ds, r, rp, _, _, he, hd⟩ := h
  simp only [B1.ev] at he
  split at he
  any_goals contradiction
  all_goals rename_i hb; cases hb
  obtain ⟨v, rfl, a⟩ := rp.one
  split at he
  · rename_i hz
    obtain rfl := Option.some.inj he
    cases a
    exact ⟨_, rfl, of_decide_eq_true hz, hd.str⟩
  · contradiction
theorem c_gcd : CallR X (.builtin "math.gcd") (rB B1.gcd.ev X.K) := by
  refine CallR.imp (cr_gcd (X := X)) fun vs H Q h => ?_
  obtain ⟨Z, O, ds, r, rp, _, _, he, hd⟩ := h
  simp only [B1.ev] at he
  split at he
  any_goals contradiction
  all_goals rename_i hb; cases hb
  obtain ⟨v, u, rfl, a, b⟩ := rp.two
  obtain rfl := Option.some.inj he
  cases a; cases b
  exact ⟨_, _, rfl, hd.int⟩
def Ty.name : Ty → String
  | .int => "int"
  | .bool => "bool"
  | .str => "str"
  | .list => "list"
  | .tuple => "tuple"
def D.ty : D → String
  | .non => "NoneType"
  | .bl _ => "bool"
  | .int _ => "int"
  | .str _ => "str"
  | .tup _ => "tuple"
  | .lst _ _ => "list"
theorem kit_all (t : Ty) : ∀ d : D, kitB d.ty t.name = some (t.ev d) := by
  intro d
  cases t <;> cases d <;> (simp only [D.ty, Ty.name, Ty.ev]; decide +kernel)
theorem Rep.tyX {d : D} {v : V} (r : Rep K H Z O v d) : TyX K H v (.type d.ty) := by
  cases d with
  | non => cases r; exact .base .non
  | bl b => cases r; exact .base (.bl b)
  | int i => cases r; exact .base (.int i)
  | str x => cases r; exact .base (.str x)
  | tup ds =>
    obtain ⟨a, xs, rfl, hs, _⟩ := r.tupSq
    rcases hs with (h | ⟨o, h⟩) | ⟨o, its, n, h1, h2, _⟩
    · exact .base (.tup h)
    · exact .fTuple h
    · exact .kTuple h1 h2
  | lst o ds =>
    obtain ⟨a, xs, rfl, hs, _⟩ := r.lstRd
    rcases hs with (h | ⟨o, h⟩) | ⟨o, its, n, h1, h2, _⟩
    · exact .base (.lst h)
    · exact .base (.frz h)
    · exact .kList h1 h2
/-- isinstance(x, T): the type as the second value -/
theorem c_isi (t : Ty) : CallR X (.builtin "isinstance") (fun vs H Q => ∃ v, vs = [v, .ty t.name] ∧ rB (B1.isi t).ev X.K [v] H Q) := by
  refine CallR.imp (call_isi (X := X)) fun vs H Q h => ?_
  obtain ⟨v, rfl, Z, O, ds, r, rp, _, _, he, hd⟩ := h
  simp only [B1.ev] at he
  split at he
  any_goals contradiction
  all_goals rename_i hb; cases hb
  obtain ⟨v', e, a⟩ := rp.one
  cases e
  obtain rfl := Option.some.inj he
  exact ⟨v, .ty t.name, .type (D.ty _), .type t.name, t.ev _, rfl, .ty _, a.tyX, kit_ty (kit_all t _), hd.bl⟩
/-! ### items, slices -/
theorem atI_map {α β : Type} {xs : List α} {ys : List β} (hl : xs.length = ys.length) {R : α → β → Prop} (h : ∀ (j : Nat) (y : β), ys[j]? = some y → ∃ x, xs[j]? = some x ∧ R x y) {i : Int} {y : β} (e : atI ys i = some y) : ∃ x, atI xs i = some x ∧ R x y := by
  unfold atI at e ⊢
  rw [hl]
  cases q : ixN ys.length i with
  | none => rw [q] at e; cases e
  | some j =>
    rw [q] at e
    exact h j y e
def rIxD (K : PySem.W.Frag) : R2 := fun x y H Q => ∃ (Z P1 P2 : AS) (d e r : D), Rep K H Z P1 x d ∧ Rep K H Z P2 y e ∧ ixD d e = some r ∧ Hand K H Z (fun a => P1 a ∨ P2 a) r Q
theorem ix_D : IxR X (rIxD X.K) := by
  have i : ∀ x y H Q, rIxD X.K x y H Q → rIx X.K x y H Q := ?_
  · intro sl pos pins s σ H x y v u Q I rx ry h hs
    exact ix_seq (X := X) sl pos pins s σ H x y v u Q I rx ry (i _ _ _ _ h) hs
  intro x y H Q h
  obtain ⟨Z, P1, P2, d, e, r, ra, rb, he, hd⟩ := h
  unfold ixD at he
  split at he
  · obtain ⟨a, xs, rfl, ha, rl⟩ := ra.lstRd
    cases rb
    obtain ⟨w, hw, rw'⟩ := atI_map rl.len (fun j d e => RepL.get rl e) he
    exact .inl ⟨a, xs, _, w, rfl, rfl, ha, hw, hd.rep (rw'.wide fun _ h => .inl h)⟩
  · obtain ⟨a, xs, rfl, ha, rl⟩ := ra.tupSq
    cases rb
    obtain ⟨w, hw, rw'⟩ := atI_map rl.len (fun j d e => RepL.get rl e) he
    exact .inr (.inl ⟨a, xs, _, w, rfl, rfl, ha, hw, hd.rep (rw'.wide fun _ h => .inl h)⟩)
  · cases ra; cases rb
    split at he
    · rename_i hz
      obtain ⟨c, hc, rfl⟩ := Option.map_eq_some_iff.mp he
      exact .inr (.inr ⟨_, _, c, rfl, rfl, of_decide_eq_true hz, hc, hd.str⟩)
    · contradiction
  · contradiction
theorem RepL.cut {ds : List D} {xs : List V} (r : RepL K H Z O xs ds) (lo hi : Option Int) : RepL K H Z O (cutV xs lo hi) (cutD ds lo hi) := by
  unfold cutV cutD
  rw [r.len]
  exact (r.drop _).take _
theorem RepL.rev {ds : List D} : ∀ {O : AS} {vs : List V}, RepL K H Z O vs ds → RepL K H Z O vs.reverse ds.reverse := by
  induction ds with
  | nil => intro O vs r; cases r; exact .nil
  | cons d ds ih =>
    intro O vs r
    cases r with
    | cons h1 h2 h3 a b =>
      rename_i O1 O2 v vs'
      rw [List.reverse_cons, List.reverse_cons]
      exact (RepL.append (fun x y z => h3 x z y) (ih b) (.cons (O1 := O1) (O2 := A0) (fun _ z => z) (fun _ z => z.elim) (fun _ _ z => z.elim) a .nil)).wide fun x y => y.elim (h2 x) (h1 x)
theorem RepL.strs : ∀ {ds : List D} {O : AS} {vs : List V} {bs : List Str}, RepL K H Z O vs ds → allS ds = some bs → vs = bs.map V.str
  | [], _, _, _, .nil, h => by simp only [allS, Option.some.injEq] at h; subst h; rfl
  | .str b :: ds, _, _, _, .cons _ _ _ a t, h => by
    simp only [allS, Option.map_eq_some_iff] at h
    obtain ⟨bs, hb, rfl⟩ := h
    cases a
    rw [RepL.strs t hb]; rfl
  | .non :: ds, _, _, _, _, h => by simp [allS] at h
  | .bl _ :: ds, _, _, _, _, h => by simp [allS] at h
  | .int _ :: ds, _, _, _, _, h => by simp [allS] at h
  | .tup _ :: ds, _, _, _, _, h => by simp [allS] at h
  | .lst _ _ :: ds, _, _, _, _, h => by simp [allS] at h
end
end PD
set_option Elab.async false
set_option linter.all false
set_option maxRecDepth 100000
set_option maxHeartbeats 4000000
/-! PdF: readings by data; one rule for each form of expression. -/
namespace PD
open PySem L2
/-- what an exception is: its class by name, its fields -/
abbrev XcT := String → List D → Value → Option Addr → Hp → Prop
/-- what a result asks: K, W (the wish about exceptions), xc fixed -/
structure Wd where
  K : PySem.W.Frag
  W : WX
  xc : XcT
def RX (p : Wd) (q : Bool) (A : AS) (H : Hp) (Z : AS) (w : Ws) (σ : St) (c : String) (fs : List D) (ρ' : Ev) : Prop :=
  ∀ cls dx H' Z' w', p.xc c fs cls dx H' → S p.K Z' w' σ ρ' H' → Nx q A H Z w H' Z' w' → p.W cls dx σ H'
def RP (p : Wd) (q : Bool) (A : AS) (H : Hp) (Z : AS) (w : Ws) (σ : St) (r : R) (Q : VK) : Prop :=
  match r with
  | .ok d ρ' => ∀ v H' Z' w' O, S p.K Z' w' σ ρ' H' → Nx q A H Z w H' Z' w' → Tm q A H w H' Z' w' O → Rep p.K H' Z' O v d → Q v H'
  | .exc c fs ρ' => RX p q A H Z w σ c fs ρ'
  | .stuck => False
def Lnt (es : CL) (σ : St) (vs : List V) : Prop := ∀ i j, es.lndAt i = some j → ∃ v, vs[i]? = some v ∧ σ[j]? = some (some v)
def RPL (p : Wd) (es : CL) (q : Bool) (A : AS) (H : Hp) (Z : AS) (w : Ws) (σ : St) (r : RL) (Q : List V → Hp → Prop) : Prop :=
  match r with
  | .ok d ρ' => ∀ v H' Z' w' O, S p.K Z' w' σ ρ' H' → Nx q A H Z w H' Z' w' → Tm q A H w H' Z' w' O → RepL p.K H' Z' O v d → Lnt es σ v → Q v H'
  | .exc c fs ρ' => RX p q A H Z w σ c fs ρ'
  | .stuck => False
def RPT (p : Wd) (q : Bool) (A : AS) (H : Hp) (Z : AS) (w : Ws) (σ : St) (r : R) (Q : Bool → Hp → Prop) : Prop :=
  match r with
  | .ok (.bl b) ρ' => ∀ H' Z' w', S p.K Z' w' σ ρ' H' → Nx q A H Z w H' Z' w' → Q b H'
  | .ok _ _ => False
  | .exc c fs ρ' => RX p q A H Z w σ c fs ρ'
  | .stuck => False
def tE (p : Wd) (q : Bool) (f : Ev → R) : TE := fun σ H Q => ∃ ρ Z w, S p.K Z w σ ρ H ∧ RP p q A0 H Z w σ (f ρ) Q
def tT (p : Wd) (q : Bool) (f : Ev → R) : TT := fun σ H Q => ∃ ρ Z w, S p.K Z w σ ρ H ∧ RPT p q A0 H Z w σ (f ρ) Q
def tL (p : Wd) (es : CL) (q : Bool) (f : Ev → RL) : TA := fun σ H Q => ∃ ρ Z w, S p.K Z w σ ρ H ∧ RPL p es q A0 H Z w σ (f ρ) Q
section
variable {p : Wd} {q q1 q2 : Bool} {A O O1 : AS} {H H1 : Hp} {Z Z1 : AS} {w w1 : Ws} {σ : St} {ρ ρ1 : Ev} {Q T : VK}
theorem Nx.wk (n : Nx q1 A H Z w H1 Z1 w1) : Nx (q1 && q2) A H Z w H1 Z1 w1 :=
  ⟨fun a o h ha hq => n.keep a o h ha (hq.imp (fun z => by simp only [Bool.and_eq_true] at z; exact z.1) id), n.zin, n.znew, n.fresh⟩
/-- a step, then another to which the values at hand A and the new ones O1 are given -/
theorem Nx.then {H' : Hp} {Z' : AS} {w' : Ws} (n : Nx q1 A0 H Z w H1 Z1 w1) (t : Tm q1 A0 H w H1 Z1 w1 O1) (m : Nx q2 (fun a => A a ∨ O1 a) H1 Z1 w1 H' Z' w') : Nx (q1 && q2) A H Z w H' Z' w' :=
  Nx.trans (n.more fun _ h => h.elim) m fun a h => h.elim (fun z => .inr (.inr z)) fun z => (t.new a z).imp id fun y => y.elim .inl fun y => y.elim
theorem Tm.then {H' : Hp} {Z' : AS} {w' : Ws} (n : Nx q1 A0 H Z w H1 Z1 w1) (t : Tm q1 A0 H w H1 Z1 w1 O1) (m : Tm q2 (fun a => A a ∨ O1 a) H1 w1 H' Z' w' O) : Tm (q1 && q2) A H w H' Z' w' O :=
  Nx.tm (n.more fun _ h => h.elim) m fun a h => h.elim (fun z => .inr (.inr z)) fun z => (t.new a z).imp id fun y => y.elim .inl fun y => y.elim
theorem RX.later {c : String} {fs : List D} {ρ' : Ev} (n : Nx q1 A0 H Z w H1 Z1 w1) (t : Tm q1 A0 H w H1 Z1 w1 O1) (h : RX p (q1 && q2) A H Z w σ c fs ρ') : RX p q2 (fun a => A a ∨ O1 a) H1 Z1 w1 σ c fs ρ' :=
  fun cls dx H' Z' w' x s' m => h cls dx H' Z' w' x s' (n.then t m)
theorem RP.later {r : R} (n : Nx q1 A0 H Z w H1 Z1 w1) (t : Tm q1 A0 H w H1 Z1 w1 O1) (h : RP p (q1 && q2) A H Z w σ r Q) : RP p q2 (fun a => A a ∨ O1 a) H1 Z1 w1 σ r Q := by
  cases r with
  | ok d ρ' => exact fun v H' Z' w' O s' m tm rp => h v H' Z' w' O s' (n.then t m) (Tm.then n t tm) rp
  | exc c fs ρ' => exact RX.later n t h
  | stuck => exact h
theorem RPL.later {es : CL} {r : RL} {Q : List V → Hp → Prop} (n : Nx q1 A0 H Z w H1 Z1 w1) (t : Tm q1 A0 H w H1 Z1 w1 O1) (h : RPL p es (q1 && q2) A H Z w σ r Q) : RPL p es q2 (fun a => A a ∨ O1 a) H1 Z1 w1 σ r Q := by
  cases r with
  | ok d ρ' => exact fun v H' Z' w' O s' m tm rp ln => h v H' Z' w' O s' (n.then t m) (Tm.then n t tm) rp ln
  | exc c fs ρ' => exact RX.later n t h
  | stuck => exact h
theorem RPT.later {r : R} {Q : Bool → Hp → Prop} (n : Nx q1 A0 H Z w H1 Z1 w1) (t : Tm q1 A0 H w H1 Z1 w1 O1) (h : RPT p (q1 && q2) A H Z w σ r Q) : RPT p q2 (fun a => A a ∨ O1 a) H1 Z1 w1 σ r Q := by
  cases r with
  | ok d ρ' =>
    cases d with
    | bl b => exact fun H' Z' w' s' m => h H' Z' w' s' (n.then t m)
    | _ => exact h
  | exc c fs ρ' => exact RX.later n t h
  | stuck => exact h
/-- what stands behind the first step of a row -/
structure Mid (p : Wd) (q1 : Bool) (A O1 : AS) (H : Hp) (Z : AS) (w : Ws) (σ : St) (ρ1 : Ev) (H1 : Hp) (Z1 : AS) (w1 : Ws) : Prop where
  s : S p.K Z1 w1 σ ρ1 H1
  n : Nx q1 A0 H Z w H1 Z1 w1
  t : Tm q1 A0 H w H1 Z1 w1 O1
  a : Tn H1 Z1 w1 A
  d : ∀ x, A x → ¬ O1 x
theorem Mid.tn (m : Mid p q1 A O1 H Z w σ ρ1 H1 Z1 w1) : Tn H1 Z1 w1 O1 := m.t.tn
theorem Mid.all (m : Mid p q1 A O1 H Z w σ ρ1 H1 Z1 w1) : Tn H1 Z1 w1 (fun a => A a ∨ O1 a) := m.a.or m.tn
theorem Mid.mk' {H' : Hp} {Z' : AS} {w' : Ws} (tA : Tn H Z w A) (s' : S p.K Z' w' σ ρ1 H') (n : Nx q1 A0 H Z w H' Z' w') (t : Tm q1 A0 H w H' Z' w' O1) : Mid p q1 A O1 H Z w σ ρ1 H' Z' w' :=
  ⟨s', n, t, tA.go n fun _ _ z => z, t.dis tA⟩
theorem RX.wk {c : String} {fs : List D} {ρ' : Ev} (h : RX p (q1 && q2) A H Z w σ c fs ρ') : RX p q1 A0 H Z w σ c fs ρ' :=
  fun cls dx H' Z' w' x s' m => h cls dx H' Z' w' x s' ((m.more fun _ z => z.elim).wk)
theorem RP.seq {r : R} {f : D → Ev → R} (tA : Tn H Z w A) (h : RP p (q1 && q2) A H Z w σ (r.bind f) Q)
    (k : ∀ d ρ1 v H1 Z1 w1 O1, Mid p q1 A O1 H Z w σ ρ1 H1 Z1 w1 → Rep p.K H1 Z1 O1 v d → RP p q2 (fun a => A a ∨ O1 a) H1 Z1 w1 σ (f d ρ1) Q → T v H1) : RP p q1 A0 H Z w σ r T := by
  cases r with
  | ok d ρ' => exact fun v H' Z' w' O s' m tm rp => k d ρ' v H' Z' w' O (.mk' tA s' m tm) rp (RP.later m tm h)
  | exc c fs ρ' => exact RX.wk h
  | stuck => exact h
theorem RP.seqT {r : R} {f : D → Ev → R} {Q : Bool → Hp → Prop} (tA : Tn H Z w A) (h : RPT p (q1 && q2) A H Z w σ (r.bind f) Q)
    (k : ∀ d ρ1 v H1 Z1 w1 O1, Mid p q1 A O1 H Z w σ ρ1 H1 Z1 w1 → Rep p.K H1 Z1 O1 v d → RPT p q2 (fun a => A a ∨ O1 a) H1 Z1 w1 σ (f d ρ1) Q → T v H1) : RP p q1 A0 H Z w σ r T := by
  cases r with
  | ok d ρ' => exact fun v H' Z' w' O s' m tm rp => k d ρ' v H' Z' w' O (.mk' tA s' m tm) rp (RPT.later m tm h)
  | exc c fs ρ' => exact RX.wk h
  | stuck => exact h
theorem RP.seqL {es : CL} {r : R} {f : D → Ev → RL} {Q : List V → Hp → Prop} (tA : Tn H Z w A) (h : RPL p es (q1 && q2) A H Z w σ (r.thenL f) Q)
    (k : ∀ d ρ1 v H1 Z1 w1 O1, Mid p q1 A O1 H Z w σ ρ1 H1 Z1 w1 → Rep p.K H1 Z1 O1 v d → RPL p es q2 (fun a => A a ∨ O1 a) H1 Z1 w1 σ (f d ρ1) Q → T v H1) : RP p q1 A0 H Z w σ r T := by
  cases r with
  | ok d ρ' => exact fun v H' Z' w' O s' m tm rp => k d ρ' v H' Z' w' O (.mk' tA s' m tm) rp (RPL.later m tm h)
  | exc c fs ρ' => exact RX.wk h
  | stuck => exact h
theorem RPL.seq {es : CL} {r : RL} {f : List D → Ev → R} {T : List V → Hp → Prop} (tA : Tn H Z w A) (h : RP p (q1 && q2) A H Z w σ (r.bind f) Q)
    (k : ∀ d ρ1 v H1 Z1 w1 O1, Mid p q1 A O1 H Z w σ ρ1 H1 Z1 w1 → RepL p.K H1 Z1 O1 v d → Lnt es σ v → RP p q2 (fun a => A a ∨ O1 a) H1 Z1 w1 σ (f d ρ1) Q → T v H1) : RPL p es q1 A0 H Z w σ r T := by
  cases r with
  | ok d ρ' => exact fun v H' Z' w' O s' m tm rp ln => k d ρ' v H' Z' w' O (.mk' tA s' m tm) rp ln (RP.later m tm h)
  | exc c fs ρ' => exact RX.wk h
  | stuck => exact h
theorem RPL.seqL {es es' : CL} {r : RL} {f : List D → Ev → RL} {T Q : List V → Hp → Prop} (tA : Tn H Z w A) (h : RPL p es' (q1 && q2) A H Z w σ (r.thenL f) Q)
    (k : ∀ d ρ1 v H1 Z1 w1 O1, Mid p q1 A O1 H Z w σ ρ1 H1 Z1 w1 → RepL p.K H1 Z1 O1 v d → Lnt es σ v → RPL p es' q2 (fun a => A a ∨ O1 a) H1 Z1 w1 σ (f d ρ1) Q → T v H1) : RPL p es q1 A0 H Z w σ r T := by
  cases r with
  | ok d ρ' => exact fun v H' Z' w' O s' m tm rp ln => k d ρ' v H' Z' w' O (.mk' tA s' m tm) rp ln (RPL.later m tm h)
  | exc c fs ρ' => exact RX.wk h
  | stuck => exact h
/-- after a test -/
theorem RPT.seq {r : R} {f : Bool → Ev → R} {T : Bool → Hp → Prop} (h : RP p (q1 && q2) A H Z w σ (r.bind fun d ρ => match d with | .bl b => f b ρ | _ => .stuck) Q) (tA : Tn H Z w A)
    (k : ∀ b ρ1 H1 Z1 w1, Mid p q1 A A0 H Z w σ ρ1 H1 Z1 w1 → RP p q2 (fun a => A a ∨ A0 a) H1 Z1 w1 σ (f b ρ1) Q → T b H1) : RPT p q1 A0 H Z w σ r T := by
  cases r with
  | ok d ρ' =>
    cases d with
    | bl b =>
      intro H' Z' w' s' m
      have tm : Tm q1 A0 H w H' Z' w' A0 := ⟨fun _ z => z.elim, fun _ z => z.elim, fun _ z => z.elim, fun _ z => z.elim⟩
      exact k b ρ' H' Z' w' (.mk' tA s' m tm) (RP.later m tm h)
    | _ => exact h
  | exc c fs ρ' => exact RX.wk h
  | stuck => exact h
theorem RPT.seqT {r : R} {f : Bool → Ev → R} {T Q : Bool → Hp → Prop} (h : RPT p (q1 && q2) A H Z w σ (r.bind fun d ρ => match d with | .bl b => f b ρ | _ => .stuck) Q) (tA : Tn H Z w A)
    (k : ∀ b ρ1 H1 Z1 w1, Mid p q1 A A0 H Z w σ ρ1 H1 Z1 w1 → RPT p q2 (fun a => A a ∨ A0 a) H1 Z1 w1 σ (f b ρ1) Q → T b H1) : RPT p q1 A0 H Z w σ r T := by
  cases r with
  | ok d ρ' =>
    cases d with
    | bl b =>
      intro H' Z' w' s' m
      have tm : Tm q1 A0 H w H' Z' w' A0 := ⟨fun _ z => z.elim, fun _ z => z.elim, fun _ z => z.elim, fun _ z => z.elim⟩
      exact k b ρ' H' Z' w' (.mk' tA s' m tm) (RPT.later m tm h)
    | _ => exact h
  | exc c fs ρ' => exact RX.wk h
  | stuck => exact h
/-- the end of a row: an operation by values -/
theorem S.zne (s : S p.K Z w σ ρ H) : ∀ a, Z a → H a ≠ none := fun a z e => s.nz e z
theorem RP.hand {o : Option D} (s : S p.K Z w σ ρ H) (tA : Tn H Z w A) (h : RP p q A H Z w σ (R.of o ρ) Q) : ∃ r, o = some r ∧ Hand p.K H Z A r Q := by
  cases o with
  | none => exact h.elim
  | some r =>
    refine ⟨r, rfl, fun z H' O' sm rp ho => h z H' Z w O' (s.same sm) (.same sm) ⟨fun a x => ?_, fun a x => ?_, fun a x => ?_, fun a x => ?_⟩ rp⟩
    · exact (ho a x).elim (tA.free a) fun y => s.nw y.1
    · exact (ho a x).elim (tA.nz a) fun y => s.nz y.1
    · rcases ho a x with y | y
      · obtain ⟨xs, e⟩ := tA.lst a y
        exact ⟨xs, sm _ _ e⟩
      · exact y.2
    · exact (ho a x).elim (fun y => .inr (.inr y)) fun y => .inr (.inl y.1)
theorem RPT.hand {o : Option D} {Q : Bool → Hp → Prop} (s : S p.K Z w σ ρ H) (h : RPT p q A H Z w σ (R.of o ρ) Q) : ∃ b, o = some (.bl b) ∧ Q b H := by
  cases o with
  | none => exact h.elim
  | some r =>
    cases r with
    | bl b => exact ⟨b, rfl, h H Z w s .refl⟩
    | _ => exact h.elim
theorem Hand.mono {d : D} {K : PySem.W.Frag} {A' : AS} (h : Hand K H Z A d Q) (i : ∀ a, A' a → A a) : Hand K H Z A' d Q := fun z H' O' sm rp ho => h z H' O' sm rp fun a x => (ho a x).imp (i a) id
theorem RP.sub {r : R} {A2 : AS} (h : RP p q A H Z w σ r Q) (i : ∀ a, A2 a → A a) : RP p q A2 H Z w σ r Q := by
  cases r with
  | ok d ρ' => exact fun v H' Z' w' O s' m tm rp => h v H' Z' w' O s' (m.more i) (tm.more i) rp
  | exc c fs ρ' => exact fun cls dx H' Z' w' x s' m => h cls dx H' Z' w' x s' (m.more i)
  | stuck => exact h
theorem RPT.sub {r : R} {A2 : AS} {Q : Bool → Hp → Prop} (h : RPT p q A H Z w σ r Q) (i : ∀ a, A2 a → A a) : RPT p q A2 H Z w σ r Q := by
  cases r with
  | ok d ρ' =>
    cases d with
    | bl b => exact fun H' Z' w' s' m => h H' Z' w' s' (m.more i)
    | _ => exact h
  | exc c fs ρ' => exact fun cls dx H' Z' w' x s' m => h cls dx H' Z' w' x s' (m.more i)
  | stuck => exact h
theorem RPL.sub {es : CL} {r : RL} {A2 : AS} {Q : List V → Hp → Prop} (h : RPL p es q A H Z w σ r Q) (i : ∀ a, A2 a → A a) : RPL p es q A2 H Z w σ r Q := by
  cases r with
  | ok d ρ' => exact fun v H' Z' w' O s' m tm rp ln => h v H' Z' w' O s' (m.more i) (tm.more i) rp ln
  | exc c fs ρ' => exact fun cls dx H' Z' w' x s' m => h cls dx H' Z' w' x s' (m.more i)
  | stuck => exact h
theorem Nx.wk2 (n : Nx q2 A H Z w H1 Z1 w1) : Nx (q1 && q2) A H Z w H1 Z1 w1 :=
  ⟨fun a o h ha hq => n.keep a o h ha (hq.imp (fun z => by simp only [Bool.and_eq_true] at z; exact z.2) id), n.zin, n.znew, n.fresh⟩
theorem Tm.wk2 (n : Tm q2 A H w H1 Z1 w1 O) : Tm (q1 && q2) A H w H1 Z1 w1 O := ⟨n.free, n.nz, n.lst, fun a h => (n.new a h).imp (fun z => ⟨by rw [z.1, Bool.and_false], z.2⟩) id⟩
theorem Tm.wk1 (n : Tm q1 A H w H1 Z1 w1 O) : Tm (q1 && q2) A H w H1 Z1 w1 O := ⟨n.free, n.nz, n.lst, fun a h => (n.new a h).imp (fun z => ⟨by rw [z.1, Bool.false_and], z.2⟩) id⟩
theorem RP.wk1 {r : R} (h : RP p (q1 && q2) A H Z w σ r Q) : RP p q1 A H Z w σ r Q := by
  cases r with
  | ok d ρ' => exact fun v H' Z' w' O s' m tm rp => h v H' Z' w' O s' m.wk tm.wk1 rp
  | exc c fs ρ' => exact fun cls dx H' Z' w' x s' m => h cls dx H' Z' w' x s' m.wk
  | stuck => exact h
theorem RP.wk2 {r : R} (h : RP p (q1 && q2) A H Z w σ r Q) : RP p q2 A H Z w σ r Q := by
  cases r with
  | ok d ρ' => exact fun v H' Z' w' O s' m tm rp => h v H' Z' w' O s' m.wk2 tm.wk2 rp
  | exc c fs ρ' => exact fun cls dx H' Z' w' x s' m => h cls dx H' Z' w' x s' m.wk2
  | stuck => exact h
theorem RPT.wk1 {r : R} {Q : Bool → Hp → Prop} (h : RPT p (q1 && q2) A H Z w σ r Q) : RPT p q1 A H Z w σ r Q := by
  cases r with
  | ok d ρ' =>
    cases d with
    | bl b => exact fun H' Z' w' s' m => h H' Z' w' s' m.wk
    | _ => exact h
  | exc c fs ρ' => exact fun cls dx H' Z' w' x s' m => h cls dx H' Z' w' x s' m.wk
  | stuck => exact h
theorem RPT.wk2 {r : R} {Q : Bool → Hp → Prop} (h : RPT p (q1 && q2) A H Z w σ r Q) : RPT p q2 A H Z w σ r Q := by
  cases r with
  | ok d ρ' =>
    cases d with
    | bl b => exact fun H' Z' w' s' m => h H' Z' w' s' m.wk2
    | _ => exact h
  | exc c fs ρ' => exact fun cls dx H' Z' w' x s' m => h cls dx H' Z' w' x s' m.wk2
  | stuck => exact h
theorem Rep.mid {d : D} {v : V} (s : S p.K Z w σ ρ H) (m : Mid p q1 A O1 H Z w σ ρ1 H1 Z1 w1) {O : AS} (i : ∀ a, O a → A a) (tA : Tn H Z w A) (hr : (d.ret || q1) = true) (r : Rep p.K H Z O v d) : Rep p.K H1 Z1 O v d :=
  Rep.on s m.n (tA.sub i) (by simpa only [Bool.or_eq_true] using hr) r
end
section
variable {X : Cx} {p : Wd} {a b c : Expr} {qa qb qc : Bool} {fa fb fc : Ev → R} {pos : Pos}
theorem PE.imp {e : Expr} {t t' : TE} (h : PE X e t) (i : ∀ σ H Q, t' σ H Q → t σ H Q) : PE X e t' := ⟨fun pins s σ H Q I q => h.run pins s σ H Q I (i _ _ _ q)⟩
theorem PT.imp {e : Expr} {t t' : TT} (h : PT X e t) (i : ∀ σ H Q, t' σ H Q → t σ H Q) : PT X e t' := ⟨fun pins s σ H Q I q => h.run pins s σ H Q I (i _ _ _ q)⟩
theorem PA.imp {e : List Expr} {t t' : TA} (h : PA X e t) (i : ∀ σ H Q, t' σ H Q → t σ H Q) : PA X e t' := ⟨fun pos pins s σ H Q I q => h.run pos pins s σ H Q I (i _ _ _ q)⟩
def fop2 (o : O2) (qb : Bool) (fa fb : Ev → R) (ρ : Ev) : R := (fa ρ).bind fun x ρ1 => (fb ρ1).bind fun y ρ2 => if x.ret || qb then R.of (o.ev x y) ρ2 else .stuck
/-- two values, then an operation -/
theorem t_op2 {o : O2} {σ : St} {H : Hp} {Q : VK} (h : tE p (qa && qb) (fop2 o qb fa fb) σ H Q) : tOp (rD o p.K) (tE p qa fa) (tE p qb fb) σ H Q := by
  obtain ⟨ρ, Z, w, s, h⟩ := h
  refine ⟨ρ, Z, w, s, RP.seq Tn.zero h fun d ρ1 v H1 Z1 w1 O1 m1 r1 h1 => ?_⟩
  refine ⟨ρ1, Z1, w1, m1.s, RP.seq (q2 := true) m1.all (by rw [Bool.and_true]; exact h1) fun e ρ2 u H2 Z2 w2 O2 m2 r2 h2 => ?_⟩
  split at h2
  · rename_i hg
    obtain ⟨r, he, hd⟩ := RP.hand m2.s m2.all h2
    exact ⟨Z2, O1, O2, d, e, r, Rep.mid m1.s m2 (fun _ z => .inr z) m1.all hg r1, r2, fun a z => m2.d a (.inr z), m2.a.ne |> fun f a z => f a (.inr z), m2.tn.ne, m2.s.zne, he, hd.mono fun a z => z.elim (fun y => .inl (.inr y)) .inr⟩
  · exact h2.elim
theorem Rep.truV {K : PySem.W.Frag} {H : Hp} {Z O : AS} {v : V} {d : D} {b : Bool} (r : Rep K H Z O v d) (h : truth d = some b) : TruV K v H b := by
  cases d with
  | non => cases r; simp only [truth, Option.some.injEq] at h; exact h.symm
  | bl x => cases r; simp only [truth, Option.some.injEq] at h; exact h.symm
  | int x => cases r; simp only [truth, Option.some.injEq] at h; exact h.symm
  | str x =>
    cases r
    simp only [truth] at h
    split at h
    · rename_i hz
      simp only [Option.some.injEq] at h
      exact ⟨of_decide_eq_true hz, h.symm⟩
    · contradiction
  | tup ds =>
    obtain ⟨a, xs, rfl, hs, rl⟩ := r.tupSq
    simp only [truth, Option.some.injEq] at h
    refine .inr (.inl ⟨xs, hs, ?_⟩)
    rw [← h]
    cases rl <;> rfl
  | lst o ds =>
    obtain ⟨a, xs, rfl, hs, rl⟩ := r.lstRd
    simp only [truth, Option.some.injEq] at h
    refine .inl ⟨xs, hs, ?_⟩
    rw [← h]
    cases rl <;> rfl
theorem RPT.tr {r : R} {q : Bool} {A Z : AS} {H : Hp} {w : Ws} {σ : St} {Q : Bool → Hp → Prop} (h : RPT p q A H Z w σ (R.tr true r) Q) : RP p q A H Z w σ r (fun x H' => ∃ k, TruV p.K x H' k ∧ Q k H') := by
  cases r with
  | ok d ρ' =>
    intro v H' Z' w' O s' m tm rp
    have h : RPT p q A H Z w σ (R.of ((truth d).map .bl) ρ') Q := h
    cases e : truth d with
    | none => rw [e] at h; exact h.elim
    | some b =>
      rw [e] at h
      exact ⟨b, rp.truV e, h H' Z' w' s' m⟩
  | exc c fs ρ' => exact h
  | stuck => exact h
theorem RPT.trB {r : R} {q : Bool} {A Z : AS} {H : Hp} {w : Ws} {σ : St} {Q : Bool → Hp → Prop} (hb : ∀ d ρ', r = .ok d ρ' → ∃ b, d = .bl b) (h : RPT p q A H Z w σ (R.tr true r) Q) :
    RP p q A H Z w σ r (fun x H' => ∃ k, x = .bl k ∧ Q k H') := by
  cases r with
  | ok d ρ' =>
    intro v H' Z' w' O s' m tm rp
    obtain ⟨b, rfl⟩ := hb d ρ' rfl
    cases rp
    exact ⟨b, rfl, h H' Z' w' s' m⟩
  | exc c fs ρ' => exact h
  | stuck => exact h
def O2.cmp : O2 → Bool
  | .add => false
  | .sub => false
  | .mul => false
  | .fdiv => false
  | .mod => false
  | .pow => false
  | _ => true
theorem cmp_bl {o : O2} (ho : o.cmp = true) {x y r : D} (h : o.ev x y = some r) : ∃ b, r = .bl b := by
  cases o <;> simp only [O2.cmp] at ho <;> try contradiction
  all_goals
    unfold O2.ev at h
    split at h <;> first
      | contradiction
      | (simp only [Option.some.injEq] at h; exact ⟨_, h.symm⟩)
      | (simp only [Option.map_eq_some_iff] at h; obtain ⟨b, _, e⟩ := h; exact ⟨_, e.symm⟩)
theorem fop2_bl {o : O2} (ho : o.cmp = true) {ρ : Ev} {d : D} {ρ' : Ev} (h : fop2 o qb fa fb ρ = .ok d ρ') : ∃ b, d = .bl b := by
  unfold fop2 at h
  cases e1 : fa ρ with
  | ok x ρ1 =>
    rw [e1] at h
    simp only [R.bind] at h
    cases e2 : fb ρ1 with
    | ok y ρ2 =>
      rw [e2] at h
      simp only at h
      split at h
      · cases e3 : o.ev x y with
        | none => rw [e3] at h; cases h
        | some r =>
          rw [e3] at h
          cases h
          exact cmp_bl ho e3
      · cases h
    | exc c fs ρ2 => rw [e2] at h; cases h
    | stuck => rw [e2] at h; cases h
  | exc c fs ρ2 => rw [e1] at h; cases h
  | stuck => rw [e1] at h; cases h
theorem t_op2T {o : O2} {σ : St} {H : Hp} {Q : Bool → Hp → Prop} (ho : o.cmp = true) (h : tT p (qa && qb) (fun ρ => R.tr true (fop2 o qb fa fb ρ)) σ H Q) : tTest (tOp (rD o p.K) (tE p qa fa) (tE p qb fb)) σ H Q := by
  obtain ⟨ρ, Z, w, s, h⟩ := h
  exact t_op2 ⟨ρ, Z, w, s, RPT.trB (fun d ρ' e => fop2_bl ho e) h⟩
/-- a test that is its value's truth -/
theorem t_truth {f : Ev → R} {q : Bool} {σ : St} {H : Hp} {Q : Bool → Hp → Prop} (h : tT p q (fun ρ => R.tr true (f ρ)) σ H Q) : tE p q f σ H fun x H' => ∃ k, TruV p.K x H' k ∧ Q k H' := by
  obtain ⟨ρ, Z, w, s, h⟩ := h
  exact ⟨ρ, Z, w, s, RPT.tr h⟩
end
end PD
set_option Elab.async false
set_option linter.all false
set_option maxRecDepth 100000
set_option maxHeartbeats 4000000
/-! PdG: the text is what the small language says (a look that the kernel takes), what a context must bring. -/
namespace PD
open PySem L2
structure Sx where
  N : List Str
  sc : Scope
  fns : List Str
  gls : List Str
  bns : List Str
  gcd : Bool
  gd : Bool
def visB (sc : Scope) (x : Str) : Bool := match sc.names.lookup x with
  | some .local => true
  | some .cell => true
  | some .free => true
  | _ => false
def stoB (sc : Scope) (x : Str) : Bool := match sc.names.lookup x with
  | some .local => true
  | some .cell => true
  | _ => false
def glB (sc : Scope) (x : Str) : Bool := match sc.names.lookup x with
  | some .globalImplicit => true
  | _ => false
def dbg (x : Str) : Bool := !(x == ("__debug__" : Str)) && !(x == ("__classdict__" : Str)) && !(x == ("__name__" : Str))
def noStar : Expr → Bool
  | .Starred _ _ => false
  | _ => true
def noSet : Expr → Bool
  | .Set _ _ _ => false
  | _ => true
def noSlice : Expr → Bool
  | .Slice _ _ _ _ => false
  | _ => true
theorem star1 {e : Expr} {es : List Expr} {env : Env} (h : noStar e = true) : starEach (e :: es) env = (false, eval e env) :: starEach es env := by
  cases e <;> first | rfl | simp [noStar] at h
theorem starAny {env : Env} {pos : Pos} : ∀ {es : List Expr}, es.all noStar = true → (backTo pos (starEach es env)).any (·.1) = false
  | [], _ => rfl
  | e :: es, h => by
    simp only [List.all_cons, Bool.and_eq_true] at h
    rw [star1 h.1]
    show (false || (backTo pos (starEach es env)).any (·.1)) = false
    rw [starAny h.2]
    rfl
theorem starAll {env : Env} {pos : Pos} : ∀ {es : List Expr}, es.all noStar = true → (backTo pos (starEach es env)).all (fun x => !x.1) = true
  | [], _ => rfl
  | e :: es, h => by
    simp only [List.all_cons, Bool.and_eq_true] at h
    rw [star1 h.1]
    show (true && (backTo pos (starEach es env)).all (fun x => !x.1)) = true
    rw [starAll h.2]
    rfl
theorem noMark {op : CmpOp} {e : Expr} (h : noSet e = true) : behindInMarks op e = false := by
  cases e <;> first | rfl | simp [noSet] at h
theorem noFold {e : Expr} {env : Env} (h : noSet e = true) : ∀ x, foldedSetIterable e env x = pure x := by
  intro x
  cases e <;> first | rfl | simp [noSet] at h
theorem plainIx {e : Expr} (h : noSlice e = true) : PlainIx e := by
  cases e <;> first | exact fun _ _ => rfl | simp [noSlice] at h
def okLit : D → Const → Bool
  | .non, .none => true
  | .bl b, .bool c => b == c
  | .int i, .int j => decide (i = j)
  | .str x, .str y => decide (x = y)
  | _, _ => false
def okBin : O2 → Operator → Bool
  | .add, .Add => true
  | .sub, .Sub => true
  | .mul, .Mult => true
  | .fdiv, .FloorDiv => true
  | .mod, .Mod => true
  | .pow, .Pow => true
  | _, _ => false
def okCmp : O2 → CmpOp → Bool
  | .eq, .Eq => true
  | .ne, .NotEq => true
  | .lt, .Lt => true
  | .le, .LtE => true
  | .gt, .Gt => true
  | .ge, .GtE => true
  | .isin, .In => true
  | .notin, .NotIn => true
  | .is, .Is => true
  | .isnot, .IsNot => true
  | _, _ => false
theorem okBin_sem {o : O2} {op : Operator} (h : okBin o op = true) : o.sem = binaryOp op := by
  unfold okBin at h; split at h <;> first | rfl | contradiction
theorem okCmp_sem {o : O2} {op : CmpOp} (h : okCmp o op = true) : o.sem = compareOp op := by
  unfold okCmp at h; split at h <;> first | rfl | contradiction
theorem okCmp_cmp {o : O2} {op : CmpOp} (h : okCmp o op = true) : o.cmp = true := by
  unfold okCmp at h; split at h <;> first | rfl | contradiction
def B1.nm : B1 → Str
  | .len => "len"
  | .int => "int"
  | .abs => "abs"
  | .all => "all"
  | .any => "any"
  | .list => "list"
  | .tuple => "tuple"
  | .str => "str"
  | .sum => "sum"
  | .repr => "repr"
  | .min => "min"
  | .max => "max"
  | .gcd => "gcd"
  | .isi _ => "isinstance"
def M1.nm : M1 → Str
  | .append => "append"
  | .extend => "extend"
  | .pop => "pop"
  | .popAt => "pop"
  | .clear => "clear"
  | .insert => "insert"
def PM.nm : PM → Str
  | .index => "index"
  | .count => "count"
  | .split => "split"
  | .startswith => "startswith"
  | .removeprefix => "removeprefix"
def fewB (es : List Expr) : Bool := decide (es.length < 30)
/-- the block's own names at these slots of N -/
def ownN (N : List Str) (own : List Nat) : List (Str × Nat) := own.map fun i => (N.getD i "", i)
mutual
def okTg (s : Sx) : Tg → Expr → Bool
  | .nm i, .Name x _ => decide (s.N[i]? = some x) && stoB s.sc x
  | .tup ts, .Tuple es _ _ => okTgL s ts es && es.all noStar
  | _, _ => false
def okTgL (s : Sx) : TgL → List Expr → Bool
  | .nil, [] => true
  | .cons t ts, e :: es => okTg s t e && okTgL s ts es
  | _, _ => false
end
/-- no call without arguments by a name (super()) -/
def noC0 : Expr → Bool
  | .Call (.Name _ _) [] [] _ => false
  | _ => true
theorem attrBase {o : Expr} {n : Str} {env : Env} {w : Sem Value} (h : noC0 o = true) : attributeBase o n env w = w := by
  cases o with
  | Call f xs ks p =>
    cases f with
    | Name x q =>
      cases xs with
      | nil =>
        cases ks with
        | nil => simp [noC0] at h
        | cons _ _ => rfl
      | cons _ _ => rfl
    | _ => rfl
  | _ => rfl
def CE.noFz : CE → Bool
  | .fz _ => false
  | _ => true
/-- as a test: its truth behind it -/
def valE : Expr → Bool
  | .Call _ _ _ _ => true
  | .List _ _ => true
  | .Tuple _ _ _ => true
  | .ListComp _ _ _ _ => true
  | .Name _ _ => true
  | .Subscript _ _ _ => true
  | .BinOp _ _ _ _ => true
  | .Constant _ _ _ => true
  | _ => false
def isTup : Expr → Bool
  | .Tuple _ _ _ => true
  | _ => false
mutual
def okE (s : Sx) : CE → Expr → Bool
  | .lit d, x => (match x with
    | .Constant c _ _ => okLit d c
    | _ => false)
  | .var _ i, x => (match x with
    | .Name x _ => decide (s.N[i]? = some x) && visB s.sc x && dbg x
    | _ => false)
  | .glb i, x => (match x with
    | .Name x _ => decide (s.gls[i]? = some x) && glB s.sc x && dbg x
    | _ => false)
  | .op2 o a b, x => (match x with
    | .BinOp l op r _ => okBin o op && okE s a l && okE s b r
    | .Compare l [op] [r] _ => okCmp o op && okE s a l && okE s b r && noSet r
    | _ => false)
  | .op1 o a, x => (match x with
    | .UnaryOp op x _ => (match o, op with
      | .neg, .USub => true
      | .not, .Not => true
      | _, _ => false) && okE s a x
    | _ => false)
  | .con es, x => (match x with
    | .BoolOp .And xs _ => okL s es xs && !xs.isEmpty
    | _ => false)
  | .dis es, x => (match x with
    | .BoolOp .Or xs _ => okL s es xs && !xs.isEmpty
    | _ => false)
  | .ite c a b, x => (match x with
    | .IfExp x y z _ => okE s c x && okE s a y && okE s b z
    | _ => false)
  | .chn o o' a b c, x => (match x with
    | .Compare l [op, op'] [m, r] _ => okCmp o op && okCmp o' op' && okE s a l && okE s b m && okE s c r && noSet m && noSet r
    | _ => false)
  | .idx a b, x => (match x with
    | .Subscript x y _ => okE s a x && okE s b y && noSlice y
    | _ => false)
  | .sl a lo hi, x => (match x with
    | .Subscript x (.Slice l h none _) _ => okE s a x && okO s lo l && okO s hi h
    | _ => false)
  | .tup es, x => (match x with
    | .Tuple xs _ _ => okL s es xs && xs.all noStar
    | _ => false)
  | .lst es, x => (match x with
    | .List xs _ => okL s es xs && xs.all noStar
    | _ => false)
  | .cal i es, x => (match x with
    | .Call (.Name x _) xs [] _ => decide (s.fns[i]? = some x) && glB s.sc x && dbg x && okL s es xs && xs.all noStar && !xs.isEmpty
    | _ => false)
  | .lnd _, _ => false
  | .blt b es, x => (match x with
    | .Call (.Name x _) xs [] _ => decide (x = b.nm) && glB s.sc x && (match b with
      | .gcd => s.gcd && okL s es xs && xs.all noStar && !xs.isEmpty
      | .isi t => (match es, xs with
        | .cons (.lnd _) .nil, _ => false
        | .cons _ .nil, [y, .Name z _] => s.bns.contains x && decide (z = Str.ofString t.name) && s.bns.contains z && glB s.sc z && okL s es [y] && noStar y
        | _, _ => false)
      | .repr => s.gd && s.bns.contains x && okL s es xs && xs.all noStar && !xs.isEmpty
      | _ => s.bns.contains x && okL s es xs && xs.all noStar && !xs.isEmpty)
    | _ => false)
  | .lc own tg it cs e, x => (match x with
    | .ListComp elt [⟨t, iter, ifs, 0⟩] scope _ => blkC s.N s.sc scope (ownN s.N own) && tg.slots.all own.contains && okI s it iter t && noSet iter && okTg { s with sc := scope } tg t && okL { s with sc := scope } cs ifs && okE { s with sc := scope } e elt
    | _ => false)
  | .mth m i es, x => (match x with
    | .Call (.Attribute (.Name x _) nm ap) xs [] cp => decide (s.N[i]? = some x) && visB s.sc x && dbg x && decide (nm = m.nm) && okL s es xs && xs.all noStar && fewB xs && (ap.endLine == cp.line) && (x != ("super" : Str))
    | _ => false)
  | .mti m i j es, x => (match x with
    | .Call (.Attribute (.Subscript (.Name x _) (.Constant (.int k) _ _) _) nm ap) xs [] cp => decide (s.N[i]? = some x) && visB s.sc x && dbg x && decide (k = (j : Int)) && decide (nm = m.nm) && okL s es xs && xs.all noStar && fewB xs && (ap.endLine == cp.line) && !xs.isEmpty
    | _ => false)
  | .fz a, x => valE x && a.noFz && okE s a x
  | .rev a, x => (match x with
    | .Subscript x (.Slice none none (some (.UnaryOp .USub (.Constant (.int 1) _ _) _)) _) _ => okE s a x
    | _ => false)
  | .jn z a, x => (match x with
    | .Call (.Attribute (.Constant (.str z') _ _) nm ap) [y] [] cp => decide (z = z') && decide (nm = ("join" : Str)) && okE s a y && noStar y && (ap.endLine == cp.line)
    | _ => false)
  | .pm m a es, x => (match x with
    | .Call (.Attribute o nm ap) xs [] cp => decide (nm = m.nm) && noC0 o && okE s a o && okL s es xs && xs.all noStar && fewB xs && (ap.endLine == cp.line) && !xs.isEmpty
    | _ => false)
  | .bor _ a, x => noStar x && a.noFz && okE s a x
  | .fst es, x => (match x with
    | .JoinedStr (v :: v2 :: vs) _ => okFs s es (v :: v2 :: vs)
    | .JoinedStr [.FormattedValue y c none _] _ => decide (c = -1) && okFs s es [.FormattedValue y c none ⟨0, 0, 0, 0⟩]
    | _ => false)
def okFs (s : Sx) : CL → List Expr → Bool
  | .nil, [] => true
  | .cons e es, .FormattedValue y c none _ :: vs => decide (c = -1) && okE s e y && okFs s es vs
  | .cons (.lit (.str z)) es, .Constant (.str z') _ _ :: vs => decide (z = z') && okFs s es vs
  | _, _ => false
def okO (s : Sx) : CO → Option Expr → Bool
  | .none, x => x.isNone
  | .some e, x => (match x with
    | some x => okE s e x
    | none => false)
/-- an argument list: a lent slot is a name -/
def okL (s : Sx) : CL → List Expr → Bool
  | .nil, xs => xs.isEmpty
  | .cons e es, xs => (match xs with
    | x :: xs => (match e with
      | .lnd i => (match x with
        | .Name x _ => decide (s.N[i]? = some x) && visB s.sc x && dbg x
        | _ => false)
      | e => okE s e x) && okL s es xs
    | [] => false)
def okI (s : Sx) : CI → Expr → Expr → Bool
  | .seq e, x, _ => okE s e x
  | .rng1 a, x, _ => (match x with
    | .Call (.Name f _) [x] [] _ => decide (f = ("range" : Str)) && s.bns.contains f && glB s.sc f && okE s a x && noStar x
    | _ => false)
  | .rng2 a b, x, _ => (match x with
    | .Call (.Name f _) [x, y] [] _ => decide (f = ("range" : Str)) && s.bns.contains f && glB s.sc f && okE s a x && noStar x && okE s b y && noStar y
    | _ => false)
  | .zip a b, x, t => (match x with
    | .Call (.Name f _) [x, y] [] _ => decide (f = ("zip" : Str)) && s.bns.contains f && glB s.sc f && okE s a x && noStar x && okE s b y && noStar y && isTup t
    | _ => false)
  | .enm a, x, t => (match x with
    | .Call (.Name f _) [x] [] _ => decide (f = ("enumerate" : Str)) && s.bns.contains f && glB s.sc f && okE s a x && noStar x && isTup t
    | _ => false)
  | .zip3 a b c, x, t => (match x with
    | .Call (.Name f _) [x, y, z] [] _ => decide (f = ("zip" : Str)) && s.bns.contains f && glB s.sc f && okE s a x && noStar x && okE s b y && noStar y && okE s c z && noStar z && isTup t
    | _ => false)
end
/-- what a def promises: by data -/
def spOf (K : PySem.W.Frag) (xc : XcT) (fk : List Nat) (φ : List D → RF) : Sp := fun vs H Q E => ∃ (ds : List D) (Z O : AS), RepL K H Z O vs ds ∧ D.retL ds = true ∧ (∀ a, O a → (∃ xs, H a = some (.lst xs)) ∧ ¬ Z a) ∧ (∀ a, Z a → ∃ xs, H a = some (.lst xs)) ∧
  match φ ds with
  | .ok d out => ∀ v us H' Z' O1 O2, Rep K H' Z' O1 v d → RepL K H' Z' O2 us out → d.ret = true → D.retL out = true → us = fk.map (fun i => vs.getD i .non) → out.length = fk.length → (∀ a, O1 a → ¬ O2 a) →
      (∀ a, O1 a ∨ O2 a → (O a ∨ H a = none) ∧ (∃ xs, H' a = some (.lst xs)) ∧ ¬ Z' a) → (∀ a, Z' a → ∃ xs, H' a = some (.lst xs)) →
      (∀ a o, H a = some o → ¬ O a → H' a = some o) → (∀ a, Z a → Z' a) → (∀ a, Z' a → Z a ∨ O a ∨ H a = none) → Q v H'
  | .exc c fs => ∀ (cls : Value) (dx : Option Addr) (H' : Hp) (Z' : AS), xc c fs cls dx H' → (∀ a, Z' a → ∃ xs, H' a = some (.lst xs)) → (∀ a o, H a = some o → ¬ O a → H' a = some o) → (∀ a, Z a → Z' a) → (∀ a, Z' a → Z a ∨ O a ∨ H a = none) → E cls dx H'
  | .stuck => False
/-- a callee, by its name -/
def FnFact (X : Cx) (xc : XcT) (x : Str) (φ : List D → RF) (fk : List Nat) : Prop :=
  ∃ (k : Nat) (f : Addr) (fd : FuncData) (ps : List Str), FnOk X.prog X.w X.K X.mg X.base (L2.CX X.prog X.w) k f fd ps (spOf X.K xc fk φ) ∧ Room k X.A ∧ X.mg x = some (.ref f) ∧ PySem.W.keepIn X.K (.ref f) = true ∧ Binds X.K fd ps []
structure Ok (X : Cx) (p : Wd) (s : Sx) (g : Gs) : Prop where
  K : p.K = X.K
  calm : X.calm = true
  N : X.N = s.N
  nd : s.N.Nodup
  vis : ∀ x, visB s.sc x = true → Vis X.env.scope x
  gl : ∀ x, glB s.sc x = true → Gl X x
  sto : ∀ x, stoB s.sc x = true → Loc X.env.scope x ∧ (X.fn x = true ∨ X.env.scope.names.lookup x = some .local)
  cf : ∀ x, (s.sc.names.lookup x = some .cell ∨ s.sc.names.lookup x = some .free) → X.env.scope.names.lookup x = some .cell ∨ X.env.scope.names.lookup x = some .free
  lc : ∀ x, s.sc.names.lookup x = some .local → X.env.scope.names.lookup x = some .local
  hu : X.A.units + 66 < cLine
  bn : ∀ x, s.bns.contains x = true → X.mg x = none
  gcd : s.gcd = true → X.mg "gcd" = some (.builtin "math.gcd")
  gd : s.gd = true → X.A.guards = some []
  gls : ∀ i x, s.gls[i]? = some x → ∃ d v u, g.gl i = some d ∧ d.fz = true ∧ X.mg x = some u ∧ RelV v u ∧ ∀ H Z, Rep X.K H Z A0 v d
  fn : ∀ i x, s.fns[i]? = some x → FnFact X p.xc x (g.fn i) (g.fk i)
  tk : Takes X p.W
  kind : X.env.scope.kind = .function
  po : PassesOwn (model X.prog X.w) X.A X.env X.xe
end PD
set_option Elab.async false
set_option linter.all false
set_option maxRecDepth 100000
set_option maxHeartbeats 4000000
/-! PdH: how the state changes; the forms without a list of parts. -/
namespace PD
open PySem L2
open Classical in
/-- the slot i now owns O -/
noncomputable def wput (w : Ws) (i : Nat) (O : AS) : Ws := fun a => if O a then some i else if w a = some i then none else w a
section
variable {K : PySem.W.Frag} {H H' : Hp} {Z Z' : AS} {w w' : Ws} {O A : AS} {σ σ' : St} {ρ : Ev} {q : Bool} {i : Nat}
theorem wput_i {a : Addr} : wput w i O a = some i ↔ O a := by
  unfold wput
  by_cases h : O a
  · simp [h]
  · simp only [h, if_false, iff_false]
    split
    · exact fun z => nomatch z
    · assumption
theorem wput_j {a : Addr} {j : Nat} (hj : j ≠ i) : wput w i O a = some j ↔ (¬ O a ∧ w a = some j) := by
  unfold wput
  by_cases h : O a
  · simp only [h, if_true, not_true, false_and, iff_false]
    exact fun z => hj (Option.some.inj z).symm
  · simp only [h, if_false, not_false_eq_true, true_and]
    split
    · rename_i e
      constructor
      · exact fun z => nomatch z
      · intro z
        rw [e] at z
        exact absurd (Option.some.inj z).symm hj
    · rfl
theorem wput_own {a : Addr} (h : wput w i O a ≠ none) : w a ≠ none ∨ O a := by
  unfold wput at h
  by_cases x : O a
  · exact .inr x
  · simp only [x, if_false] at h
    split at h
    · exact absurd rfl h
    · exact .inl h
/-- a slot gets a value at hand -/
theorem S.gen {d : D} {v : V} (s : S K Z w σ ρ H) (hi : i < ρ.length) (h1 : σ'[i]? = some (some v)) (h2 : ∀ j, j ≠ i → σ'[j]? = σ[j]?) (h3 : σ'.length = σ.length) (r : Rep K H Z O v d) (hr : d.ret = true) (t : Tn H Z w O) :
    S K Z (wput w i O) σ' (ρ.set i (some d)) H := by
  refine ⟨by rw [h3, s.len, List.length_set], fun j e hj => ?_, s.zok, fun a h => ?_⟩
  · by_cases e1 : j = i
    · subst e1
      rw [List.getElem?_set_self hi] at hj
      obtain rfl := Option.some.inj (Option.some.inj hj)
      exact ⟨hr, v, h1, r.wide fun a h => wput_i.mpr h⟩
    · rw [List.getElem?_set_ne (Ne.symm e1)] at hj
      obtain ⟨g1, u, g2, g3⟩ := s.rep j e hj
      refine ⟨g1, u, by rw [h2 j e1]; exact g2, g3.wide fun a h => (wput_j e1).mpr ⟨fun z => ?_, h⟩⟩
      rw [t.free a z] at h
      cases h
  · rcases wput_own h with z | z
    · exact s.wok a z
    · exact ⟨t.lst a z, t.nz a z⟩
theorem S.put {d : D} {v : V} (s : S K Z w σ ρ H) (hi : i < ρ.length) (h1 : σ[i]? = some (some v)) (r : Rep K H Z O v d) (hr : d.ret = true) (t : Tn H Z w O) : S K Z (wput w i O) σ (ρ.set i (some d)) H :=
  s.gen hi h1 (fun _ _ => rfl) rfl r hr t
theorem S.store {d : D} {v : V} (s : S K Z w σ ρ H) (hi : i < ρ.length) (r : Rep K H Z O v d) (hr : d.ret = true) (t : Tn H Z w O) : S K Z (wput w i O) (σ.set i (some v)) (ρ.set i (some d)) H :=
  s.gen hi (List.getElem?_set_self (by rw [s.len]; exact hi)) (fun j hj => List.getElem?_set_ne (Ne.symm hj)) (by simp) r hr t
/-- a slot is forgotten -/
theorem S.drop (s : S K Z w σ ρ H) (h2 : ∀ j, j ≠ i → σ'[j]? = σ[j]?) (h3 : σ'.length = σ.length) : S K Z (wput w i A0) σ' (ρ.set i none) H := by
  refine ⟨by rw [h3, s.len, List.length_set], fun j e hj => ?_, s.zok, fun a h => ?_⟩
  · by_cases e1 : j = i
    · subst e1
      by_cases hi : j < ρ.length
      · rw [List.getElem?_set_self hi] at hj
        cases Option.some.inj hj
      · rw [List.getElem?_eq_none (by simpa using hi)] at hj
        cases hj
    · rw [List.getElem?_set_ne (Ne.symm e1)] at hj
      obtain ⟨g1, u, g2, g3⟩ := s.rep j e hj
      exact ⟨g1, u, by rw [h2 j e1]; exact g2, g3.wide fun a h => (wput_j e1).mpr ⟨id, h⟩⟩
  · rcases wput_own h with z | z
    · exact s.wok a z
    · exact z.elim
theorem S.lt {d : D} (s : S K Z w σ ρ H) (h : ρ[i]? = some (some d)) : i < ρ.length := (List.getElem?_eq_some_iff.mp h).1
/-- what slot i owns, as a value at hand once the slot is forgotten -/
theorem S.tnOf (s : S K Z w σ ρ H) : Tn H Z (wput w i A0) (fun a => w a = some i) := by
  have wn : ∀ a, w a = some i → w a ≠ none := fun a h => by rw [h]; exact fun z => nomatch z
  refine ⟨fun a h => ?_, fun a h => (s.wok a (wn a h)).2, fun a h => (s.wok a (wn a h)).1⟩
  unfold wput
  simp [A0, h]
/-- freezing slot i -/
theorem S.frz {d : D} {v : V} (s : S K Z w σ ρ H) (hi : ρ[i]? = some (some d)) (hv : σ[i]? = some (some v)) (r : Rep K H Z (fun a => w a = some i) v d) (hr : d.ret = true) :
    S K (fun a => Z a ∨ w a = some i) (wput w i A0) σ (ρ.set i (some d.freeze)) H := by
  have hlt := s.lt hi
  have wn : ∀ a, w a = some i → w a ≠ none := fun a h => by rw [h]; exact fun z => nomatch z
  refine ⟨by rw [s.len, List.length_set], fun j e hj => ?_, fun a h => h.elim (s.zok a) fun z => (s.wok a (wn a z)).1, fun a h => ?_⟩
  · by_cases e1 : j = i
    · subst e1
      rw [List.getElem?_set_self hlt] at hj
      obtain rfl := Option.some.inj (Option.some.inj hj)
      exact ⟨fz_ret _ (freeze_fz d), v, hv, Rep.freeze d _ _ _ hr (fun a h => .inr h) (fun a h => .inl h) r⟩
    · rw [List.getElem?_set_ne (Ne.symm e1)] at hj
      obtain ⟨g1, u, g2, g3⟩ := s.rep j e hj
      refine ⟨g1, u, g2, ?_⟩
      have g4 := Rep.go (Z' := fun a => Z a ∨ w a = some i) (E := fun a => w a = some i) (M := fun _ => False) ⟨fun a o h _ => h, fun a h => .inl h, fun a h => h.elim .inl fun z => .inr (.inl z)⟩ (fun _ z => z.elim) (fun a h z => (s.wok a (wn a z)).2 h) (fun _ _ z => z.elim) e _ u (fun a h z => by rw [h] at z; exact e1 (Option.some.inj z)) (.inl g1) g3
      exact g4.wide fun a h => (wput_j e1).mpr ⟨id, h⟩
  · refine ⟨((wput_own h).elim (fun z => (s.wok a z).1) fun z => z.elim), fun z => ?_⟩
    rcases z with z | z
    · exact (wput_own h).elim (fun y => (s.wok a y).2 z) fun y => y.elim
    · unfold wput at h
      simp [A0, z] at h
end
section
variable {X : Cx} {p : Wd} {s : Sx} {g : Gs} {e : Expr} {pos : Pos}
theorem Ok.has (ok : Ok X p s g) {i : Nat} {x : Str} (h : decide (s.N[i]? = some x) = true) : X.N[i]? = some x := by
  rw [ok.N]; exact of_decide_eq_true h
theorem dbg1 {x : Str} (h : dbg x = true) : (x == ("__debug__" : Str)) = false ∧ (x == ("__classdict__" : Str)) = false ∧ x ≠ "__name__" := by
  unfold dbg at h
  simp only [Bool.and_eq_true, Bool.not_eq_true'] at h
  exact ⟨h.1.1, h.1.2, fun z => by rw [z] at h; simp at h⟩
/-- a value gives its test -/
theorem pt_of {f : Ev → R} {q : Bool} (ok : Ok X p s g) (h : PE X e (tE p q f)) (he : ∀ whole, isTrue e X.env whole = (do let v ← whole; standAt e.pos; holding [v] (truthy v))) : PT X e (tT p q fun ρ => R.tr true (f ρ)) :=
  PT.imp (pt_truth h he) fun σ H Q q => by
    have z := t_truth q
    rw [ok.K] at z
    exact z
theorem e_lit {d : D} {c : Const} {k : Nat} (h : okLit d c = true) : PE X (.Constant c k pos) (tE p true fun ρ => .ok d ρ) := by
  have fin : ∀ {v : V} {σ H Q}, (∀ H Z, Rep p.K H Z A0 v d) → tE p true (fun ρ => .ok d ρ) σ H Q → Q v H := fun {v σ H Q} r q => by
    obtain ⟨ρ, Z, w, st, q⟩ := q
    exact q v H Z w A0 st .refl ⟨fun _ z => z.elim, fun _ z => z.elim, fun _ z => z.elim, fun _ z => z.elim⟩ (r H Z)
  cases d <;> cases c <;> simp only [okLit] at h <;> try contradiction
  · exact PE.imp pe_non fun σ H Q q => fin (v := .non) (fun _ _ => .non) q
  · obtain rfl := beq_iff_eq.mp h
    exact PE.imp pe_bl fun σ H Q q => fin (v := .bl _) (fun _ _ => .bl) q
  · obtain rfl := of_decide_eq_true h
    exact PE.imp pe_int fun σ H Q q => fin (v := .int _) (fun _ _ => .int) q
  · obtain rfl := of_decide_eq_true h
    exact PE.imp pe_str fun σ H Q q => fin (v := .str _) (fun _ _ => .str) q
theorem e_var {m : Md} {i : Nat} {x : Str} (ok : Ok X p s g) (h1 : decide (s.N[i]? = some x) = true) (h2 : visB s.sc x = true) (h3 : dbg x = true) : PE X (.Name x pos) (tE p (CE.var m i).quiet ((CE.var m i).ev g false)) := by
  refine PE.imp (pe_var (ok.has h1) (ok.vis x h2) (dbg1 h3).1 (dbg1 h3).2.1) fun σ H Q q => ?_
  obtain ⟨ρ, Z, w, st, q⟩ := q
  have tm0 : ∀ {q' H' Z' w'}, Tm q' A0 H w H' Z' w' A0 := fun {q' H' Z' w'} => ⟨fun _ z => z.elim, fun _ z => z.elim, fun _ z => z.elim, fun _ z => z.elim⟩
  cases m with
  | frz =>
    simp only [CE.ev, R.tr, Bool.false_eq_true, if_false] at q
    split at q
    · rename_i d hd
      obtain ⟨hr, v, hv, r⟩ := st.rep i d hd
      refine ⟨v, hv, q v H _ _ A0 (st.frz hd hv r hr) ⟨fun a o h _ _ => h, fun a h => .inl h, fun a h => ?_, fun a h => ?_⟩ tm0 (Rep.freeze d _ _ _ hr (fun a h => .inr h) (fun a h => .inl h) r)⟩
      · exact h.elim .inl fun z => .inr (.inl (by rw [z]; exact fun y => nomatch y))
      · exact (wput_own h).elim .inl fun z => z.elim
    · exact q.elim
  | mov =>
    simp only [CE.ev, R.tr, Bool.false_eq_true, if_false] at q
    split at q
    · rename_i d hd
      split at q
      · exact q.elim
      · obtain ⟨hr, v, hv, r⟩ := st.rep i d hd
        have tn := st.tnOf (i := i)
        refine ⟨v, hv, q v H _ _ _ (st.drop (fun _ _ => rfl) rfl) ⟨fun a o h _ _ => h, fun a h => h, fun a h => .inl h, fun a h => (wput_own h).elim .inl fun z => z.elim⟩ ⟨tn.free, tn.nz, tn.lst, fun a h => .inl ⟨rfl, by rw [h]; exact fun y => nomatch y⟩⟩ r⟩
    · exact q.elim
  | brw =>
    simp only [CE.ev, R.tr, Bool.false_eq_true, if_false] at q
    split at q
    · rename_i d hd
      obtain ⟨hr, v, hv, r⟩ := st.rep i d hd
      exact ⟨v, hv, q v H Z w A0 st .refl tm0 (Rep.borrow d _ _ _ hr r)⟩
    · exact q.elim
theorem e_glb {i : Nat} {x : Str} (ok : Ok X p s g) (h1 : decide (s.gls[i]? = some x) = true) (h2 : glB s.sc x = true) (h3 : dbg x = true) : PE X (.Name x pos) (tE p true ((CE.glb i).ev g false)) := by
  obtain ⟨d, v, u, e1, e2, e3, e4, e5⟩ := ok.gls i x (of_decide_eq_true h1)
  refine PE.imp (pe_glob (ok.gl x h2) e3 e4 (dbg1 h3).1) fun σ H Q q => ?_
  obtain ⟨ρ, Z, w, st, q⟩ := q
  simp only [CE.ev, R.tr, Bool.false_eq_true, if_false, e1] at q
  exact q v H Z w A0 st .refl ⟨fun _ z => z.elim, fun _ z => z.elim, fun _ z => z.elim, fun _ z => z.elim⟩ (by rw [ok.K]; exact e5 H Z)
theorem e_bin {o : O2} {op : Operator} {a b : CE} {l r : Expr} (ok : Ok X p s g) (h : okBin o op = true) (ha : PE X l (tE p a.quiet (a.ev g false))) (hb : PE X r (tE p b.quiet (b.ev g false))) :
    PE X (.BinOp l op r pos) (tE p (CE.op2 o a b).quiet ((CE.op2 o a b).ev g false)) := by
  have ho := o2_ok ok.hu o
  rw [okBin_sem h] at ho
  refine PE.imp (pe_op ho ha hb) fun σ H Q q => ?_
  rw [← ok.K]
  exact t_op2 q
theorem e_cmp {o : O2} {op : CmpOp} {a b : CE} {l r : Expr} (ok : Ok X p s g) (h : okCmp o op = true) (hm : noSet r = true) (ha : PE X l (tE p a.quiet (a.ev g false))) (hb : PE X r (tE p b.quiet (b.ev g false))) :
    PE X (.Compare l [op] [r] pos) (tE p (CE.op2 o a b).quiet ((CE.op2 o a b).ev g false)) ∧ PT X (.Compare l [op] [r] pos) (tT p (CE.op2 o a b).quiet ((CE.op2 o a b).ev g true)) := by
  have ho := o2_ok ok.hu o
  rw [okCmp_sem h] at ho
  refine ⟨PE.imp (pe_cmpR ho ha hb (noMark hm)) fun σ H Q q => ?_, PT.imp (pt_cmpR ho ha hb (noMark hm)) fun σ H Q q => ?_⟩
  · rw [← ok.K]
    exact t_op2 q
  · rw [← ok.K]
    exact t_op2T (okCmp_cmp h) q
theorem e_neg {a : CE} {x : Expr} (ha : PE X x (tE p a.quiet (a.ev g false))) : PE X (.UnaryOp .USub x pos) (tE p (CE.op1 .neg a).quiet ((CE.op1 .neg a).ev g false)) := by
  refine PE.imp (pe_un un_neg ha) fun σ H Q q => ?_
  obtain ⟨ρ, Z, w, st, q⟩ := q
  refine ⟨ρ, Z, w, st, RP.seq (q2 := true) Tn.zero (by rw [Bool.and_true]; exact q) fun d ρ1 v H1 Z1 w1 B1 m1 r1 h1 => ?_⟩
  obtain ⟨r, he, hd⟩ := RP.hand m1.s m1.all h1
  cases d <;> simp only [O1.ev] at he <;> try contradiction
  obtain rfl := Option.some.inj he
  cases r1
  exact ⟨_, rfl, hd.int⟩
/-- a test's result is a bool -/
theorem t_not {f : Ev → R} {q : Bool} {σ : St} {H : Hp} {Q : Bool → Hp → Prop} (h : tT p q (fun ρ => (f ρ).bind fun x ρ1 => match x with | .bl b => .ok (.bl (!b)) ρ1 | _ => .stuck) σ H Q) : tT p q f σ H fun b H' => Q (!b) H' := by
  obtain ⟨ρ, Z, w, st, h⟩ := h
  refine ⟨ρ, Z, w, st, ?_⟩
  cases e : f ρ with
  | ok d ρ' =>
    simp only [e, R.bind] at h
    cases d <;> exact h
  | exc c fs ρ' => simp only [e, R.bind] at h; exact h
  | stuck => simp only [e, R.bind] at h; exact h
theorem e_not {a : CE} {x : Expr} (ok : Ok X p s g) (hv : PE X x (tE p a.quiet (a.ev g false))) (ha : PT X x (tT p a.quiet (a.ev g true))) :
    PE X (.UnaryOp .Not x pos) (tE p (CE.op1 .not a).quiet ((CE.op1 .not a).ev g false)) ∧ PT X (.UnaryOp .Not x pos) (tT p (CE.op1 .not a).quiet ((CE.op1 .not a).ev g true)) := by
  refine ⟨PE.imp (pe_notT hv) fun σ H Q q => ?_, PT.imp (pt_not ha) fun σ H Q q => t_not q⟩
  obtain ⟨ρ, Z, w, st, q⟩ := q
  refine ⟨ρ, Z, w, st, RP.seq (q2 := true) Tn.zero (by rw [Bool.and_true]; exact q) fun d ρ1 v H1 Z1 w1 B1 m1 r1 h1 => ?_⟩
  obtain ⟨r, he, hd⟩ := RP.hand m1.s m1.all h1
  simp only [O1.ev, Option.map_eq_some_iff] at he
  obtain ⟨b, hb, rfl⟩ := he
  refine ⟨b, ?_, hd.bl⟩
  rw [← ok.K]
  exact r1.truV hb
end
end PD
set_option Elab.async false
set_option linter.all false
set_option maxRecDepth 100000
set_option maxHeartbeats 4000000
/-! PdI: items, slices, displays, and, or, if-else, chains. -/
namespace PD
open PySem L2
section
variable {X : Cx} {p : Wd} {s : Sx} {g : Gs} {e : Expr} {pos : Pos}
/-- both readings of an expression -/
structure Snd (X : Cx) (p : Wd) (g : Gs) (c : CE) (e : Expr) : Prop where
  v : PE X e (tE p c.quiet (c.ev g false))
  t : PT X e (tT p c.quiet (c.ev g true))
theorem tm0 {q' : Bool} {A : AS} {H H' : Hp} {w w' : Ws} {Z' : AS} : Tm q' A H w H' Z' w' A0 := ⟨fun _ z => z.elim, fun _ z => z.elim, fun _ z => z.elim, fun _ z => z.elim⟩
theorem e_ite {c a b : CE} {x y z : Expr} (hc : Snd X p g c x) (ha : Snd X p g a y) (hb : Snd X p g b z) : Snd X p g (.ite c a b) (.IfExp x y z pos) := by
  constructor
  · refine PE.imp (pe_ifExp hc.t ha.v hb.v) fun σ H Q q => ?_
    obtain ⟨ρ, Z, w, st, q⟩ := q
    have q : RP p (c.quiet && (a.quiet && b.quiet)) A0 H Z w σ ((c.ev g true ρ).bind fun x ρ1 => match x with | .bl k => (if k = true then a.ev g false ρ1 else b.ev g false ρ1) | _ => .stuck) Q := by rw [← Bool.and_assoc]; exact q
    refine ⟨ρ, Z, w, st, RPT.seq q Tn.zero fun k ρ1 H1 Z1 w1 m1 h1 => ?_⟩
    cases k with
    | true => exact ⟨ρ1, Z1, w1, m1.s, h1.wk1.sub fun _ z => z.elim⟩
    | false => exact ⟨ρ1, Z1, w1, m1.s, h1.wk2.sub fun _ z => z.elim⟩
  · refine ⟨fun pins s1 σ H Q I q => ?_⟩
    obtain ⟨ρ, Z, w, st, q⟩ := q
    have q : RPT p (c.quiet && (a.quiet && b.quiet)) A0 H Z w σ ((c.ev g true ρ).bind fun x ρ1 => match x with | .bl k => (if k = true then a.ev g true ρ1 else b.ev g true ρ1) | _ => .stuck) Q := by rw [← Bool.and_assoc]; exact q
    have hh : tT p c.quiet (c.ev g true) σ H fun k H1 => if k = true then tT p a.quiet (a.ev g true) σ H1 Q else tT p b.quiet (b.ev g true) σ H1 Q := by
      refine ⟨ρ, Z, w, st, RPT.seqT q Tn.zero fun k ρ1 H1 Z1 w1 m1 h1 => ?_⟩
      cases k with
      | true => exact ⟨ρ1, Z1, w1, m1.s, h1.wk1.sub fun _ z => z.elim⟩
      | false => exact ⟨ρ1, Z1, w1, m1.s, h1.wk2.sub fun _ z => z.elim⟩
    refine PyProof.Rows.isTrue_IfExp (thn (hc.t.run pins s1 σ H _ I hh) fun d s2 ⟨H1, I1, q1⟩ => ?_)
    cases d with
    | true => exact ha.t.run pins s2 σ H1 Q I1 q1
    | false => exact hb.t.run pins s2 σ H1 Q I1 q1
theorem e_idx {a b : CE} {x y : Expr} (ok : Ok X p s g) (hs : noSlice y = true) (ha : PE X x (tE p a.quiet (a.ev g false))) (hb : PE X y (tE p b.quiet (b.ev g false))) : PE X (.Subscript x y pos) (tE p (CE.idx a b).quiet ((CE.idx a b).ev g false)) := by
  refine PE.imp (pe_ix ix_D ha hb (plainIx hs)) fun σ H Q q => ?_
  obtain ⟨ρ, Z, w, st, h⟩ := q
  refine ⟨ρ, Z, w, st, RP.seq Tn.zero h fun d ρ1 v H1 Z1 w1 P1 m1 r1 h1 => ?_⟩
  refine ⟨ρ1, Z1, w1, m1.s, RP.seq (q2 := true) m1.all (by rw [Bool.and_true]; exact h1) fun e ρ2 u H2 Z2 w2 P2 m2 r2 h2 => ?_⟩
  split at h2
  · rename_i hg
    obtain ⟨r, he, hd⟩ := RP.hand m2.s m2.all h2
    rw [← ok.K]
    exact ⟨Z2, P1, P2, d, e, r, Rep.mid m1.s m2 (fun _ z => .inr z) m1.all hg r1, r2, he, hd.mono fun a z => z.elim (fun y => .inl (.inr y)) .inr⟩
  · exact h2.elim
/-! slices -/
def rSlD (K : PySem.W.Frag) : V → Option Int → Option Int → Hp → VK → Prop := fun x lo hi H Q => ∃ (Z P : AS) (d r : D), Rep K H Z P x d ∧ (∀ a, P a → H a ≠ none) ∧ (∀ a, Z a → H a ≠ none) ∧ slD d lo hi = some r ∧ Hand K H Z P r Q
theorem SlR.imp {r r' : V → Option Int → Option Int → Hp → VK → Prop} (h : SlR X r) (i : ∀ x lo hi H Q, r' x lo hi H Q → r x lo hi H Q) : SlR X r' :=
  fun pins s σ H x v vl vu lo hi sl Q I rx hs pl pu q => h pins s σ H x v vl vu lo hi sl Q I rx hs pl pu (i _ _ _ _ _ q)
theorem cut_whole (ds : List D) (lo hi : Option Int) (h1 : HT.sIx ds.length 0 lo = 0) (h2 : HT.sIx ds.length ds.length hi = ds.length) : cutD ds lo hi = ds := by
  unfold cutD
  rw [h1, h2]
  simp
theorem sl_D : SlR X (rSlD X.K) := by
  refine SlR.imp (sl_list.or (sl_tupA.or sl_str)) fun x lo hi H Q h => ?_
  obtain ⟨Z, P, d, r, ra, lp, lz, he, hd⟩ := h
  unfold slD at he
  split at he
  · obtain ⟨a, xs, rfl, ha, rl⟩ := ra.lstRd
    split at he
    · obtain rfl := Option.some.inj he
      exact .inl ⟨a, xs, rfl, ha, fun q hq => hd.lst (rl.cut lo hi) lp lz hq⟩
    · contradiction
  · obtain ⟨a, xs, rfl, ha, rl⟩ := ra.tupSq
    split at he
    · obtain rfl := Option.some.inj he
      refine .inr (.inl ⟨a, xs, rfl, ha, fun hw => ?_, fun _ q hq => hd.tup (rl.cut lo hi) hq⟩)
      rw [rl.len] at hw
      rw [cut_whole _ _ _ hw.1 hw.2] at hd
      exact hd.rep ra
    · contradiction
  · cases ra
    split at he
    · rename_i hz
      obtain rfl := Option.some.inj he
      exact .inr (.inr ⟨_, rfl, of_decide_eq_true hz, hd.str⟩)
    · contradiction
  · contradiction
theorem e_rev {a : CE} {x : Expr} {k : Nat} {p1 p2 p3 : Pos} (ok : Ok X p s g) (ha : PE X x (tE p a.quiet (a.ev g false))) : PE X (.Subscript x (.Slice none none (some (.UnaryOp .USub (.Constant (.int 1) k p1) p2)) p3) pos) (tE p (CE.rev a).quiet ((CE.rev a).ev g false)) := by
  refine PE.imp (pe_revL ha) fun σ H Q q => ?_
  obtain ⟨ρ, Z, w, st, q⟩ := q
  refine ⟨ρ, Z, w, st, RP.seq (q2 := true) Tn.zero (by rw [Bool.and_true]; exact q) fun d ρ1 v H1 Z1 w1 P1 m1 r1 h1 => ?_⟩
  obtain ⟨r, he, hd⟩ := RP.hand m1.s m1.all h1
  unfold revD at he
  split at he <;> try contradiction
  split at he <;> try contradiction
  obtain rfl := Option.some.inj he
  obtain ⟨a, xs, rfl, ha, rl⟩ := r1.lstRd
  exact ⟨a, xs, rfl, by rw [← ok.K]; exact ha, fun p hp => (hd.mono fun a z => .inr z).lst rl.rev m1.tn.ne m1.s.zne hp⟩
theorem e_jn {z nm : Str} {a : CE} {y : Expr} {k : Nat} {p1 ap cp : Pos} (ok : Ok X p s g) (hn : decide (nm = ("join" : Str)) = true) (hs : noStar y = true) (hl : (ap.endLine == cp.line) = true) (ha : PE X y (tE p a.quiet (a.ev g false))) :
    PE X (.Call (.Attribute (.Constant (.str z) k p1) nm ap) [y] [] cp) (tE p (CE.jn z a).quiet ((CE.jn z a).ev g false)) := by
  obtain rfl := of_decide_eq_true hn
  refine PE.imp (pe_bm F.plainAttrs_str F.slot_str_join F.type_str_join mt_join pe_str (pa_cons ha pa_nil (star1 hs)) (by rfl) ?_ hl (star1 hs) rfl) fun σ H Q q => ?_
  · rw [star1 hs]; rfl
  obtain ⟨ρ, Z, w, st, q⟩ := q
  refine ⟨rfl, ρ, Z, w, st, RP.seq (q2 := true) Tn.zero (by rw [Bool.and_true]; exact q) fun d ρ1 v H1 Z1 w1 P1 m1 r1 h1 => ?_⟩
  obtain ⟨r, he, hd⟩ := RP.hand m1.s m1.all h1
  unfold joinD at he
  split at he <;> try contradiction
  obtain ⟨ys, h2, he⟩ := Option.bind_eq_some_iff.mp he
  split at he <;> try contradiction
  rename_i hz
  obtain rfl := Option.some.inj he
  obtain ⟨a, xs, rfl, ha, rl⟩ := r1.lstRd
  obtain rfl := rl.strs h2
  exact ⟨z, a, ys, rfl, rfl, .inl (by rw [← ok.K]; exact ha), of_decide_eq_true hz, hd.str⟩
def vInt : V → Option Int
  | .int i => some i
  | _ => none
def tO (p : Wd) (q : Bool) (f : Ev → R) : TO := fun σ H T => ∃ ρ Z w, S p.K Z w σ ρ H ∧ RP p q A0 H Z w σ (f ρ) fun v H' => T (vInt v) H'
theorem PO.imp {e : Option Expr} {t t' : TO} (h : PO X e t) (i : ∀ σ H Q, t' σ H Q → t σ H Q) : PO X e t' := ⟨fun pins s σ H Q I q => h.run pins s σ H Q I (i _ _ _ q)⟩
theorem o_none : PO X none (tO p CO.none.quiet (CO.none.ev g)) := PO.imp po_none fun σ H T q => by
  obtain ⟨ρ, Z, w, st, q⟩ := q
  exact q .non H Z w A0 st .refl tm0 .non
theorem o_some {c : CE} {x : Expr} (h : PE X x (tE p c.quiet (c.ev g false))) : PO X (some x) (tO p (CO.some c).quiet ((CO.some c).ev g)) := PO.imp (po_some h) fun σ H T q => by
  obtain ⟨ρ, Z, w, st, q⟩ := q
  refine ⟨ρ, Z, w, st, RP.seq (q2 := true) Tn.zero (by rw [Bool.and_true]; exact q) fun d ρ1 v H1 Z1 w1 P1 m1 r1 h1 => ?_⟩
  cases d with
  | int i =>
    cases r1
    exact ⟨i, rfl, h1 (.int i) H1 Z1 w1 A0 m1.s .refl tm0 .int⟩
  | _ => exact h1.elim
theorem vInt_eq {K : PySem.W.Frag} {H : Hp} {Z O : AS} {v : V} {d : D} (r : Rep K H Z O v d) : vInt v = d.asInt := by
  cases r <;> rfl
theorem e_sl {a : CE} {lo hi : CO} {x : Expr} {l h : Option Expr} {p2 : Pos} (ok : Ok X p s g) (ha : PE X x (tE p a.quiet (a.ev g false))) (hl : PO X l (tO p lo.quiet (lo.ev g))) (hh : PO X h (tO p hi.quiet (hi.ev g))) :
    PE X (.Subscript x (.Slice l h none p2) pos) (tE p (CE.sl a lo hi).quiet ((CE.sl a lo hi).ev g false)) := by
  refine PE.imp (pe_slice sl_D ha hl hh) fun σ H Q q => ?_
  obtain ⟨ρ, Z, w, st, h⟩ := q
  have h : RP p (a.quiet && (lo.quiet && hi.quiet)) A0 H Z w σ ((CE.sl a lo hi).ev g false ρ) Q := by rw [← Bool.and_assoc]; exact h
  refine ⟨ρ, Z, w, st, RP.seq Tn.zero h fun d ρ1 v H1 Z1 w1 P1 m1 r1 h1 => ?_⟩
  refine ⟨ρ1, Z1, w1, m1.s, RP.seq m1.all h1 fun e ρ2 u H2 Z2 w2 P2 m2 r2 h2 => ?_⟩
  refine ⟨ρ2, Z2, w2, m2.s, RP.seq (q2 := true) m2.all (by rw [Bool.and_true]; exact h2) fun f ρ3 u' H3 Z3 w3 P3 m3 r3 h3 => ?_⟩
  rw [vInt_eq r2, vInt_eq r3]
  split at h3
  · rename_i hg
    obtain ⟨r, he, hd⟩ := RP.hand m3.s m3.all h3
    have g1 : (d.ret || lo.quiet) = true := by
      cases q1 : d.ret with
      | true => rfl
      | false => rw [q1] at hg; simp only [Bool.false_or, Bool.and_eq_true] at hg; rw [hg.1]; rfl
    have g2 : (d.ret || hi.quiet) = true := by
      cases q1 : d.ret with
      | true => rfl
      | false => rw [q1] at hg; simp only [Bool.false_or, Bool.and_eq_true] at hg; rw [hg.2]; rfl
    have r1' := Rep.mid m1.s m2 (fun _ z => .inr z) m1.all g1 r1
    have r1'' := Rep.mid m2.s m3 (fun _ z => .inl (.inr z)) m2.all g2 r1'
    rw [← ok.K]
    exact ⟨Z3, P1, d, r, r1'', fun a z => m3.all.ne a (.inl (.inl (.inr z))), m3.s.zne, he, hd.mono fun a z => .inl (.inl (.inr z))⟩
  · exact h3.elim
end
end PD
set_option Elab.async false
set_option linter.all false
set_option maxRecDepth 100000
set_option maxHeartbeats 4000000
/-! PdJ: chains, argument lists, displays, and, or, calls. -/
namespace PD
open PySem L2
section
variable {X : Cx} {p : Wd} {s : Sx} {g : Gs} {e : Expr} {pos : Pos}
theorem lastMk {op op' : CmpOp} {b c : Expr} (h : noSet c = true) : lastMarks [op, op'] [b, c] = false := by
  show behindInMarks op' c = false
  exact noMark h
theorem isT {σ : St} {H : Hp} {Q : Bool → Hp → Prop} {t : TE} (h : t σ H fun x H1 => ∃ k, x = .bl k ∧ Q k H1) : tTest t σ H Q := h
theorem fz_quiet {d : D} {q : Bool} (h : d.fz = true) : (d.ret || q) = true := by rw [fz_ret d h]; rfl
def fchn (o o' : O2) (fa fb fc : Ev → R) (ρ : Ev) : R := (fa ρ).bind fun x ρ1 => (fb ρ1).bind fun y ρ2 => if x.fz && y.fz then
      (match o.ev x y with
      | some (.bl k) => if k then (fc ρ2).bind fun z ρ3 => R.of (o'.ev y z) ρ3 else .ok (.bl false) ρ2
      | _ => .stuck) else .stuck
theorem t_chn {o o' : O2} {qa qb qc : Bool} {fa fb fc : Ev → R} {σ : St} {H : Hp} {Q : VK} (ho : o.cmp = true) (h : tE p (qa && qb && qc) (fchn o o' fa fb fc) σ H Q) : tChain (rD o p.K) (rD o' p.K) (tE p qa fa) (tE p qb fb) (tE p qc fc) σ H Q := by
  obtain ⟨ρ, Z, w, st, h⟩ := h
  have h : RP p (qa && (qb && qc)) A0 H Z w σ (fchn o o' fa fb fc ρ) Q := by rw [← Bool.and_assoc]; exact h
  refine ⟨ρ, Z, w, st, RP.seq Tn.zero h fun x ρ1 v H1 Z1 w1 P1 m1 r1 h1 => ?_⟩
  refine ⟨ρ1, Z1, w1, m1.s, RP.seq m1.all h1 fun y ρ2 u H2 Z2 w2 P2 m2 r2 h2 => ?_⟩
  split at h2
  · rename_i hg
    simp only [Bool.and_eq_true] at hg
    have r1' := Rep.mid m1.s m2 (fun _ z => .inr z) m1.all (fz_quiet hg.1) r1
    cases e1 : o.ev x y with
    | none => rw [e1] at h2; exact h2.elim
    | some r =>
      rw [e1] at h2
      obtain ⟨k, rfl⟩ := cmp_bl ho e1
      refine ⟨Z2, P1, P2, x, y, .bl k, r1', r2, fun a z => m2.d a (.inr z), fun a z => m2.a.ne a (.inr z), m2.tn.ne, m2.s.zne, e1, ?_⟩
      intro z H' O' sm rp ho'
      cases rp
      refine ⟨k, rfl, ?_⟩
      cases k with
      | false =>
        simp only [Bool.false_eq_true, if_false] at h2 ⊢
        exact h2 (.bl false) H' Z2 w2 A0 (m2.s.same sm) (.same sm) tm0 .bl
      | true =>
        simp only [if_true] at h2 ⊢
        refine ⟨ρ2, Z2, w2, m2.s.same sm, ?_⟩
        have r2' := Rep.noO y P2 A0 u hg.2 r2
        have h2' : RP p (qc && true) A0 H' Z2 w2 σ ((fc ρ2).bind fun z ρ3 => R.of (o'.ev y z) ρ3) Q := by
          rw [Bool.and_true]
          have z0 := h2.sub (A2 := A0) fun _ z => z.elim
          cases e2 : ((fc ρ2).bind fun z ρ3 => R.of (o'.ev y z) ρ3) with
          | ok d ρ' =>
            rw [e2] at z0
            exact fun v H'' Z' w' O s' n tm rp => z0 v H'' Z' w' O s' (Nx.trans (q1 := true) (A := A0) (A2 := A0) (Nx.same sm) n (fun _ z => z.elim)) (Nx.tm (q1 := true) (A := A0) (A2 := A0) (Z := Z2) (Z1 := Z2) (w1 := w2) (Nx.same sm) tm (fun _ z => z.elim)) rp
          | exc c fs ρ' =>
            rw [e2] at z0
            exact fun cls dx H'' Z' w' x s' n => z0 cls dx H'' Z' w' x s' (Nx.trans (q1 := true) (Nx.same (A := A0) sm) n (fun _ z => z.elim))
          | stuck => rw [e2] at z0; exact z0
        refine RP.seq Tn.zero h2' fun zz ρ3 u3 H3 Z3 w3 P3 m3 r3 h3 => ?_
        obtain ⟨r, he, hd⟩ := RP.hand m3.s m3.all h3
        have r2'' := Rep.mid (m2.s.same sm) m3 (fun _ z => z) Tn.zero (fz_quiet hg.2) (r2'.same sm)
        exact ⟨Z3, A0, P3, y, zz, r, r2'', r3, fun _ z => z.elim, fun _ z => z.elim, m3.tn.ne, m3.s.zne, he, hd.mono fun a z => z.elim (fun y => y.elim) .inr⟩
  · exact h2.elim
theorem fchn_bl {o o' : O2} {fa fb fc : Ev → R} (ho' : o'.cmp = true) {ρ : Ev} {d : D} {ρ' : Ev} (h : fchn o o' fa fb fc ρ = .ok d ρ') : ∃ b, d = .bl b := by
  unfold fchn at h
  cases e1 : fa ρ with
  | ok x ρ1 =>
    rw [e1] at h
    simp only [R.bind] at h
    cases e2 : fb ρ1 with
    | ok y ρ2 =>
      rw [e2] at h
      simp only at h
      split at h
      · split at h
        · split at h
          · cases e3 : fc ρ2 with
            | ok z ρ3 =>
              rw [e3] at h
              simp only at h
              cases e4 : o'.ev y z with
              | none => rw [e4] at h; cases h
              | some r =>
                rw [e4] at h
                cases h
                exact cmp_bl ho' e4
            | exc c fs ρ3 => rw [e3] at h; cases h
            | stuck => rw [e3] at h; cases h
          · cases h
            exact ⟨_, rfl⟩
        · cases h
      · cases h
    | exc c fs ρ2 => rw [e2] at h; cases h
    | stuck => rw [e2] at h; cases h
  | exc c fs ρ2 => rw [e1] at h; cases h
  | stuck => rw [e1] at h; cases h
theorem e_chn {o o' : O2} {op op' : CmpOp} {a b c : CE} {l m r : Expr} (ok : Ok X p s g) (h : okCmp o op = true) (h' : okCmp o' op' = true) (hm : noSet r = true) (ha : PE X l (tE p a.quiet (a.ev g false))) (hb : PE X m (tE p b.quiet (b.ev g false)))
    (hc : PE X r (tE p c.quiet (c.ev g false))) : Snd X p g (.chn o o' a b c) (.Compare l [op, op'] [m, r] pos) := by
  have ho := o2_ok ok.hu o
  rw [okCmp_sem h] at ho
  have ho' := o2_ok ok.hu o'
  rw [okCmp_sem h'] at ho'
  refine ⟨PE.imp (pe_chain ho ho' ha hb hc (lastMk hm)) fun σ H Q q => ?_, PT.imp (pt_chain ho ho' ha hb hc (lastMk hm)) fun σ H Q q => ?_⟩
  · rw [← ok.K]
    exact t_chn (okCmp_cmp h) q
  · rw [← ok.K]
    obtain ⟨ρ, Z, w, st, q⟩ := q
    exact isT (t_chn (okCmp_cmp h) ⟨ρ, Z, w, st, RPT.trB (fun d ρ' e => fchn_bl (okCmp_cmp h') e) q⟩)
/-! ### argument lists -/
theorem l_nil : PA X [] (tL p .nil CL.nil.quiet (CL.nil.ev g)) := PA.imp pa_nil fun σ H Q q => by
  obtain ⟨ρ, Z, w, st, q⟩ := q
  exact q [] H Z w A0 st .refl tm0 .nil fun i j h => by cases i <;> cases h
theorem lnt_cons {c : CE} {es : CL} {σ : St} {v : V} {vs : List V} (h0 : ∀ j, (CL.cons c es).lndAt 0 = some j → σ[j]? = some (some v)) (h : Lnt es σ vs) : Lnt (.cons c es) σ (v :: vs) := by
  intro i j e
  cases i with
  | zero => exact ⟨v, rfl, h0 j e⟩
  | succ i =>
    have e' : es.lndAt i = some j := by cases c <;> exact e
    obtain ⟨u, e1, e2⟩ := h i j e'
    exact ⟨u, by simpa using e1, e2⟩
def CE.isLnd : CE → Bool
  | .lnd _ => true
  | _ => false
theorem ev_cons {c : CE} {es : CL} (h : c.isLnd = false) (ρ : Ev) : (CL.cons c es).ev g ρ = (c.ev g false ρ).thenL fun d ρ1 => (es.ev g ρ1).thenL fun ds ρ2 => if d.ret || es.quiet then .ok (d :: ds) ρ2 else .stuck := by
  cases c <;> first | rfl | simp [CE.isLnd] at h
theorem l_cons {c : CE} {es : CL} {x : Expr} {xs : List Expr} (hl : c.isLnd = false) (hs : noStar x = true) (hc : PE X x (tE p c.quiet (c.ev g false))) (hr : PA X xs (tL p es es.quiet (es.ev g))) :
    PA X (x :: xs) (tL p (.cons c es) (CL.cons c es).quiet ((CL.cons c es).ev g)) := by
  refine PA.imp (pa_cons hc hr (star1 hs)) fun σ H Q q => ?_
  obtain ⟨ρ, Z, w, st, q⟩ := q
  rw [ev_cons hl] at q
  refine ⟨ρ, Z, w, st, RP.seqL Tn.zero q fun d ρ1 v H1 Z1 w1 P1 m1 r1 h1 => ?_⟩
  refine ⟨ρ1, Z1, w1, m1.s, RPL.seqL (q2 := true) m1.all (by rw [Bool.and_true]; exact h1) fun ds ρ2 vs H2 Z2 w2 P2 m2 r2 ln h2 => ?_⟩
  split at h2
  · rename_i hg
    have r1' := Rep.mid m1.s m2 (fun _ z => .inr z) m1.all hg r1
    have tn : Tn H2 Z2 w2 (fun a => P1 a ∨ P2 a) := (m2.a.sub fun a z => .inr z).or m2.tn
    refine h2 (v :: vs) H2 Z2 w2 (fun a => P1 a ∨ P2 a) m2.s .refl ⟨tn.free, tn.nz, tn.lst, fun a z => .inr (.inr (z.elim (fun y => .inl (.inr y)) .inr))⟩ (.cons (O1 := P1) (O2 := P2) (fun _ z => .inl z) (fun _ z => .inr z) (fun a z => m2.d a (.inr z)) r1' r2) (lnt_cons (fun j e => ?_) ln)
    cases c <;> first | (simp [CE.isLnd] at hl; done) | (exact nomatch e)
  · exact h2.elim
/-- a lent slot -/
theorem l_lnd {i : Nat} {es : CL} {x : Str} {px : Pos} {xs : List Expr} (ok : Ok X p s g) (h1 : decide (s.N[i]? = some x) = true) (h2 : visB s.sc x = true) (h3 : dbg x = true) (hr : PA X xs (tL p es es.quiet (es.ev g))) :
    PA X (.Name x px :: xs) (tL p (.cons (.lnd i) es) (CL.cons (.lnd i) es).quiet ((CL.cons (.lnd i) es).ev g)) := by
  refine PA.imp (pa_cons (pe_var (ok.has h1) (ok.vis x h2) (dbg1 h3).1 (dbg1 h3).2.1) hr rfl) fun σ H Q q => ?_
  obtain ⟨ρ, Z, w, st, q⟩ := q
  have e0 : (CL.cons (.lnd i) es).ev g ρ = (match ρ[i]? with
    | some (some _) => (es.ev g ρ).thenL fun ds ρ1 => (match ρ1[i]? with
      | some (some d) => .ok (d :: ds) (ρ1.set i none)
      | _ => .stuck)
    | _ => .stuck) := rfl
  rw [e0] at q
  have qq : (CL.cons (.lnd i) es).quiet = (es.quiet && false) := by rw [Bool.and_false]; rfl
  rw [qq] at q
  split at q <;> try exact q.elim
  rename_i d0 hd0
  have hi : ∃ v, σ[i]? = some (some v) := let ⟨_, v, e, _⟩ := st.rep i d0 hd0; ⟨v, e⟩
  obtain ⟨v, hv⟩ := hi
  refine ⟨v, hv, ρ, Z, w, st, RPL.seqL Tn.zero q fun ds ρ1 vs H1 Z1 w1 P1 m1 r1 ln h1 => ?_⟩
  split at h1
  · rename_i d hd
    obtain ⟨hr, v', hv', r⟩ := m1.s.rep i d hd
    rw [hv] at hv'
    obtain rfl := Option.some.inj (Option.some.inj hv')
    have tn := m1.s.tnOf (i := i)
    have wn : ∀ a, w1 a = some i → w1 a ≠ none := fun a h => by rw [h]; exact fun z => nomatch z
    have dis : ∀ a, w1 a = some i → ¬ P1 a := fun a e z => by
      rw [m1.tn.free a z] at e
      cases e
    refine h1 (v :: vs) H1 Z1 _ (fun a => w1 a = some i ∨ P1 a) (m1.s.drop (fun _ _ => rfl) rfl) ⟨fun a o h _ _ => h, fun a h => h, fun a h => .inl h, fun a h => (wput_own h).elim .inl fun z => z.elim⟩ ⟨fun a z => ?_, fun a z => z.elim (tn.nz a) (m1.tn.nz a), fun a z => z.elim (tn.lst a) (m1.tn.lst a), fun a z => ?_⟩
      (.cons (O1 := fun a => w1 a = some i) (O2 := P1) (fun _ z => .inl z) (fun _ z => .inr z) dis r r1) (lnt_cons (fun j e => ?_) ln)
    · rcases z with z | z
      · exact tn.free a z
      · unfold wput
        simp [A0, m1.tn.free a z]
    · rcases z with z | z
      · exact .inl ⟨rfl, wn a z⟩
      · exact .inr (.inr (.inr z))
    · have : i = j := Option.some.inj e
      subst this
      exact hv
  · exact h1.elim
end
end PD
set_option Elab.async false
set_option linter.all false
set_option maxRecDepth 100000
set_option maxHeartbeats 4000000
/-! PdK: displays, and, or, built-in calls, calls. -/
namespace PD
open PySem L2
section
variable {X : Cx} {p : Wd} {s : Sx} {g : Gs} {e : Expr} {pos : Pos}
theorem e_tup {es : CL} {xs : List Expr} {k : Nat} (h : PA X xs (tL p es es.quiet (es.ev g))) : PE X (.Tuple xs k pos) (tE p (CE.tup es).quiet ((CE.tup es).ev g false)) := by
  refine PE.imp (pe_tup h) fun σ H Q q => ?_
  obtain ⟨ρ, Z, w, st, q⟩ := q
  refine ⟨ρ, Z, w, st, RPL.seq (q2 := true) Tn.zero (by rw [Bool.and_true]; exact q) fun ds ρ1 vs H1 Z1 w1 P1 m1 r1 _ h1 => ?_⟩
  split at h1
  · rename_i hg
    simp only [Bool.and_eq_true] at hg
    obtain ⟨r, he, hd⟩ := RP.hand (o := some (.tup ds)) m1.s m1.all h1
    cases he
    exact ⟨by rw [r1.len]; exact of_decide_eq_true hg.2, fun q hq => (hd.mono fun a z => .inr z).tup r1 hq⟩
  · exact h1.elim
theorem e_lst {es : CL} {xs : List Expr} (h : PA X xs (tL p es es.quiet (es.ev g))) : PE X (.List xs pos) (tE p (CE.lst es).quiet ((CE.lst es).ev g false)) := by
  refine PE.imp (pe_lst h) fun σ H Q q => ?_
  obtain ⟨ρ, Z, w, st, q⟩ := q
  refine ⟨ρ, Z, w, st, RPL.seq (q2 := true) Tn.zero (by rw [Bool.and_true]; exact q) fun ds ρ1 vs H1 Z1 w1 P1 m1 r1 _ h1 => ?_⟩
  split at h1
  · rename_i hg
    simp only [Bool.and_eq_true] at hg
    obtain ⟨r, he, hd⟩ := RP.hand (o := some (.lst .own ds)) m1.s m1.all h1
    cases he
    exact ⟨by rw [r1.len]; exact of_decide_eq_true hg.2, fun q hq => (hd.mono fun a z => .inr z).lst r1 m1.tn.ne m1.s.zne hq⟩
  · exact h1.elim
/-- a built-in call over an argument list -/
theorem t_blt {es : CL} {f : List D → Option D} {σ : St} {H : Hp} {Q : VK} (h : tE p es.quiet (fun ρ => (es.ev g ρ).bind fun ds ρ1 => if D.retL ds || es.quiet then R.of (f ds) ρ1 else .stuck) σ H Q) :
    tCB (rB f p.K) (tL p es es.quiet (es.ev g)) σ H Q := by
  obtain ⟨ρ, Z, w, st, q⟩ := h
  refine ⟨ρ, Z, w, st, RPL.seq (q2 := true) Tn.zero (by rw [Bool.and_true]; exact q) fun ds ρ1 vs H1 Z1 w1 P1 m1 r1 _ h1 => ?_⟩
  split at h1
  · obtain ⟨r, he, hd⟩ := RP.hand m1.s m1.all h1
    exact ⟨Z1, P1, ds, r, r1, m1.tn.ne, m1.s.zne, he, hd.mono fun a z => .inr z⟩
  · exact h1.elim
theorem e_bltB {b : B1} {es : CL} {id : String} {x : Str} {px : Pos} {y : Expr} {ys : List Expr} (ok : Ok X p s g) (hc : CallR X (.builtin id) (rB b.ev X.K)) (hv : bootBuiltins x = some (.builtin id)) (hn : x ≠ "__name__") (hd : (x == ("__debug__" : Str)) = false)
    (hb : s.bns.contains x = true) (hg : glB s.sc x = true) (hs : (y :: ys).all noStar = true) (h : PA X (y :: ys) (tL p es es.quiet (es.ev g))) : PE X (.Call (.Name x px) (y :: ys) [] pos) (tE p (CE.blt b es).quiet ((CE.blt b es).ev g false)) := by
  have hs' := hs
  simp only [List.all_cons, Bool.and_eq_true] at hs'
  refine PE.imp (pe_callB hc (ok.gl x hg) (ok.bn x hb) hv h hn hd (star1 hs'.1) (starAny hs'.2)) fun σ H Q q => ?_
  rw [← ok.K]
  exact t_blt q
theorem e_bltT {b : B1} {es : CL} {id : String} {x : Str} {px : Pos} {y : Expr} {ys : List Expr} (ok : Ok X p s g) (hc : CallR X (.type id) (rB b.ev X.K)) (hv : bootBuiltins x = some (.type id)) (hn : x ≠ "__name__") (hd : (x == ("__debug__" : Str)) = false)
    (hb : s.bns.contains x = true) (hg : glB s.sc x = true) (hs : (y :: ys).all noStar = true) (h : PA X (y :: ys) (tL p es es.quiet (es.ev g))) : PE X (.Call (.Name x px) (y :: ys) [] pos) (tE p (CE.blt b es).quiet ((CE.blt b es).ev g false)) := by
  have hs' := hs
  simp only [List.all_cons, Bool.and_eq_true] at hs'
  refine PE.imp (pe_callTy hc (ok.gl x hg) (ok.bn x hb) hv h hn hd (star1 hs'.1) (starAny hs'.2)) fun σ H Q q => ?_
  rw [← ok.K]
  exact t_blt q
theorem e_gcd {es : CL} {x : Str} {px : Pos} {y : Expr} {ys : List Expr} (ok : Ok X p s g) (hx : decide (x = B1.gcd.nm) = true) (hb : s.gcd = true) (hg : glB s.sc x = true) (hs : (y :: ys).all noStar = true) (h : PA X (y :: ys) (tL p es es.quiet (es.ev g))) :
    PE X (.Call (.Name x px) (y :: ys) [] pos) (tE p (CE.blt .gcd es).quiet ((CE.blt .gcd es).ev g false)) := by
  have hs' := hs
  simp only [List.all_cons, Bool.and_eq_true] at hs'
  obtain rfl := of_decide_eq_true hx
  refine PE.imp (pe_callBfun c_gcd (ok.gl _ hg) (ok.gcd hb) h (by decide +kernel) (star1 hs'.1) (starAny hs'.2)) fun σ H Q q => ?_
  rw [← ok.K]
  exact t_blt q
theorem boot_abs' : bootBuiltins "abs" = some (.builtin "abs") := by decide +kernel
theorem boot_all' : bootBuiltins "all" = some (.builtin "all") := by decide +kernel
theorem boot_any' : bootBuiltins "any" = some (.builtin "any") := by decide +kernel
theorem boot_sum' : bootBuiltins "sum" = some (.builtin "sum") := by decide +kernel
theorem boot_repr' : bootBuiltins "repr" = some (.builtin "repr") := by decide +kernel
theorem boot_min' : bootBuiltins "min" = some (.builtin "min") := by decide +kernel
theorem boot_max' : bootBuiltins "max" = some (.builtin "max") := by decide +kernel
theorem boot_isi' : bootBuiltins "isinstance" = some (.builtin "isinstance") := by decide +kernel
theorem boot_ty (t : Ty) : bootBuiltins (Str.ofString t.name) = some (.type t.name) := by cases t <;> decide +kernel
theorem nm_ty (t : Ty) : Str.ofString t.name ≠ "__name__" ∧ (Str.ofString t.name == ("__debug__" : Str)) = false := by cases t <;> decide +kernel
theorem e_blt {b : B1} {es : CL} {x : Str} {px : Pos} {y : Expr} {ys : List Expr} (ok : Ok X p s g) (h1 : b ≠ .gcd) (h2 : ∀ t, b ≠ .isi t) (h3 : b = .repr → s.gd = true) (hx : decide (x = b.nm) = true) (hb : s.bns.contains x = true) (hg : glB s.sc x = true) (hs : (y :: ys).all noStar = true)
    (h : PA X (y :: ys) (tL p es es.quiet (es.ev g))) : PE X (.Call (.Name x px) (y :: ys) [] pos) (tE p (CE.blt b es).quiet ((CE.blt b es).ev g false)) := by
  obtain rfl := of_decide_eq_true hx
  cases b with
  | len => exact e_bltB ok c_len PySem.boot_len (by decide +kernel) (by decide +kernel) hb hg hs h
  | int => exact e_bltT ok c_int PyProof.Rows.boot_int (by decide +kernel) (by decide +kernel) hb hg hs h
  | abs => exact e_bltB ok c_abs boot_abs' (by decide +kernel) (by decide +kernel) hb hg hs h
  | all => exact e_bltB ok (c_all ok.calm) boot_all' (by decide +kernel) (by decide +kernel) hb hg hs h
  | any => exact e_bltB ok (c_any ok.calm) boot_any' (by decide +kernel) (by decide +kernel) hb hg hs h
  | list => exact e_bltT ok c_list PyProof.Rows.boot_list (by decide +kernel) (by decide +kernel) hb hg hs h
  | tuple => exact e_bltT ok c_tuple PyProof.Rows.boot_tuple (by decide +kernel) (by decide +kernel) hb hg hs h
  | str => exact e_bltT ok c_str PyProof.Rows.boot_str (by decide +kernel) (by decide +kernel) hb hg hs h
  | sum => exact e_bltB ok (c_sum ok.calm) boot_sum' (by decide +kernel) (by decide +kernel) hb hg hs h
  | repr => exact e_bltB ok (c_repr (ok.gd (h3 rfl)) (by have := ok.hu; omega)) boot_repr' (by decide +kernel) (by decide +kernel) hb hg hs h
  | min => exact e_bltB ok (c_min ok.calm) boot_min' (by decide +kernel) (by decide +kernel) hb hg hs h
  | max => exact e_bltB ok (c_max ok.calm) boot_max' (by decide +kernel) (by decide +kernel) hb hg hs h
  | gcd => exact absurd rfl h1
  | isi t => exact absurd rfl (h2 t)
theorem e_isi {t : Ty} {c : CE} {x z : Str} {px pz : Pos} {y : Expr} (ok : Ok X p s g) (hx : decide (x = (B1.isi t).nm) = true) (hb : s.bns.contains x = true) (hg : glB s.sc x = true) (hz : decide (z = Str.ofString t.name) = true) (hbz : s.bns.contains z = true) (hgz : glB s.sc z = true) (hs : noStar y = true)
    (hl : c.isLnd = false) (h : PE X y (tE p c.quiet (c.ev g false))) : PE X (.Call (.Name x px) [y, .Name z pz] [] pos) (tE p (CE.blt (.isi t) (.cons c .nil)).quiet ((CE.blt (.isi t) (.cons c .nil)).ev g false)) := by
  obtain rfl := of_decide_eq_true hx
  obtain rfl := of_decide_eq_true hz
  have hn := nm_ty t
  have pa : PA X [y, .Name (Str.ofString t.name) pz] _ := pa_cons h (pa_cons (pe_bltn (v := .ty t.name) (ok.gl _ hgz) (ok.bn _ hbz) (boot_ty t) rfl hn.1 hn.2) pa_nil rfl) (star1 hs)
  refine PE.imp (pe_callB (x := ("isinstance" : Str)) (c_isi t) (ok.gl _ hg) (ok.bn _ hb) boot_isi' pa (by decide +kernel) (by decide +kernel) (star1 hs) rfl) fun σ H Q q => ?_
  obtain ⟨ρ, Z, w, st, q⟩ := q
  have e1 : (CE.blt (.isi t) (.cons c .nil)).quiet = (c.quiet && true) := rfl
  have e2 : (CE.blt (.isi t) (.cons c .nil)).ev g false ρ = ((CL.cons c .nil).ev g ρ).bind fun ds ρ1 => if D.retL ds || (CL.cons c .nil).quiet then R.of ((B1.isi t).ev ds) ρ1 else .stuck := rfl
  rw [e1, e2, ev_cons hl] at q
  refine ⟨ρ, Z, w, st, ?_⟩
  cases e : c.ev g false ρ with
  | ok d ρ1 =>
    rw [e] at q
    simp only [R.thenL, CL.ev, RL.thenL, RL.bind, show CL.nil.quiet = true from rfl, Bool.or_true, if_true] at q
    intro v H1 Z1 w1 P1 s1 n1 t1 r1
    show ∃ u, [v, V.ty t.name] = [u, V.ty t.name] ∧ rB (B1.isi t).ev X.K [u] H1 Q
    by_cases hgd : (D.retL [d] || (CL.cons c .nil).quiet) = true
    · rw [if_pos hgd] at q
      have h1 : RP p true P1 H1 Z1 w1 σ (R.of ((B1.isi t).ev [d]) ρ1) Q := (RP.later n1 t1 q).sub fun _ z => .inr z
      obtain ⟨r, he, hd⟩ := RP.hand s1 t1.tn h1
      rw [← ok.K]
      refine ⟨v, rfl, Z1, P1, [d], r, ?_, t1.tn.ne, s1.zne, he, hd⟩
      exact .cons (O1 := P1) (O2 := A0) (fun _ z => z) (fun _ z => z.elim) (fun _ _ z => z.elim) r1 .nil
    · rw [if_neg hgd] at q
      exact q.elim
  | exc cc fs ρ1 =>
    rw [e] at q
    exact RX.wk q
  | stuck => rw [e] at q; exact q
/-! ### and, or -/
theorem w_and {c : CE} {es : CL} {x y : Expr} {r : List Expr} (hc : Snd X p g c x) (hr : PE X (.BoolOp .And (y :: r) pos) (tE p es.quiet (es.evAnd g false)) ∧ PW X (.BoolOp .And (y :: r) pos) (tT p es.quiet (es.evAnd g true))) (hn : ∀ t ρ, (CL.cons c es).evAnd g t ρ = (c.ev g t ρ).bind fun d ρ1 => match d with
    | .bl k => if k then es.evAnd g t ρ1 else .ok (.bl false) ρ1
    | _ => .stuck) :
    PE X (.BoolOp .And (x :: y :: r) pos) (tE p (CL.cons c es).quiet ((CL.cons c es).evAnd g false)) ∧ PW X (.BoolOp .And (x :: y :: r) pos) (tT p (CL.cons c es).quiet ((CL.cons c es).evAnd g true)) := by
  constructor
  · refine PE.imp (pe_and hc.v hr.1) fun σ H Q q => ?_
    obtain ⟨ρ, Z, w, st, q⟩ := q
    rw [hn] at q
    refine ⟨ρ, Z, w, st, RP.seq Tn.zero q fun d ρ1 v H1 Z1 w1 P1 m1 r1 h1 => ?_⟩
    cases d with
    | bl k =>
      cases r1
      refine ⟨k, rfl, ?_⟩
      cases k with
      | true => exact ⟨ρ1, Z1, w1, m1.s, h1.sub fun _ z => z.elim⟩
      | false => exact h1 (.bl false) H1 Z1 w1 A0 m1.s .refl tm0 .bl
    | _ => exact h1.elim
  · refine ⟨fun wh pins s1 σ H Q I q => ?_⟩
    refine (pw_and hc.t hr.2).run wh pins s1 σ H Q I ?_
    obtain ⟨ρ, Z, w, st, q⟩ := q
    rw [hn] at q
    refine ⟨ρ, Z, w, st, RPT.seqT q Tn.zero fun k ρ1 H1 Z1 w1 m1 h1 => ?_⟩
    cases k with
    | true => exact ⟨ρ1, Z1, w1, m1.s, h1.sub fun _ z => z.elim⟩
    | false => exact h1 H1 Z1 w1 m1.s .refl
theorem w_or {c : CE} {es : CL} {x y : Expr} {r : List Expr} (hc : Snd X p g c x) (hr : PE X (.BoolOp .Or (y :: r) pos) (tE p es.quiet (es.evOr g false)) ∧ PW X (.BoolOp .Or (y :: r) pos) (tT p es.quiet (es.evOr g true))) (hn : ∀ t ρ, (CL.cons c es).evOr g t ρ = (c.ev g t ρ).bind fun d ρ1 => match d with
    | .bl k => if k then .ok (.bl true) ρ1 else es.evOr g t ρ1
    | _ => .stuck) :
    PE X (.BoolOp .Or (x :: y :: r) pos) (tE p (CL.cons c es).quiet ((CL.cons c es).evOr g false)) ∧ PW X (.BoolOp .Or (x :: y :: r) pos) (tT p (CL.cons c es).quiet ((CL.cons c es).evOr g true)) := by
  constructor
  · refine PE.imp (pe_or hc.v hr.1) fun σ H Q q => ?_
    obtain ⟨ρ, Z, w, st, q⟩ := q
    rw [hn] at q
    refine ⟨ρ, Z, w, st, RP.seq Tn.zero q fun d ρ1 v H1 Z1 w1 P1 m1 r1 h1 => ?_⟩
    cases d with
    | bl k =>
      cases r1
      refine ⟨k, rfl, ?_⟩
      cases k with
      | false => exact ⟨ρ1, Z1, w1, m1.s, h1.sub fun _ z => z.elim⟩
      | true => exact h1 (.bl true) H1 Z1 w1 A0 m1.s .refl tm0 .bl
    | _ => exact h1.elim
  · refine ⟨fun wh pins s1 σ H Q I q => ?_⟩
    refine (pw_or hc.t hr.2).run wh pins s1 σ H Q I ?_
    obtain ⟨ρ, Z, w, st, q⟩ := q
    rw [hn] at q
    refine ⟨ρ, Z, w, st, RPT.seqT q Tn.zero fun k ρ1 H1 Z1 w1 m1 h1 => ?_⟩
    cases k with
    | false => exact ⟨ρ1, Z1, w1, m1.s, h1.sub fun _ z => z.elim⟩
    | true => exact h1 H1 Z1 w1 m1.s .refl
end
end PD
set_option Elab.async false
set_option linter.all false
set_option maxRecDepth 100000
set_option maxHeartbeats 4000000
/-! PdL: calls of defs, methods of an owned list. -/
namespace PD
open PySem L2
section
variable {X : Cx} {p : Wd} {s : Sx} {g : Gs} {e : Expr} {pos : Pos}
/-- lent slots are given back -/
theorem give {es : CL} {K : PySem.W.Frag} {H : Hp} {Z : AS} {σ : St} {vs : List V} (ln : Lnt es σ vs) : ∀ (ps : List Nat) (out : List D) (us : List V) (w : Ws) (ρ ρ2 : Ev) (P : AS), S K Z w σ ρ H → RepL K H Z P us out → D.retL out = true → us = ps.map (fun i => vs.getD i .non) → Tn H Z w P →
    giveBack es ps out ρ = some ρ2 → ∃ w2, S K Z w2 σ ρ2 H ∧ ∀ a, w2 a ≠ none → w a ≠ none ∨ P a
  | [], [], us, w, ρ, ρ2, P, st, r, hr, hu, t, h => by
    simp only [giveBack, Option.some.injEq] at h
    subst h
    exact ⟨w, st, fun a z => .inl z⟩
  | i :: ps, d :: out, us, w, ρ, ρ2, P, st, r, hr, hu, t, h => by
    simp only [D.retL, Bool.and_eq_true] at hr
    cases r with
    | cons h1 h2 h3 ra rb =>
      rename_i P1 P2 v us'
      simp only [List.map_cons, List.cons.injEq] at hu
      simp only [giveBack] at h
      cases e : es.lndAt i with
      | none =>
        rw [e] at h
        obtain ⟨w2, s2, q2⟩ := give ln ps out us' w ρ ρ2 P2 st rb hr.2 hu.2 (t.sub h2) h
        exact ⟨w2, s2, fun a z => (q2 a z).imp id (h2 a)⟩
      | some j =>
        rw [e] at h
        obtain ⟨u, e1, e2⟩ := ln i j e
        have hv : v = u := by
          rw [hu.1, List.getD_eq_getElem?_getD, e1]
          rfl
        subst hv
        have hj : j < ρ.length := by
          rw [← st.len]
          exact (List.getElem?_eq_some_iff.mp e2).1
        have t1 := t.sub h1
        have t2 := t.sub h2
        have s1 := st.put hj e2 ra hr.1 t1
        have t2' : Tn H Z (wput w j P1) P2 := ⟨fun a z => by
          unfold wput
          have n1 : ¬ P1 a := fun y => h3 a y z
          simp [n1, t2.free a z], t2.nz, t2.lst⟩
        obtain ⟨w2, s2, q2⟩ := give ln ps out us' _ _ ρ2 P2 s1 rb hr.2 hu.2 t2' h
        exact ⟨w2, s2, fun a z => (q2 a z).elim (fun y => (wput_own y).imp id (h1 a)) fun y => .inr (h2 a y)⟩
  | [], _ :: _, _, _, _, _, _, _, _, _, _, _, h => by simp [giveBack] at h
  | _ :: _, [], _, _, _, _, _, _, _, _, _, _, h => by simp [giveBack] at h
/-- behind a call the frame's names stand for the same data -/
theorem S.called {K : PySem.W.Frag} {H H' : Hp} {Z Z' : AS} {w : Ws} {σ : St} {ρ : Ev} {O : AS} (st : S K Z w σ ρ H) (tO : Tn H Z w O) (keep : ∀ a o, H a = some o → ¬ O a → H' a = some o) (zin : ∀ a, Z a → Z' a) (znew : ∀ a, Z' a → Z a ∨ O a ∨ H a = none) (zok : ∀ a, Z' a → ∃ xs, H' a = some (.lst xs)) : S K Z' w σ ρ H' := by
  refine ⟨st.len, fun i d hd => ?_, zok, fun a h => ?_⟩
  · obtain ⟨hr, v, hv, r⟩ := st.rep i d hd
    refine ⟨hr, v, hv, Rep.go (E := O) (M := O) ⟨keep, zin, znew⟩ (fun _ z => z) (fun a z o => tO.nz a o z) (fun a xs m e => ?_) d _ v (fun a h z => ?_) (.inl hr) r⟩
    · obtain ⟨ys, e2⟩ := tO.lst a m
      rw [e] at e2; cases e2
      exact ⟨ys, rfl⟩
    · rw [tO.free a z] at h; cases h
  · obtain ⟨⟨xs, e⟩, nz⟩ := st.wok a h
    have no : ¬ O a := fun z => h (tO.free a z)
    refine ⟨⟨xs, keep a _ e no⟩, fun z => ?_⟩
    rcases znew a z with y | y | y
    · exact nz y
    · exact no y
    · rw [e] at y; cases y
theorem e_cal {i : Nat} {es : CL} {x : Str} {px : Pos} {y : Expr} {ys : List Expr} (ok : Ok X p s g) (hx : decide (s.fns[i]? = some x) = true) (hg : glB s.sc x = true) (hd : dbg x = true) (hs : (y :: ys).all noStar = true) (h : PA X (y :: ys) (tL p es es.quiet (es.ev g))) :
    PE X (.Call (.Name x px) (y :: ys) [] pos) (tE p (CE.cal i es).quiet ((CE.cal i es).ev g false)) := by
  have hs' := hs
  simp only [List.all_cons, Bool.and_eq_true] at hs'
  obtain ⟨k, f, fd, ps, F, hr, hm, hk, hb⟩ := ok.fn i x (of_decide_eq_true hx)
  refine PE.imp (pe_callS F hr (ok.gl x hg) hm hk hb (passAt ok.tk) h (dbg1 hd).1 (star1 hs'.1) (starAny hs'.2)) fun σ H Q q => ?_
  obtain ⟨ρ, Z, w, st, q⟩ := q
  refine ⟨ρ, Z, w, st, RPL.seq (q2 := true) Tn.zero (by rw [Bool.and_true]; exact q) fun ds ρ1 vs H1 Z1 w1 P1 m1 r1 ln h1 => ?_⟩
  have h1 := h1.sub (A2 := P1) fun _ z => .inr z
  split at h1 <;> try exact h1.elim
  rename_i hret
  rw [← ok.K]
  refine ⟨ds, Z1, P1, r1, hret, fun a z => ⟨m1.tn.lst a z, m1.tn.nz a z⟩, m1.s.zok, ?_⟩
  cases e : g.fn i ds with
  | stuck => rw [e] at h1; exact h1.elim
  | exc c fs =>
    rw [e] at h1
    intro cls dx H' Z' hx zok keep zin znew
    refine h1 cls dx H' Z' w1 hx (m1.s.called m1.tn keep zin znew zok) ⟨fun a o e1 e2 _ => keep a o e1 e2, zin, fun a z => ?_, fun a z => .inl z⟩
    rcases znew a z with y | y | y
    · exact .inl y
    · exact .inr (.inr (.inr y))
    · exact .inr (.inr (.inl y))
  | ok d out =>
    rw [e] at h1
    intro v us H' Z' Q1 Q2 rv ru rd ro eu el dj hO zok keep zin znew
    cases e2 : giveBack es (g.fk i) out ρ1 with
    | none => simp only [e2] at h1; exact h1.elim
    | some ρ2 =>
      simp only [e2] at h1
      have s1 := m1.s.called m1.tn keep zin znew zok
      have fr : ∀ a, (P1 a ∨ H1 a = none) → w1 a = none := fun a z => z.elim (m1.tn.free a) m1.s.nw
      have tn2 : Tn H' Z' w1 Q2 := ⟨fun a z => fr a (hO a (.inr z)).1, fun a z => (hO a (.inr z)).2.2, fun a z => (hO a (.inr z)).2.1⟩
      obtain ⟨w2, s2, hw2⟩ := give ln _ _ us w1 ρ1 ρ2 Q2 s1 ru ro eu tn2 e2
      refine h1 v H' Z' w2 Q1 s2 ⟨fun a o e1 e2 _ => keep a o e1 e2, zin, fun a z => ?_, fun a z => ?_⟩ ⟨fun a z => ?_, fun a z => (hO a (.inl z)).2.2, fun a z => (hO a (.inl z)).2.1, fun a z => .inr ((hO a (.inl z)).1.symm)⟩ rv
      · rcases znew a z with y | y | y
        · exact .inl y
        · exact .inr (.inr (.inr y))
        · exact .inr (.inr (.inl y))
      · rcases hw2 a z with y | y
        · exact .inl y
        · exact .inr ((hO a (.inr y)).1.symm)
      · cases e3 : w2 a with
        | none => rfl
        | some j =>
          rcases hw2 a (by rw [e3]; exact fun y => nomatch y) with y | y
          · exact absurd (fr a (hO a (.inl z)).1) y
          · exact absurd y (dj a z)
end
end PD
set_option Elab.async false
set_option linter.all false
set_option maxRecDepth 100000
set_option maxHeartbeats 4000000
/-! PdM: methods of an owned list. -/
namespace PD
open PySem L2
section
variable {K : PySem.W.Frag} {H : Hp} {Z : AS} {w : Ws} {σ : St} {ρ : Ev} {O P : AS} {a : Addr} {i : Nat}
theorem extM {o : HO} {xs : List V} (nz : ¬ Z a) : Ext H Z (fun b => b = a) (fun b => b = a) (upd H a o) Z :=
  ⟨fun b u e n => by rw [upd_ne n]; exact e, fun _ z => z, fun _ z => .inl z⟩
theorem Rep.mut {o : HO} {xs : List V} (ha : H a = some (.lst xs)) (nz : ¬ Z a) (no : ¬ O a) {d : D} {v : V} (hr : d.ret = true) (r : Rep K H Z O v d) : Rep K (upd H a o) Z O v d :=
  Rep.go (extM (xs := xs) nz) (fun _ z => z) (fun b z e => by subst e; exact nz z) (fun b ys m e => by subst m; rw [ha] at e; cases e; exact ⟨_, rfl⟩) d O v (fun b z e => by subst e; exact no z) (.inl hr) r
theorem RepL.mut {o : HO} {xs : List V} (ha : H a = some (.lst xs)) (nz : ¬ Z a) (no : ¬ O a) {ds : List D} {vs : List V} (hr : D.retL ds = true) (r : RepL K H Z O vs ds) : RepL K (upd H a o) Z O vs ds :=
  RepL.go (extM (xs := xs) nz) (fun _ z => z) (fun b z e => by subst e; exact nz z) (fun b ys m e => by subst m; rw [ha] at e; cases e; exact ⟨_, rfl⟩) ds O vs (fun b z e => by subst e; exact no z) (.inl hr) r
theorem RepL.pick : ∀ {ds : List D} {O : AS} {vs : List V} {k : Nat} {d : D}, RepL K H Z O vs ds → ds[k]? = some d → ∃ v O1 O2, vs[k]? = some v ∧ Rep K H Z O1 v d ∧ RepL K H Z O2 (vs.eraseIdx k) (ds.eraseIdx k) ∧ (∀ b, O1 b → O b) ∧ (∀ b, O2 b → O b) ∧ ∀ b, O1 b → ¬ O2 b
  | [], _, _, _, _, _, e => by simp at e
  | d :: ds, O, _, 0, _, .cons (O1 := O1) (O2 := O2) h1 h2 h3 ra rb, e => by
    simp at e; subst e
    exact ⟨_, O1, O2, rfl, ra, rb, h1, h2, h3⟩
  | d :: ds, O, _, k + 1, _, .cons (O1 := O1) (O2 := O2) h1 h2 h3 ra rb, e => by
    obtain ⟨v, Q1, Q2, e1, r1, r2, g1, g2, g3⟩ := RepL.pick rb (by simpa using e)
    refine ⟨v, Q1, fun b => O1 b ∨ Q2 b, by simpa using e1, r1, ?_, fun b z => h2 b (g1 b z), fun b z => z.elim (h1 b) fun y => h2 b (g2 b y), fun b z y => y.elim (fun x => h3 b x (g1 b z)) (g3 b z)⟩
    simp only [List.eraseIdx_cons_succ]
    exact .cons (O1 := O1) (O2 := Q2) (fun _ z => .inl z) (fun _ z => .inr z) (fun b z y => h3 b z (g2 b y)) ra r2
theorem retL_erase : ∀ (xs : List D) (n : Nat), D.retL xs = true → D.retL (xs.eraseIdx n) = true
  | [], n, _ => by simp [D.retL]
  | x :: xs, 0, h => by
    simp only [D.retL, Bool.and_eq_true] at h
    simpa only [List.eraseIdx_cons_zero] using h.2
  | x :: xs, n + 1, h => by
    simp only [D.retL, Bool.and_eq_true] at h
    simp only [List.eraseIdx_cons_succ, D.retL, Bool.and_eq_true]
    exact ⟨h.1, retL_erase xs n h.2⟩
/-- the owned list of slot i is written -/
theorem S.mut {xs ys : List D} {vs us : List V} {Oy : AS} (st : S K Z w σ ρ H) (hi : ρ[i]? = some (some (.lst .own xs))) (hv : σ[i]? = some (some (.ref a))) (ha : H a = some (.lst vs)) (wa : w a = some i) (r : RepL K (upd H a (.lst us)) Z Oy us ys)
    (hr : D.retL ys = true) (hO : ∀ b, Oy b → (w b = some i ∧ b ≠ a) ∨ P b) (tP : Tn H Z w P) : S K Z (wput w i (fun b => b = a ∨ Oy b)) σ (ρ.set i (some (.lst .own ys))) (upd H a (.lst us)) := by
  have hlt := st.lt hi
  have nz : ¬ Z a := (st.wok a (by rw [wa]; exact fun z => nomatch z)).2
  have naO : ¬ Oy a := fun z => (hO a z).elim (fun y => y.2 rfl) fun y => by
    have := tP.free a y
    rw [wa] at this; cases this
  have up : ∀ b, (∃ xs, H b = some (.lst xs)) → ∃ xs, upd H a (.lst us) b = some (.lst xs) := fun b ⟨xs, e⟩ => by
    by_cases z : b = a
    · subst z; exact ⟨_, upd_same⟩
    · exact ⟨xs, by rw [upd_ne z]; exact e⟩
  refine ⟨by rw [st.len, List.length_set], fun j e hj => ?_, fun b z => up b (st.zok b z), fun b z => ?_⟩
  · by_cases e1 : j = i
    · subst e1
      rw [List.getElem?_set_self hlt] at hj
      obtain rfl := Option.some.inj (Option.some.inj hj)
      exact ⟨by simpa only [D.ret] using hr, _, hv, .own (O' := Oy) upd_same nz (wput_i.mpr (.inl rfl)) (fun b z => wput_i.mpr (.inr z)) naO r⟩
    · rw [List.getElem?_set_ne (Ne.symm e1)] at hj
      obtain ⟨g1, u, g2, g3⟩ := st.rep j e hj
      have no : ¬ w a = some j := fun z => by rw [wa] at z; exact e1 (Option.some.inj z).symm
      have g4 := Rep.mut (o := .lst us) ha nz no g1 g3
      refine ⟨g1, u, g2, g4.wide fun b z => (wput_j e1).mpr ⟨fun y => ?_, z⟩⟩
      rcases y with y | y
      · subst y; exact no z
      · rcases hO b y with x | x
        · rw [x.1] at z; exact e1 (Option.some.inj z).symm
        · rw [tP.free b x] at z; cases z
  · rcases wput_own z with y | y
    · exact ⟨up b (st.wok b y).1, (st.wok b y).2⟩
    · rcases y with y | y
      · subst y; exact ⟨⟨_, upd_same⟩, nz⟩
      · rcases hO b y with x | x
        · have : w b ≠ none := by rw [x.1]; exact fun z => nomatch z
          exact ⟨up b (st.wok b this).1, (st.wok b this).2⟩
        · exact ⟨up b (tP.lst b x), tP.nz b x⟩
theorem Nx.mut {us : List V} {Oy : AS} (wa : w a = some i) (hO : ∀ b, Oy b → (w b = some i ∧ b ≠ a) ∨ P b) : Nx false P H Z w (upd H a (.lst us)) Z (wput w i (fun b => b = a ∨ Oy b)) := by
  have wi : ∀ b, w b = some i → w b ≠ none := fun b h => by rw [h]; exact fun z => nomatch z
  refine ⟨fun b o e _ hq => ?_, fun _ z => z, fun _ z => .inl z, fun b z => ?_⟩
  · have : b ≠ a := fun z => by
      subst z
      rcases hq with y | y
      · exact nomatch y
      · rw [wa] at y; cases y
    rw [upd_ne this]; exact e
  · rcases wput_own z with y | y
    · exact .inl y
    · rcases y with y | y
      · subst y; exact .inl (wi _ wa)
      · exact (hO b y).elim (fun x => .inl (wi b x.1)) fun x => .inr (.inr x)
end
section
variable {X : Cx} {p : Wd} {s : Sx} {g : Gs} {e : Expr} {pos : Pos}
theorem Rep.openOwn' {K : PySem.W.Frag} {H : Hp} {Z P : AS} {v : V} {acc : List D} (r : Rep K H Z P v (.lst .own acc)) : ∃ a xs O, v = .ref a ∧ H a = some (.lst xs) ∧ ¬ Z a ∧ P a ∧ (∀ b, O b → P b) ∧ ¬ O a ∧ RepL K H Z O xs acc := by
  cases r with
  | own e1 e2 e3 e4 e5 e6 => exact ⟨_, _, _, rfl, e1, e2, e3, e4, e5, e6⟩
/-- extend by any list that can be read -/
def rExtR : V → List V → Hp → VK → Prop := fun x vs H Q => ∃ l b xs zs, x = .ref l ∧ vs = [.ref b] ∧ H l = some (.lst xs) ∧ Rd H b (.lst zs) ∧ xs.length + zs.length ≤ sizeLine ∧ Q .non (upd H l (.lst (xs ++ zs)))
theorem mt_extR : MtM X "list.extend" rExtR := by
  intro pins s σ H x vs v us Q I rx rv h
  obtain ⟨l, b, xs, zs, rfl, rfl, hH, hB, hz, q⟩ := h
  cases rx
  obtain ⟨u, rfl, ru⟩ := rv.one
  cases ru
  obtain ⟨z, its, n, r, hl, e⟩ := I.lstM hH
  obtain ⟨z2, its2, n2, r2, e2⟩ := hB.ok I.hok
  have hl2 := r2.length
  have sz : its.toArray.size + its2.toArray.size ≤ sizeLine := by simp only [List.size_toArray]; omega
  refine call_meets F.slot_list_extend ⟨_, e, rfl⟩ F.entry_list_extend (F.args_list_extend_2 _ _)
    (AutoSeq1.list_extend_list_list_0 l its.toArray n b its2.toArray n2 (by rw [notLongL sz, Bool.and_false]; exact Bool.false_ne_true) (by simp only [List.size_toArray]; omega) (by omega)) ⟨e, e2, .non, _, I.lset (its' := its ++ its2) hH e (by simp) (r.append r2) (by simp only [List.length_append]; omega), rfl, q⟩
/-- a list in two -/
theorem RepL.part {K : PySem.W.Frag} {H : Hp} {Z : AS} : ∀ {ds : List D} {O : AS} {vs : List V} (n : Nat), RepL K H Z O vs ds → ∃ O1 O2, RepL K H Z O1 (vs.take n) (ds.take n) ∧ RepL K H Z O2 (vs.drop n) (ds.drop n) ∧ (∀ b, O1 b → O b) ∧ (∀ b, O2 b → O b) ∧ ∀ b, O1 b → ¬ O2 b
  | [], _, _, n, .nil => ⟨A0, A0, by simp; exact .nil, by simp; exact .nil, fun _ z => z.elim, fun _ z => z.elim, fun _ z => z.elim⟩
  | d :: ds, O, _, 0, r => ⟨A0, O, .nil, r, fun _ z => z.elim, fun _ z => z, fun _ z => z.elim⟩
  | d :: ds, O, _, n + 1, .cons (O1 := P1) (O2 := P2) h1 h2 h3 a b => by
    obtain ⟨Q1, Q2, r1, r2, g1, g2, g3⟩ := RepL.part n b
    refine ⟨fun x => P1 x ∨ Q1 x, Q2, ?_, r2, fun x z => z.elim (h1 x) fun y => h2 x (g1 x y), fun x z => h2 x (g2 x z), fun x z y => z.elim (fun u => h3 x u (g2 x y)) fun u => g3 x u y⟩
    simp only [List.take_succ_cons]
    exact .cons (O1 := P1) (O2 := Q1) (fun _ z => .inl z) (fun _ z => .inr z) (fun x z y => h3 x z (g1 x y)) a r1
def rIns : V → List V → Hp → VK → Prop := fun x vs H Q => ∃ (l : Addr) (us : List V) (j : Int) (y : V), x = .ref l ∧ vs = [.int j, y] ∧ H l = some (.lst us) ∧ us.length < sizeLine ∧ 0 ≤ j ∧ j < 2 ^ 63 ∧ Q .non (upd H l (.lst (us.take j.toNat ++ [y] ++ us.drop j.toNat)))
def rM : M1 → V → List V → Hp → VK → Prop
  | .append => rAppend
  | .extend => rExtR
  | .pop => rPop
  | .popAt => rPopAt
  | .clear => rClear
  | .insert => rIns
def M1.id : M1 → String
  | .append => "list.append"
  | .extend => "list.extend"
  | .pop => "list.pop"
  | .popAt => "list.pop"
  | .clear => "list.clear"
  | .insert => "list.insert"
theorem mt_all : ∀ m : M1, MtR X m.id (rM m)
  | .append => mt_append
  | .extend => mt_extR
  | .pop => mt_pop
  | .popAt => mt_popAt
  | .clear => mt_clear
  | .insert => mt_insert
theorem dropLast_erase {α : Type} (xs : List α) : xs.dropLast = xs.eraseIdx (xs.length - 1) := (PyProof.Rows.Copied.eraseIdx_last xs).symm
/-- the method's reading, by data -/
theorem m_core {m : M1} {K : PySem.W.Frag} {H : Hp} {Z : AS} {P O' : AS} {a : Addr} {xs ys ds : List D} {us vs : List V} {d : D} {Q : VK} (hrx : D.retL xs = true) (e1 : H a = some (.lst us)) (nz : ¬ Z a) (na : ¬ O' a) (rl : RepL K H Z O' us xs) (nP : ¬ P a) (dP : ∀ b, O' b → ¬ P b) (tP : ∀ b, P b → H b ≠ none) (tO : ∀ b, O' b → H b ≠ none)
    (r : RepL K H Z P vs ds) (hret : D.retL ds = true) (he : m.ev xs ds = some (d, ys))
    (fin : ∀ (us' : List V) (Oy : AS) (v : V) (O : AS), RepL K (upd H a (.lst us')) Z Oy us' ys → D.retL ys = true → (∀ b, Oy b → O' b ∨ P b) → (∀ b, O b → (O' b ∨ P b) ∧ ¬ Oy b) → Rep K (upd H a (.lst us')) Z O v d → Q v (upd H a (.lst us'))) : rM m (.ref a) vs H Q := by
  have len := rl.len
  cases m with
  | append =>
    unfold M1.ev at he
    split at he <;> try contradiction
    all_goals rename_i hm; cases hm
    split at he <;> try contradiction
    rename_i hg
    simp only [Bool.and_eq_true, decide_eq_true_eq] at hg
    cases he
    obtain ⟨v, rfl, rv⟩ := r.one
    refine ⟨a, us, v, rfl, rfl, e1, by rw [len]; exact hg.2, fin _ (fun b => O' b ∨ P b) .non A0 ?_ (by rw [retL_append, hrx]; simp [D.retL, hg.1]) (fun _ z => z) (fun _ z => z.elim) .non⟩
    exact RepL.append dP (rl.mut e1 nz na hrx) (.cons (O1 := P) (O2 := A0) (fun _ z => z) (fun _ z => z.elim) (fun _ _ z => z.elim) (rv.mut e1 nz nP hg.1) .nil)
  | extend =>
    unfold M1.ev at he
    split at he <;> try contradiction
    all_goals rename_i hm; cases hm
    split at he <;> try contradiction
    rename_i hg
    simp only [Bool.and_eq_true] at hg
    cases he
    obtain ⟨v, rfl, rv⟩ := r.one
    obtain ⟨b, zs, Ob, rfl, hb, _, pb, ob, _, rz0⟩ := rv.openOwn'
    have rz := rz0.wide ob
    refine ⟨a, b, us, zs, rfl, rfl, e1, .inl hb, by rw [len, rz.len]; exact of_decide_eq_true hg.2, fin _ (fun b => O' b ∨ P b) .non A0 ?_ (by rw [retL_append, hrx, hg.1]; rfl) (fun _ z => z) (fun _ z => z.elim) .non⟩
    exact RepL.append dP (rl.mut e1 nz na hrx) (rz.mut e1 nz nP hg.1)
  | pop =>
    unfold M1.ev at he
    split at he <;> try contradiction
    all_goals rename_i hm; cases hm
    obtain ⟨d', hd, hq⟩ := Option.map_eq_some_iff.mp he
    cases hq
    cases r
    obtain ⟨v, O1, O2, g1, g2, g3, g4, g5, g6⟩ := rl.pick hd
    rw [← len] at g1
    refine ⟨a, us, v, rfl, rfl, e1, g1, ?_⟩
    rw [dropLast_erase, len]
    exact fin _ O2 v O1 (g3.mut e1 nz (fun z => na (g5 a z)) (retL_erase _ _ hrx)) (retL_erase _ _ hrx) (fun b z => .inl (g5 b z)) (fun b z => ⟨.inl (g4 b z), g6 b z⟩) (g2.mut e1 nz (fun z => na (g4 a z)) (retL_get hrx hd))
  | popAt =>
    unfold M1.ev at he
    split at he <;> try contradiction
    all_goals rename_i hm; cases hm
    split at he <;> try contradiction
    rename_i hg
    simp only [Bool.and_eq_true, decide_eq_true_eq] at hg
    obtain ⟨d', hd, hq⟩ := Option.map_eq_some_iff.mp he
    cases hq
    obtain ⟨v', rfl, rv⟩ := r.one
    cases rv
    rename_i ii
    obtain ⟨v, O1, O2, g1, g2, g3, g4, g5, g6⟩ := rl.pick hd
    have hlt : ii.toNat < us.length := (List.getElem?_eq_some_iff.mp g1).1
    refine ⟨a, us, ii, ii.toNat, v, rfl, rfl, e1, by omega, hg.2, ?_, g1, fin _ O2 v O1 (g3.mut e1 nz (fun z => na (g5 a z)) (retL_erase _ _ hrx)) (retL_erase _ _ hrx) (fun b z => .inl (g5 b z)) (fun b z => ⟨.inl (g4 b z), g6 b z⟩) (g2.mut e1 nz (fun z => na (g4 a z)) (retL_get hrx hd))⟩
    exact (ixN_seq (n := us.length) (i := ii) (j := ii.toNat) (by unfold ixN; rw [if_pos hg.1, if_pos (by omega)])).1
  | clear =>
    unfold M1.ev at he
    split at he <;> try contradiction
    all_goals rename_i hm; cases hm
    cases he
    cases r
    exact ⟨a, us, rfl, rfl, e1, fin _ A0 .non A0 .nil rfl (fun _ z => z.elim) (fun _ z => z.elim) .non⟩
  | insert =>
    unfold M1.ev at he
    split at he <;> try contradiction
    all_goals rename_i hm; cases hm
    split at he <;> try contradiction
    rename_i hg
    simp only [Bool.and_eq_true, decide_eq_true_eq] at hg
    cases he
    obtain ⟨v1, v, rfl, rv1, rv⟩ := r.two
    cases rv1
    rename_i j _
    obtain ⟨O1, O2, r1, r2, g1, g2, g3⟩ := (rl.mut (o := .lst (us.take j.toNat ++ [v] ++ us.drop j.toNat)) e1 nz na hrx).part j.toNat
    refine ⟨a, us, j, v, rfl, rfl, e1, by rw [len]; exact hg.1.1.2, hg.1.2, hg.2, fin _ (fun b => (O1 b ∨ P b) ∨ O2 b) .non A0 ?_ ?_ (fun b z => z.elim (fun y => y.imp (g1 b) id) fun y => .inl (g2 b y)) (fun _ z => z.elim) .non⟩
    · refine RepL.append (fun b z y => z.elim (fun x => g3 b x y) fun x => dP b (g2 b y) x) (RepL.append (fun b z y => dP b (g1 b z) y) r1 (.cons (O1 := P) (O2 := A0) (fun _ z => z) (fun _ z => z.elim) (fun _ _ z => z.elim) (rv.mut e1 nz nP hg.1.1.1) .nil)) r2
    · rw [retL_append, retL_append, retL_take _ _ hrx, retL_drop _ _ hrx]
      simp [D.retL, hg.1.1.1]
/-- the method's reading, by data -/
theorem m_step {m : M1} {i : Nat} {K : PySem.W.Frag} {H : Hp} {Z : AS} {w : Ws} {σ : St} {ρ : Ev} {P : AS} {a : Addr} {xs ys ds : List D} {vs : List V} {d : D} {Q : VK} (st : S K Z w σ ρ H) (hi : ρ[i]? = some (some (.lst .own xs))) (hv : σ[i]? = some (some (.ref a))) (tP : Tn H Z w P)
    (r : RepL K H Z P vs ds) (hret : D.retL ds = true) (he : m.ev xs ds = some (d, ys))
    (h : ∀ v H' w' O, S K Z w' σ (ρ.set i (some (.lst .own ys))) H' → Nx false P H Z w H' Z w' → Tm false P H w H' Z w' O → Rep K H' Z O v d → Q v H') : rM m (.ref a) vs H Q := by
  obtain ⟨hr0, v0, hv0, r0⟩ := st.rep i _ hi
  rw [hv] at hv0
  obtain rfl := Option.some.inj (Option.some.inj hv0)
  have hrx : D.retL xs = true := by simpa only [D.ret] using hr0
  cases r0 with
  | own e1 nz wa sub na rl =>
    rename_i O' us
    have nP : ¬ P a := fun z => by
      have y := tP.free a z
      rw [wa] at y; cases y
    have dP : ∀ b, O' b → ¬ P b := fun b z y => by
      have x : w b = some i := sub b z
      rw [tP.free b y] at x; cases x
    have lP := tP.lst
    have fin : ∀ (us' : List V) (Oy : AS) (v : V) (O : AS), RepL K (upd H a (.lst us')) Z Oy us' ys → D.retL ys = true → (∀ b, Oy b → O' b ∨ P b) → (∀ b, O b → (O' b ∨ P b) ∧ ¬ Oy b) → Rep K (upd H a (.lst us')) Z O v d → Q v (upd H a (.lst us')) := by
      intro us' Oy v O ry hry hOy hO rv
      have hOy' : ∀ b, Oy b → (w b = some i ∧ b ≠ a) ∨ P b := fun b z => (hOy b z).imp (fun y => ⟨sub b y, fun e => by subst e; exact na y⟩) id
      refine h v _ _ O (st.mut hi hv e1 wa ry hry hOy' tP) (Nx.mut wa hOy') ⟨fun b z => ?_, fun b z => ?_, fun b z => ?_, fun b z => ?_⟩ rv
      · have hn := (hO b z).2
        have hba : b ≠ a := fun e => by subst e; exact ((hO _ z).1.elim na nP)
        unfold wput
        simp only [hba, hn, or_self, if_false]
        rcases (hO b z).1 with y | y
        · simp [sub b y]
        · simp [tP.free b y]
      · rcases (hO b z).1 with y | y
        · exact (st.wok b (by rw [sub b y]; exact fun z => nomatch z)).2
        · exact tP.nz b y
      · have hba : b ≠ a := fun e => by subst e; exact ((hO _ z).1.elim na nP)
        rw [upd_ne hba]
        rcases (hO b z).1 with y | y
        · exact (st.wok b (by rw [sub b y]; exact fun z => nomatch z)).1
        · exact lP b y
      · rcases (hO b z).1 with y | y
        · exact .inl ⟨rfl, by rw [sub b y]; exact fun z => nomatch z⟩
        · exact .inr (.inr y)
    exact m_core hrx e1 nz na rl nP dP (fun b z => by obtain ⟨xs, e⟩ := tP.lst b z; rw [e]; exact fun x => nomatch x) (fun b z => by obtain ⟨⟨xs, e⟩, _⟩ := st.wok b (by rw [sub b z]; exact fun x => nomatch x); rw [e]; exact fun x => nomatch x) r hret he fin
end
end PD
set_option Elab.async false
set_option linter.all false
set_option maxRecDepth 100000
set_option maxHeartbeats 4000000
/-! PdN: method calls; what is walked. -/
namespace PD
open PySem L2
section
variable {X : Cx} {p : Wd} {s : Sx} {g : Gs} {e : Expr} {pos : Pos}
theorem slot_all : ∀ m : M1, Slot "list" m.nm m.id ∧ typeOf (.builtin m.id) = pure (.type "method_descriptor")
  | .append => ⟨F.slot_list_append, F.type_list_append⟩
  | .extend => ⟨F.slot_list_extend, F.type_list_extend⟩
  | .pop => ⟨F.slot_list_pop, F.type_list_pop⟩
  | .popAt => ⟨F.slot_list_pop, F.type_list_pop⟩
  | .clear => ⟨F.slot_list_clear, F.type_list_clear⟩
  | .insert => ⟨F.slot_list_insert, F.type_list_insert⟩
theorem e_mth {m : M1} {i : Nat} {es : CL} {x nm : Str} {px ap cp : Pos} {xs : List Expr} (ok : Ok X p s g) (h1 : decide (s.N[i]? = some x) = true) (h2 : visB s.sc x = true) (h3 : dbg x = true) (h4 : decide (nm = m.nm) = true) (h5 : xs.all noStar = true) (h6 : fewB xs = true)
    (h7 : (ap.endLine == cp.line) = true) (h8 : xs = [] → es = .nil) (h : PA X xs (tL p es es.quiet (es.ev g))) : PE X (.Call (.Attribute (.Name x px) nm ap) xs [] cp) (tE p (CE.mth m i es).quiet ((CE.mth m i es).ev g false)) := by
  obtain rfl := of_decide_eq_true h4
  obtain ⟨sl, ty⟩ := slot_all m
  have pn := pe_var (X := X) (pos := px) (ok.has h1) (ok.vis x h2) (dbg1 h3).1 (dbg1 h3).2.1
  have key : ∀ {σ H Q}, tE p (CE.mth m i es).quiet ((CE.mth m i es).ev g false) σ H Q → tVar i σ H fun x H1 => tyV X.K "list" x H1 ∧ tL p es es.quiet (es.ev g) σ H1 fun vs H2 => rM m x vs H2 Q := fun {σ H Q} q => by
    obtain ⟨ρ, Z, w, st, q⟩ := q
    have e1 : (CE.mth m i es).ev g false ρ = (match ρ[i]? with
      | some (some (.lst .own _)) => (es.ev g ρ).bind fun ds ρ1 => (match ρ1[i]? with
        | some (some (.lst .own xs)) => if D.retL ds then (match m.ev xs ds with
          | some (d, ys) => .ok d (ρ1.set i (some (.lst .own ys)))
          | none => .stuck) else .stuck
        | _ => .stuck)
      | _ => .stuck) := rfl
    have qq : (CE.mth m i es).quiet = (es.quiet && false) := by rw [Bool.and_false]; rfl
    rw [e1, qq] at q
    split at q <;> try exact q.elim
    rename_i ds0 hi
    obtain ⟨_, v, hv, r⟩ := st.rep i _ hi
    cases r with
    | own e1 nz wa sub na rl =>
      refine ⟨_, hv, .inl ⟨rfl, _, .inl (.inl e1)⟩, ρ, Z, w, st, RPL.seq Tn.zero q fun ds ρ1 vs H1 Z1 w1 P1 m1 r1 _ hq => ?_⟩
      have hq := hq.sub (A2 := P1) fun _ z => .inr z
      split at hq <;> try exact hq.elim
      rename_i ds1 hi1
      split at hq <;> try exact hq.elim
      rename_i hret
      split at hq <;> try exact hq.elim
      rename_i d ys hm
      obtain ⟨_, v', hv', r'⟩ := m1.s.rep i _ hi1
      rw [hv] at hv'
      obtain rfl := Option.some.inj (Option.some.inj hv')
      exact m_step m1.s hi1 hv m1.tn r1 hret hm fun v H' w' O s' n' t' r' => hq v H' Z1 w' O s' n' t' r'
  cases xs with
  | nil =>
    obtain rfl := h8 rfl
    refine PE.imp (pe_bm0 F.plainAttrs_list sl ty (mt_all m) pn (by rfl) h7) fun σ H Q q => ?_
    obtain ⟨v, hv, ty, q⟩ := key q
    refine ⟨v, hv, ty, ?_⟩
    obtain ⟨ρ, Z, w, st, q⟩ := q
    exact q [] H Z w A0 st .refl tm0 .nil fun i j h => by cases i <;> cases h
  | cons y ys =>
    have hs' := h5
    simp only [List.all_cons, Bool.and_eq_true] at hs'
    refine PE.imp (pe_bm F.plainAttrs_list sl ty (mt_all m) pn h (by rfl) ?_ h7 (star1 hs'.1) (starAny hs'.2)) fun σ H Q q => key q
    rw [starAll h5]
    have hf := of_decide_eq_true h6
    simp only [List.length_cons] at hf ⊢
    simp [backToKw, keywordEach]
    omega
/-! methods of a list within a list -/
theorem RepL.put {K : PySem.W.Frag} {H : Hp} {Z : AS} : ∀ {ds : List D} {O : AS} {vs : List V} {j : Nat} {d : D}, RepL K H Z O vs ds → D.retL ds = true → ds[j]? = some d →
    ∃ (v : V) (O1 O2 : AS), vs[j]? = some v ∧ Rep K H Z O1 v d ∧ (∀ b, O1 b → O b) ∧ (∀ b, O2 b → O b) ∧ (∀ b, O1 b → ¬ O2 b) ∧ (∀ {B : Addr} {o : HO} {xs0 : List V}, H B = some (.lst xs0) → ¬ Z B → O1 B → ∀ (d' : D) (O1' : AS), Rep K (upd H B o) Z O1' v d' → (∀ b, O1' b → ¬ O2 b) → RepL K (upd H B o) Z (fun b => O1' b ∨ O2 b) vs (ds.set j d'))
  | [], _, _, _, _, _, _, e => by simp at e
  | d :: ds, O, _, 0, _, .cons (O1 := O1) (O2 := O2) h1 h2 h3 ra rb, hr, e => by
    simp at e; subst e
    simp only [D.retL, Bool.and_eq_true] at hr
    refine ⟨_, O1, O2, rfl, ra, h1, h2, h3, fun {B o xs0} hB nz hb d' O1' r' dj => ?_⟩
    exact .cons (O1 := O1') (O2 := O2) (fun _ z => .inl z) (fun _ z => .inr z) dj r' (rb.mut hB nz (h3 B hb) hr.2)
  | d :: ds, O, _, j + 1, _, .cons (O1 := P1) (O2 := P2) h1 h2 h3 ra rb, hr, e => by
    simp only [D.retL, Bool.and_eq_true] at hr
    obtain ⟨v, O1, O2, e1, r1, g1, g2, g3, g4⟩ := RepL.put rb hr.2 (by simpa using e)
    refine ⟨v, O1, fun b => P1 b ∨ O2 b, by simpa using e1, r1, fun b z => h2 b (g1 b z), fun b z => z.elim (h1 b) fun y => h2 b (g2 b y), fun b z y => y.elim (fun x => h3 b x (g1 b z)) (g3 b z), fun {B o xs0} hB nz hb d' O1' r' dj => ?_⟩
    have nP : ¬ P1 B := fun z => h3 B z (g1 B hb)
    have rl := g4 hB nz hb d' O1' r' fun b z y => dj b z (.inr y)
    simp only [List.set_cons_succ]
    exact .cons (O1 := P1) (O2 := fun b => O1' b ∨ O2 b) (fun _ z => .inr (.inl z)) (fun _ z => z.elim .inl fun y => .inr (.inr y)) (fun b z y => y.elim (fun x => dj b x (.inl z)) fun x => h3 b z (g2 b x)) (ra.mut hB nz nP hr.1) rl
theorem retL_set2 : ∀ (ds : List D) (j : Nat) (d : D), D.retL ds = true → d.ret = true → D.retL (ds.set j d) = true
  | [], _, _, _, _ => by simp [D.retL]
  | x :: ds, 0, d, h, h2 => by
    simp only [D.retL, Bool.and_eq_true] at h
    simp only [List.set_cons_zero, D.retL, Bool.and_eq_true]
    exact ⟨h2, h.2⟩
  | x :: ds, j + 1, d, h, h2 => by
    simp only [D.retL, Bool.and_eq_true] at h
    simp only [List.set_cons_succ, D.retL, Bool.and_eq_true]
    exact ⟨h.1, retL_set2 ds j d h.2 h2⟩
section
variable {K : PySem.W.Frag} {H : Hp} {Z P : AS} {w : Ws} {σ : St} {ρ : Ev} {i : Nat} {a B : Addr}
/-- a list within the owned list of slot i is written -/
theorem S.mutI {zs zs' : List D} {us : List V} {xs0 : List V} {o : List V} {On : AS} (st : S K Z w σ ρ H) (hi : ρ[i]? = some (some (.lst .own zs))) (hv : σ[i]? = some (some (.ref a))) (ha : H a = some (.lst us)) (wa : w a = some i) (hB : H B = some (.lst xs0)) (wB : w B = some i) (hne : a ≠ B)
    (r : RepL K (upd H B (.lst o)) Z On us zs') (hr : D.retL zs' = true) (hO : ∀ b, On b → (w b = some i ∧ b ≠ a) ∨ P b) (tP : Tn H Z w P) : S K Z (wput w i (fun b => b = a ∨ On b)) σ (ρ.set i (some (.lst .own zs'))) (upd H B (.lst o)) := by
  have hlt := st.lt hi
  have nz : ¬ Z a := (st.wok a (by rw [wa]; exact fun z => nomatch z)).2
  have nzB : ¬ Z B := (st.wok B (by rw [wB]; exact fun z => nomatch z)).2
  have naO : ¬ On a := fun z => (hO a z).elim (fun y => y.2 rfl) fun y => by
    have := tP.free a y
    rw [wa] at this; cases this
  have up : ∀ b, (∃ xs, H b = some (.lst xs)) → ∃ xs, upd H B (.lst o) b = some (.lst xs) := fun b ⟨xs, e⟩ => by
    by_cases z : b = B
    · subst z; exact ⟨_, upd_same⟩
    · exact ⟨xs, by rw [upd_ne z]; exact e⟩
  refine ⟨by rw [st.len, List.length_set], fun j e hj => ?_, fun b z => up b (st.zok b z), fun b z => ?_⟩
  · by_cases e1 : j = i
    · subst e1
      rw [List.getElem?_set_self hlt] at hj
      obtain rfl := Option.some.inj (Option.some.inj hj)
      exact ⟨by simpa only [D.ret] using hr, _, hv, .own (O' := On) (by rw [upd_ne hne]; exact ha) nz (wput_i.mpr (.inl rfl)) (fun b z => wput_i.mpr (.inr z)) naO r⟩
    · rw [List.getElem?_set_ne (Ne.symm e1)] at hj
      obtain ⟨g1, u, g2, g3⟩ := st.rep j e hj
      have no : ¬ w B = some j := fun z => by rw [wB] at z; exact e1 (Option.some.inj z).symm
      have g4 := Rep.mut (o := .lst o) hB nzB no g1 g3
      refine ⟨g1, u, g2, g4.wide fun b z => (wput_j e1).mpr ⟨fun y => ?_, z⟩⟩
      rcases y with y | y
      · subst y; rw [wa] at z; exact e1 (Option.some.inj z).symm
      · rcases hO b y with x | x
        · rw [x.1] at z; exact e1 (Option.some.inj z).symm
        · rw [tP.free b x] at z; cases z
  · rcases wput_own z with y | y
    · exact ⟨up b (st.wok b y).1, (st.wok b y).2⟩
    · rcases y with y | y
      · subst y; exact ⟨up _ ⟨_, ha⟩, nz⟩
      · rcases hO b y with x | x
        · exact ⟨up b (st.wok b (by rw [x.1]; exact fun z => nomatch z)).1, (st.wok b (by rw [x.1]; exact fun z => nomatch z)).2⟩
        · exact ⟨up b (tP.lst b x), tP.nz b x⟩
theorem Nx.mutI {o : List V} {On : AS} (wa : w a = some i) (wB : w B = some i) (hO : ∀ b, On b → (w b = some i ∧ b ≠ a) ∨ P b) : Nx false P H Z w (upd H B (.lst o)) Z (wput w i (fun b => b = a ∨ On b)) := by
  have wi : ∀ b, w b = some i → w b ≠ none := fun b h => by rw [h]; exact fun z => nomatch z
  refine ⟨fun b x e _ hq => ?_, fun _ z => z, fun _ z => .inl z, fun b z => ?_⟩
  · have : b ≠ B := fun z => by
      subst z
      rcases hq with y | y
      · exact nomatch y
      · rw [wB] at y; cases y
    rw [upd_ne this]; exact e
  · rcases wput_own z with y | y
    · exact .inl y
    · rcases y with y | y
      · subst y; exact .inl (wi _ wa)
      · exact (hO b y).elim (fun x => .inl (wi b x.1)) fun x => .inr (.inr x)
theorem m_stepI {m : M1} {j : Nat} {zs xs ys ds : List D} {vs us : List V} {d : D} {Q : VK} (st : S K Z w σ ρ H) (hi : ρ[i]? = some (some (.lst .own zs))) (hv : σ[i]? = some (some (.ref a))) (ha : H a = some (.lst us)) (hj : zs[j]? = some (.lst .own xs)) (hu : us[j]? = some (.ref B)) (tP : Tn H Z w P)
    (r : RepL K H Z P vs ds) (hret : D.retL ds = true) (he : m.ev xs ds = some (d, ys))
    (h : ∀ v H' w' O, S K Z w' σ (ρ.set i (some (.lst .own (zs.set j (.lst .own ys))))) H' → Nx false P H Z w H' Z w' → Tm false P H w H' Z w' O → Rep K H' Z O v d → Q v H') : rM m (.ref B) vs H Q := by
  obtain ⟨hr0, v0, hv0, r0⟩ := st.rep i _ hi
  rw [hv] at hv0
  obtain rfl := Option.some.inj (Option.some.inj hv0)
  have hrz : D.retL zs = true := by simpa only [D.ret] using hr0
  have hrx : D.retL xs = true := by simpa only [D.ret] using retL_get hrz hj
  cases r0 with
  | own e1 nz wa sub na rl =>
    rename_i O' us1
    rw [ha] at e1
    obtain rfl : us = us1 := by cases e1; rfl
    have dP : ∀ b, O' b → ¬ P b := fun b z y => by
      have x : w b = some i := sub b z
      rw [tP.free b y] at x; cases x
    -- where the inner list stands
    obtain ⟨v, O1, O2, f1, f2, f3, f4, f5, f6⟩ := RepL.put rl hrz hj
    rw [hu] at f1
    obtain rfl := Option.some.inj f1
    have : ∃ O'' xs0, H B = some (.lst xs0) ∧ ¬ Z B ∧ O1 B ∧ (∀ b, O'' b → O1 b) ∧ ¬ O'' B ∧ RepL K H Z O'' xs0 xs := by
      cases f2 with
      | own k1 k2 k3 k4 k5 k6 => exact ⟨_, _, k1, k2, k3, k4, k5, k6⟩
    obtain ⟨O'', xs0, k1, k2, k3, k4, k5, k6⟩ := this
    have wB : w B = some i := sub B (f3 B k3)
    have hne : a ≠ B := fun e => by subst e; exact na (f3 _ k3)
    have nPB : ¬ P B := fun z => by rw [tP.free B z] at wB; cases wB
    have dP2 : ∀ b, O'' b → ¬ P b := fun b z => dP b (f3 b (k4 b z))
    refine m_core (O' := O'') hrx k1 k2 k5 k6 nPB dP2 (fun b z => tP.ne b z) (fun b z => by
      obtain ⟨⟨xs, e⟩, _⟩ := st.wok b (by rw [sub b (f3 b (k4 b z))]; exact fun x => nomatch x)
      rw [e]; exact fun x => nomatch x) r hret he fun us' Oy v O ry hry hOy hO rv => ?_
    have hB2 : ∀ b, Oy b → w b = some i ∨ P b := fun b z => (hOy b z).imp (fun y => sub b (f3 b (k4 b y))) id
    have nOyB : ¬ Oy B := fun z => (hOy B z).elim k5 nPB
    have rnew : Rep K (upd H B (.lst us')) Z (fun b => b = B ∨ Oy b) (.ref B) (.lst .own ys) := .own (O' := Oy) upd_same k2 (.inl rfl) (fun _ z => .inr z) nOyB ry
    have rall := f6 (o := .lst us') k1 k2 k3 _ _ rnew fun b z y => by
      rcases z with z | z
      · subst z; exact f5 _ k3 y
      · rcases hOy b z with x | x
        · exact f5 b (k4 b x) y
        · exact dP b (f4 b y) x
    have hOn : ∀ b, ((b = B ∨ Oy b) ∨ O2 b) → (w b = some i ∧ b ≠ a) ∨ P b := fun b z => by
      rcases z with (z | z) | z
      · subst z; exact .inl ⟨wB, fun e => hne e.symm⟩
      · rcases hOy b z with x | x
        · exact .inl ⟨sub b (f3 b (k4 b x)), fun e => by subst e; exact na (f3 _ (k4 _ x))⟩
        · exact .inr x
      · exact .inl ⟨sub b (f4 b z), fun e => by subst e; exact na (f4 _ z)⟩
    have hrn : D.retL (zs.set j (.lst .own ys)) = true := retL_set2 _ _ _ hrz (by simpa only [D.ret] using hry)
    refine h v _ _ O (st.mutI hi hv ha wa k1 wB hne rall hrn hOn tP) (Nx.mutI wa wB hOn) ⟨fun b z => ?_, fun b z => ?_, fun b z => ?_, fun b z => ?_⟩ rv
    · have hn := (hO b z).2
      have hba : b ≠ a := fun e => by
        subst e
        rcases (hO _ z).1 with y | y
        · exact na (f3 _ (k4 _ y))
        · have := tP.free _ y
          rw [wa] at this; cases this
      have hbB : b ≠ B := fun e => by subst e; exact ((hO _ z).1.elim k5 nPB)
      have h2 : ¬ O2 b := fun y => by
        rcases (hO b z).1 with x | x
        · exact f5 b (k4 b x) y
        · exact dP b (f4 b y) x
      unfold wput
      simp only [hba, hbB, hn, h2, or_self, if_false]
      rcases (hO b z).1 with y | y
      · simp [sub b (f3 b (k4 b y))]
      · simp [tP.free b y]
    · rcases (hO b z).1 with y | y
      · exact (st.wok b (by rw [sub b (f3 b (k4 b y))]; exact fun z => nomatch z)).2
      · exact tP.nz b y
    · have hbB : b ≠ B := fun e => by subst e; exact ((hO _ z).1.elim k5 nPB)
      rw [upd_ne hbB]
      rcases (hO b z).1 with y | y
      · exact (st.wok b (by rw [sub b (f3 b (k4 b y))]; exact fun z => nomatch z)).1
      · exact tP.lst b y
    · rcases (hO b z).1 with y | y
      · exact .inl ⟨rfl, by rw [sub b (f3 b (k4 b y))]; exact fun z => nomatch z⟩
      · exact .inr (.inr y)
end
section
variable {X : Cx} {p : Wd} {s : Sx} {g : Gs}
theorem e_mti {m : M1} {i j : Nat} {es : CL} {x nm : Str} {k : Int} {kk : Nat} {px pk ps ap cp : Pos} {xs : List Expr} (ok : Ok X p s g) (h1 : decide (s.N[i]? = some x) = true) (h2 : visB s.sc x = true) (h3 : dbg x = true) (hk : decide (k = (j : Int)) = true) (h4 : decide (nm = m.nm) = true) (h5 : xs.all noStar = true) (h6 : fewB xs = true)
    (h7 : (ap.endLine == cp.line) = true) (h8 : xs ≠ []) (h : PA X xs (tL p es es.quiet (es.ev g))) : PE X (.Call (.Attribute (.Subscript (.Name x px) (.Constant (.int k) kk pk) ps) nm ap) xs [] cp) (tE p (CE.mti m i j es).quiet ((CE.mti m i j es).ev g false)) := by
  obtain rfl := of_decide_eq_true h4
  obtain rfl := of_decide_eq_true hk
  obtain ⟨sl, ty⟩ := slot_all m
  have pn := pe_var (X := X) (pos := px) (ok.has h1) (ok.vis x h2) (dbg1 h3).1 (dbg1 h3).2.1
  have pr := pe_ix (X := X) (pos := ps) ix_seq pn (pe_int (X := X) (i := (j : Int)) (j := kk) (pos := pk)) (plainIx rfl)
  have key : ∀ {σ H Q}, tE p (CE.mti m i j es).quiet ((CE.mti m i j es).ev g false) σ H Q → ∃ v, σ[i]? = some (some v) ∧ rIx X.K v (.int (j : Int)) H fun x H1 => tyV X.K "list" x H1 ∧ tL p es es.quiet (es.ev g) σ H1 fun vs H2 => rM m x vs H2 Q := fun {σ H Q} q => by
    obtain ⟨ρ, Z, w, st, q⟩ := q
    have e1 : (CE.mti m i j es).ev g false ρ = (match ρ[i]? with
      | some (some (.lst .own zs0)) => (match zs0[j]? with
        | some (.lst .own _) => if es.quiet then (es.ev g ρ).bind fun ds ρ1 => (match ρ1[i]? with
          | some (some (.lst .own zs)) => (match zs[j]? with
            | some (.lst .own xs) => if D.retL ds then (match m.ev xs ds with
              | some (d, ys) => .ok d (ρ1.set i (some (.lst .own (zs.set j (.lst .own ys)))))
              | none => .stuck) else .stuck
            | _ => .stuck)
          | _ => .stuck) else .stuck
        | _ => .stuck)
      | _ => .stuck) := rfl
    have qq : (CE.mti m i j es).quiet = (es.quiet && false) := by rw [Bool.and_false]; rfl
    rw [e1, qq] at q
    split at q <;> try exact q.elim
    rename_i zs0 hi
    split at q <;> try exact q.elim
    rename_i xs0 hj
    split at q <;> try exact q.elim
    rename_i hquiet
    obtain ⟨_, v, hv, r⟩ := st.rep i _ hi
    cases r with
    | own e1 nz wa sub na rl =>
      rename_i O' a us
      obtain ⟨vB, g1, rB⟩ := RepL.get rl hj
      have : ∃ B ys, vB = .ref B ∧ H B = some (.lst ys) := by
        cases rB with
        | own k1 _ _ _ _ _ => exact ⟨_, _, rfl, k1⟩
      obtain ⟨B, ys0, rfl, hB⟩ := this
      have hat : atI us (j : Int) = some (.ref B) := by
        have hlt : j < us.length := (List.getElem?_eq_some_iff.mp g1).1
        unfold atI ixN
        rw [if_pos (by omega), if_pos (by omega)]
        simpa using g1
      refine ⟨_, hv, .inl ⟨a, us, _, _, rfl, rfl, .inl (.inl e1), hat, .inl ⟨rfl, _, .inl (.inl hB)⟩, ρ, Z, w, st, RPL.seq Tn.zero q fun ds ρ1 vs H1 Z1 w1 P1 m1 r1 _ hq => ?_⟩⟩
      have hq := hq.sub (A2 := P1) fun _ z => .inr z
      split at hq <;> try exact hq.elim
      rename_i zs hi1
      split at hq <;> try exact hq.elim
      rename_i xs hj1
      split at hq <;> try exact hq.elim
      rename_i hret
      split at hq <;> try exact hq.elim
      rename_i d ys hm
      have ha1 : H1 a = some (.lst us) := m1.n.keep a _ e1 (fun z => z.elim) (.inl hquiet)
      exact m_stepI m1.s hi1 hv ha1 hj1 g1 m1.tn r1 hret hm fun v H' w' O s' n' t' r' => hq v H' Z1 w' O s' n' t' r'
  cases xs with
  | nil => exact absurd rfl h8
  | cons y ys =>
    have hs' := h5
    simp only [List.all_cons, Bool.and_eq_true] at hs'
    refine PE.imp (pe_bm F.plainAttrs_list sl ty (mt_all m) pr h (by rfl) ?_ h7 (star1 hs'.1) (starAny hs'.2)) fun σ H Q q => key q
    rw [starAll h5]
    have hf := of_decide_eq_true h6
    simp only [List.length_cons] at hf ⊢
    simp [backToKw, keywordEach]
    omega
end
/-! methods of a value -/
def PM.T : PM → String
  | .index => "list"
  | .count => "list"
  | _ => "str"
def PM.id : PM → String
  | .index => "list.index"
  | .count => "list.count"
  | .split => "str.split"
  | .startswith => "str.startswith"
  | .removeprefix => "str.removeprefix"
theorem pm_slot : ∀ m : PM, PlainAttrs m.T ∧ Slot m.T m.nm m.id ∧ typeOf (.builtin m.id) = pure (.type "method_descriptor")
  | .index => ⟨F.plainAttrs_list, F.slot_list_index, F.type_list_index⟩
  | .count => ⟨F.plainAttrs_list, F.slot_list_count, F.type_list_count⟩
  | .split => ⟨F.plainAttrs_str, F.slot_str_split, F.type_str_split⟩
  | .startswith => ⟨F.plainAttrs_str, F.slot_str_startswith, F.type_str_startswith⟩
  | .removeprefix => ⟨F.plainAttrs_str, F.slot_str_removeprefix, F.type_str_removeprefix⟩
def rPM (K : PySem.W.Frag) (m : PM) : V → List V → Hp → VK → Prop := fun x vs H Q => ∃ (Z P1 P2 : AS) (d : D) (ds : List D) (r : D), Rep K H Z P1 x d ∧ RepL K H Z P2 vs ds ∧ (∀ a, P1 a → H a ≠ none) ∧ (∀ a, P2 a → H a ≠ none) ∧ (∀ a, Z a → H a ≠ none) ∧ m.ev d ds = some r ∧ Hand K H Z (fun a => P1 a ∨ P2 a) r Q
theorem RepL.ofStrs {K : PySem.W.Frag} {H : Hp} {Z : AS} : ∀ ys : List Str, RepL K H Z A0 (ys.map V.str) (ys.map D.str)
  | [] => .nil
  | _ :: ys => .cons (O1 := A0) (O2 := A0) (fun _ z => z) (fun _ z => z) (fun _ z => z.elim) .str (RepL.ofStrs ys)
theorem MtR.imp' {id : String} {r r' : V → List V → Hp → VK → Prop} (h : MtR X id r) (i : ∀ x xs H Q, r' x xs H Q → r x xs H Q) : MtR X id r' :=
  fun pins s σ H x xs v us Q I rx rv q => h pins s σ H x xs v us Q I rx rv (i _ _ _ _ q)
theorem mt_pm : ∀ m : PM, MtR X m.id (rPM X.K m)
  | .index => by
    refine MtR.imp' mt_index fun x xs H Q h => ?_
    obtain ⟨Z, P1, P2, d, ds, r, rd, rs, l1, l2, lz, he, hd⟩ := h
    unfold PM.ev at he
    split at he <;> try contradiction
    all_goals rename_i hm; cases hm
    split at he <;> try contradiction
    rename_i o es e hf
    simp only [Bool.and_eq_true] at hf
    obtain ⟨j, hj, rfl⟩ := Option.map_eq_some_iff.mp he
    obtain ⟨hlt, h1, h2⟩ := List.findIdx?_eq_some_iff_getElem.mp hj
    obtain ⟨a, ys, rfl, ha, ra⟩ := rd.lstRd
    obtain ⟨v, rfl, rv⟩ := rs.one
    obtain rfl := rv.toV hf.1
    obtain rfl := ra.toV hf.2
    refine ⟨a, _, _, j, es[j].toV, rfl, rfl, ha, flat_flatV hf.1, flats hf.2, by rw [List.getElem?_map, List.getElem?_eq_getElem hlt]; rfl, h1, fun m z' hm hz => ?_, hd.int⟩
    rw [List.getElem?_map, List.getElem?_eq_getElem (by omega)] at hz
    cases hz
    have := h2 m hm
    simpa using this
  | .count => by
    refine MtR.imp' mt_lcount fun x xs H Q h => ?_
    obtain ⟨Z, P1, P2, d, ds, r, rd, rs, l1, l2, lz, he, hd⟩ := h
    unfold PM.ev at he
    split at he <;> try contradiction
    all_goals rename_i hm; cases hm
    obtain ⟨ns, hn, rfl⟩ := Option.map_eq_some_iff.mp he
    obtain ⟨a, ys, rfl, ha, ra⟩ := rd.lstRd
    obtain ⟨v, rfl, rv⟩ := rs.one
    cases rv
    obtain rfl := ra.ints hn
    exact ⟨a, ns, _, rfl, rfl, ha, hd.int⟩
  | .split => by
    refine MtR.imp' mt_split fun x xs H Q h => ?_
    obtain ⟨Z, P1, P2, d, ds, r, rd, rs, l1, l2, lz, he, hd⟩ := h
    unfold PM.ev at he
    split at he <;> try contradiction
    all_goals rename_i hm; cases hm
    split at he <;> try contradiction
    rename_i hf
    simp only [Bool.and_eq_true, Bool.not_eq_true', decide_eq_true_eq] at hf
    obtain rfl := Option.some.inj he
    obtain ⟨v, rfl, rv⟩ := rs.one
    cases rv; cases rd
    exact ⟨_, _, rfl, rfl, hf.1, hf.2, fun p hp => (hd.mono' (O2 := A0) fun _ z => z.elim).lst (RepL.ofStrs _) (fun _ z => z.elim) lz hp⟩
  | .startswith => by
    refine MtR.imp' mt_startswith fun x xs H Q h => ?_
    obtain ⟨Z, P1, P2, d, ds, r, rd, rs, l1, l2, lz, he, hd⟩ := h
    unfold PM.ev at he
    split at he <;> try contradiction
    all_goals rename_i hm; cases hm
    obtain rfl := Option.some.inj he
    obtain ⟨v, rfl, rv⟩ := rs.one
    cases rv; cases rd
    exact ⟨_, _, rfl, rfl, hd.bl⟩
  | .removeprefix => by
    refine MtR.imp' mt_removeprefix fun x xs H Q h => ?_
    obtain ⟨Z, P1, P2, d, ds, r, rd, rs, l1, l2, lz, he, hd⟩ := h
    unfold PM.ev at he
    split at he <;> try contradiction
    all_goals rename_i hm; cases hm
    split at he <;> try contradiction
    rename_i hf
    obtain rfl := Option.some.inj he
    obtain ⟨v, rfl, rv⟩ := rs.one
    cases rv; cases rd
    exact ⟨_, _, rfl, rfl, of_decide_eq_true hf, hd.str⟩
theorem pm_tyV {m : PM} {K : PySem.W.Frag} {H : Hp} {Z O : AS} {v : V} {d : D} (r : Rep K H Z O v d) (h : m.onD d = true) : tyV K m.T v H := by
  unfold PM.onD at h
  split at h <;> try contradiction
  · obtain ⟨a, xs, rfl, ha, _⟩ := r.lstRd
    exact .inl ⟨rfl, xs, ha⟩
  · obtain ⟨a, xs, rfl, ha, _⟩ := r.lstRd
    exact .inl ⟨rfl, xs, ha⟩
  · cases r; rfl
  · cases r; rfl
  · cases r; rfl
theorem e_pm {m : PM} {a : CE} {es : CL} {o : Expr} {nm : Str} {ap cp : Pos} {y : Expr} {ys : List Expr} (ok : Ok X p s g) (h4 : decide (nm = m.nm) = true) (hb : noC0 o = true) (h5 : (y :: ys).all noStar = true) (h6 : fewB (y :: ys) = true)
    (h7 : (ap.endLine == cp.line) = true) (ha : PE X o (tE p a.quiet (a.ev g false))) (h : PA X (y :: ys) (tL p es es.quiet (es.ev g))) : PE X (.Call (.Attribute o nm ap) (y :: ys) [] cp) (tE p (CE.pm m a es).quiet ((CE.pm m a es).ev g false)) := by
  obtain rfl := of_decide_eq_true h4
  obtain ⟨pa, sl, ty⟩ := pm_slot m
  have hs' := h5
  simp only [List.all_cons, Bool.and_eq_true] at hs'
  refine PE.imp (pe_bm pa sl ty (mt_pm m) ha h (attrBase hb) ?_ h7 (star1 hs'.1) (starAny hs'.2)) fun σ H Q q => ?_
  · rw [starAll h5]
    have hf := of_decide_eq_true h6
    simp only [List.length_cons] at hf ⊢
    simp [backToKw, keywordEach]
    omega
  obtain ⟨ρ, Z, w, st, q⟩ := q
  refine ⟨ρ, Z, w, st, RP.seq Tn.zero q fun d ρ1 v H1 Z1 w1 P1 m1 r1 h1 => ?_⟩
  split at h1
  · rename_i hon
    refine ⟨pm_tyV (by rw [← ok.K]; exact r1) hon, ρ1, Z1, w1, m1.s, RPL.seq (q2 := true) m1.all (by rw [Bool.and_true]; exact h1) fun ds ρ2 vs H2 Z2 w2 P2 m2 r2 _ h2 => ?_⟩
    split at h2
    · rename_i hg
      obtain ⟨r, he, hd⟩ := RP.hand m2.s m2.all h2
      rw [← ok.K]
      exact ⟨Z2, P1, P2, d, ds, r, Rep.mid m1.s m2 (fun _ z => .inr z) m1.all hg r1, r2, fun a z => m2.a.ne a (.inr z), m2.tn.ne, m2.s.zne, he, hd.mono fun a z => z.elim (fun y => .inl (.inr y)) .inr⟩
    · exact h2.elim
  · exact h1.elim
/-! ### what is walked -/
/-- the frozen part stays -/
structure Later (H : Hp) (Z : AS) (H' : Hp) (Z' : AS) : Prop where
  keep : ∀ a o, H a = some o → ((∃ xs, o = .lst xs) → Z a) → H' a = some o
  zin : ∀ a, Z a → Z' a
theorem Later.refl {H : Hp} {Z : AS} : Later H Z H Z := ⟨fun _ _ h _ => h, fun _ h => h⟩
theorem Later.trans {H H1 H2 : Hp} {Z Z1 Z2 : AS} (a : Later H Z H1 Z1) (b : Later H1 Z1 H2 Z2) : Later H Z H2 Z2 :=
  ⟨fun x o h k => b.keep x o (a.keep x o h k) fun e => a.zin x (k e), fun x h => b.zin x (a.zin x h)⟩
theorem Nx.lat {K : PySem.W.Frag} {q : Bool} {A Z Z' : AS} {H H' : Hp} {w w' : Ws} {σ : St} {ρ : Ev} (st : S K Z w σ ρ H) (n : Nx q A H Z w H' Z' w') (tA : Tn H Z w A) : Later H Z H' Z' := by
  refine ⟨fun a o h k => ?_, n.zin⟩
  refine n.keep a o h (fun z => ?_) ?_
  · obtain ⟨xs, e⟩ := tA.lst a z
    rw [h] at e; cases e
    exact tA.nz a z (k ⟨_, rfl⟩)
  · cases e : w a with
    | none => exact .inr rfl
    | some i =>
      obtain ⟨⟨xs, e2⟩, nz⟩ := st.wok a (by rw [e]; exact fun z => nomatch z)
      rw [h] at e2; cases e2
      exact absurd (k ⟨_, rfl⟩) nz
theorem Later.same {H H' : Hp} {Z : AS} (h : Same H H') : Later H Z H' Z := ⟨fun a o e _ => h a o e, fun _ z => z⟩
section
variable {K : PySem.W.Frag} {H H' : Hp} {Z Z' : AS}
theorem sqT_lat (l : Later H Z H' Z') {a : Addr} {xs : List V} (h : SqT K H a xs) : SqT K H' a xs := by
  rcases h with (h | ⟨o, h⟩) | h
  · exact .inl (.inl (l.keep _ _ h fun ⟨_, e⟩ => nomatch e))
  · exact .inl (.inr ⟨o, l.keep _ _ h fun ⟨_, e⟩ => nomatch e⟩)
  · exact .inr h
theorem sqF_lat (l : Later H Z H' Z') {a : Addr} {xs : List V} (h : SqF K H Z a xs) : SqF K H' Z' a xs := by
  rcases h with ⟨z, h⟩ | ⟨o, h⟩ | h
  · exact .inl ⟨l.zin _ z, l.keep _ _ h fun _ => z⟩
  · exact .inr (.inl ⟨o, l.keep _ _ h fun ⟨_, e⟩ => nomatch e⟩)
  · exact .inr (.inr h)
mutual
theorem Rep.lat (l : Later H Z H' Z') : ∀ (d : D) (O O2 : AS) (v : V), d.fz = true → Rep K H Z O v d → Rep K H' Z' O2 v d
  | .non, _, _, _, _, .non => .non
  | .bl _, _, _, _, _, .bl => .bl
  | .int _, _, _, _, _, .int => .int
  | .str _, _, _, _, _, .str => .str
  | .tup ds, _, _, _, h, .tup s r => .tup (sqT_lat l s) (RepL.lat l ds _ _ _ (by simpa only [D.fz] using h) r)
  | .lst .frz ds, _, _, _, h, .frz s r f => .frz (sqF_lat l s) (RepL.lat l ds _ _ _ f r) f
  | .lst .own ds, _, _, _, h, _ => by simp [D.fz] at h
  | .lst .brw ds, _, _, _, h, _ => by simp [D.fz] at h
theorem RepL.lat (l : Later H Z H' Z') : ∀ (ds : List D) (O O2 : AS) (vs : List V), D.fzL ds = true → RepL K H Z O vs ds → RepL K H' Z' O2 vs ds
  | [], _, _, _, _, .nil => .nil
  | d :: ds, _, _, _, h, .cons h1 h2 h3 a b => by
    simp only [D.fzL, Bool.and_eq_true] at h
    exact .cons (O1 := A0) (O2 := A0) (fun _ z => z.elim) (fun _ z => z.elim) (fun _ z => z.elim) (Rep.lat l d _ _ _ h.1 a) (RepL.lat l ds _ _ _ h.2 b)
end
/-- an iterator over the data xs -/
def ItOk (K : PySem.W.Frag) (J : It) (H : Hp) (Z : AS) (xs : List D) : Prop :=
  D.fzL xs = true ∧ ∀ H' Z', Later H Z H' Z' → (∀ i, xs.length ≤ i → J.stop i H') ∧ ∀ i d, xs[i]? = some d → J.go i H' ∧ ∀ x H'', J.yld i H' x H'' → Same H' H'' ∧ Rep K H'' Z' A0 x d
theorem fzL_get : ∀ {xs : List D} {i : Nat} {d : D}, D.fzL xs = true → xs[i]? = some d → d.fz = true
  | [], _, _, _, e => by simp at e
  | x :: xs, 0, _, h, e => by
    simp only [D.fzL, Bool.and_eq_true] at h
    simp at e; subst e
    exact h.1
  | x :: xs, i + 1, _, h, e => by
    simp only [D.fzL, Bool.and_eq_true] at h
    exact fzL_get h.2 (by simpa using e)
theorem it_list {a : Addr} {vs : List V} {ds : List D} {O : AS} (hs : SqF K H Z a vs) (r : RepL K H Z O vs ds) (hf : D.fzL ds = true) : ItOk K (Itl K a) H Z ds := by
  refine ⟨hf, fun H' Z' l => ⟨fun i h => ⟨vs, (sqF_lat l hs).sq, by rw [r.len]; exact h⟩, fun i d e => ?_⟩⟩
  obtain ⟨v, e1, rv⟩ := r.get e
  refine ⟨⟨vs, v, (sqF_lat l hs).sq, e1⟩, fun x H'' y => ?_⟩
  obtain ⟨rfl, y⟩ := y
  have e2 := y vs (sqF_lat l hs).sq
  rw [e1] at e2; cases e2
  exact ⟨Same.refl _, Rep.lat l d _ _ _ (fzL_get hf e) rv⟩
theorem it_tup {a : Addr} {vs : List V} {ds : List D} {O : AS} (hs : SqT K H a vs) (r : RepL K H Z O vs ds) (hf : D.fzL ds = true) : ItOk K (Itt K a) H Z ds := by
  refine ⟨hf, fun H' Z' l => ⟨fun i h => ⟨vs, sqT_lat l hs, by rw [r.len]; exact h⟩, fun i d e => ?_⟩⟩
  obtain ⟨v, e1, rv⟩ := r.get e
  refine ⟨⟨vs, v, sqT_lat l hs, e1⟩, fun x H'' y => ?_⟩
  obtain ⟨rfl, y⟩ := y
  have e2 := y vs (sqT_lat l hs)
  rw [e1] at e2; cases e2
  exact ⟨Same.refl _, Rep.lat l d _ _ _ (fzL_get hf e) rv⟩
theorem fz_strD (x : List Nat) : D.fzL (x.map fun c => D.str ⟨#[c]⟩) = true := by
  induction x with
  | nil => rfl
  | cons c x ih => simp only [List.map_cons, D.fzL, Bool.and_eq_true]; exact ⟨rfl, ih⟩
theorem it_str {x : Str} : ItOk K (Its x) H Z (strD x) := by
  refine ⟨fz_strD _, fun H' Z' l => ⟨fun i h => ?_, fun i d e => ?_⟩⟩
  · show x.cps.size ≤ i
    simpa [strD] using h
  · simp only [strD, List.getElem?_map, Option.map_eq_some_iff, Array.getElem?_toList] at e
    obtain ⟨c, e1, rfl⟩ := e
    refine ⟨(Array.getElem?_eq_some_iff.mp e1).1, fun v H'' y => ?_⟩
    obtain ⟨rfl, c', e2, rfl⟩ := y
    rw [e1] at e2; cases e2
    exact ⟨Same.refl _, .str⟩
theorem fz_range (i j : Int) : D.fzL (rangeD i j) = true := by
  unfold rangeD
  generalize List.range (j - i).toNat = l
  induction l with
  | nil => rfl
  | cons c x ih => simp only [List.map_cons, D.fzL, Bool.and_eq_true]; exact ⟨rfl, ih⟩
theorem it_range {i j : Int} : ItOk K (Itr i (j - i).toNat) H Z (rangeD i j) := by
  refine ⟨fz_range i j, fun H' Z' l => ⟨fun k h => ?_, fun k d e => ?_⟩⟩
  · show (j - i).toNat ≤ k
    simpa [rangeD] using h
  · simp only [rangeD, List.getElem?_map, Option.map_eq_some_iff] at e
    obtain ⟨c, e1, rfl⟩ := e
    obtain ⟨hlt, hc⟩ := List.getElem?_eq_some_iff.mp e1
    simp only [List.length_range] at hlt
    simp only [List.getElem_range] at hc
    subst hc
    refine ⟨hlt, fun v H'' y => ?_⟩
    obtain ⟨rfl, rfl⟩ := y
    exact ⟨Same.refl _, .int⟩
theorem fz_zip : ∀ xs ys : List D, D.fzL xs = true → D.fzL ys = true → D.fzL (List.zipWith (fun x y => D.tup [x, y]) xs ys) = true
  | [], _, _, _ => by simp [D.fzL]
  | _ :: _, [], _, _ => by simp [D.fzL]
  | x :: xs, y :: ys, h1, h2 => by
    simp only [D.fzL, Bool.and_eq_true] at h1 h2
    simp only [List.zipWith_cons_cons, D.fzL, D.fz, Bool.and_eq_true, Bool.and_true]
    exact ⟨⟨h1.1, h2.1⟩, fz_zip xs ys h1.2 h2.2⟩
theorem tup2 {p : Addr} {x y : V} {d e : D} {H : Hp} {Z : AS} (hp : H p = none) (r1 : Rep K H Z A0 x d) (r2 : Rep K H Z A0 y e) : Rep K (upd H p (.tup [x, y])) Z A0 (.ref p) (.tup [d, e]) :=
  Rep.newTup hp (.cons (O1 := A0) (O2 := A0) (fun _ z => z) (fun _ z => z) (fun _ z => z.elim) r1 (.cons (O1 := A0) (O2 := A0) (fun _ z => z) (fun _ z => z) (fun _ z => z.elim) r2 .nil))
theorem it_zip {a b : Addr} {vs us : List V} {ds es : List D} {O O2 : AS} (hs : SqF K H Z a vs) (hs2 : SqF K H Z b us) (r : RepL K H Z O vs ds) (r2 : RepL K H Z O2 us es) (hf : D.fzL ds = true) (hf2 : D.fzL es = true) :
    ItOk K (Itz K a b) H Z (List.zipWith (fun x y => D.tup [x, y]) ds es) := by
  refine ⟨fz_zip _ _ hf hf2, fun H' Z' l => ⟨fun i h => ⟨vs, us, (sqF_lat l hs).sq, (sqF_lat l hs2).sq, ?_⟩, fun i d e => ?_⟩⟩
  · rw [r.len, r2.len]
    simp only [List.length_zipWith] at h
    omega
  · simp only [List.getElem?_zipWith] at e
    split at e <;> try contradiction
    rename_i d1 d2 e1 e2
    cases e
    obtain ⟨v, g1, rv⟩ := r.get e1
    obtain ⟨u, g2, ru⟩ := r2.get e2
    refine ⟨⟨vs, us, v, u, (sqF_lat l hs).sq, (sqF_lat l hs2).sq, g1, g2⟩, fun x H'' y => ?_⟩
    obtain ⟨T, x1, x2, rfl, nT, rfl, f1, f2⟩ := y
    have q1 := f1 vs (sqF_lat l hs).sq
    have q2 := f2 us (sqF_lat l hs2).sq
    rw [g1] at q1; cases q1
    rw [g2] at q2; cases q2
    exact ⟨same_upd nT, tup2 nT (Rep.lat l _ _ _ _ (fzL_get hf e1) rv) (Rep.lat l _ _ _ _ (fzL_get hf2 e2) ru)⟩
theorem it_enum {a : Addr} {vs : List V} {ds : List D} {O : AS} (hs : SqF K H Z a vs) (r : RepL K H Z O vs ds) (hf : D.fzL ds = true) : ItOk K (Ite K a) H Z (enumD ds) := by
  have hz : ∀ (ds : List D) (k : Nat), D.fzL ds = true → D.fzL ((ds.zipIdx k).map fun p => D.tup [.int (p.2 : Nat), p.1]) = true := by
    intro ds
    induction ds with
    | nil => intro k _; rfl
    | cons d ds ih =>
      intro k h
      simp only [D.fzL, Bool.and_eq_true] at h
      simp only [List.zipIdx_cons, List.map_cons, D.fzL, D.fz, Bool.and_eq_true, Bool.and_true, Bool.true_and]
      exact ⟨h.1, ih _ h.2⟩
  refine ⟨hz ds 0 hf, fun H' Z' l => ⟨fun i h => ⟨vs, (sqF_lat l hs).sq, by rw [r.len]; simpa [enumD] using h⟩, fun i d e => ?_⟩⟩
  simp only [enumD, List.getElem?_map, List.getElem?_zipIdx, Option.map_eq_some_iff] at e
  obtain ⟨q, ⟨d1, e1, rfl⟩, rfl⟩ := e
  obtain ⟨v, g1, rv⟩ := r.get e1
  refine ⟨⟨vs, v, (sqF_lat l hs).sq, g1⟩, fun x H'' y => ?_⟩
  obtain ⟨T, x1, rfl, nT, rfl, f1⟩ := y
  have q1 := f1 vs (sqF_lat l hs).sq
  rw [g1] at q1; cases q1
  refine ⟨same_upd nT, ?_⟩
  simp only [Nat.zero_add]
  exact tup2 nT .int (Rep.lat l _ _ _ _ (fzL_get hf e1) rv)
end
end
end PD
set_option Elab.async false
set_option linter.all false
set_option maxRecDepth 100000
set_option maxHeartbeats 4000000
/-! PdO: targets; iterables. -/
namespace PD
open PySem L2
/-- the names behind an assignment -/
structure Kp (kp sl : List Nat) (σ σ' : St) : Prop where
  len : σ'.length = σ.length
  kept : ∀ j, kp.contains j = true → σ'[j]? = σ[j]?
  out : ∀ j, j ∉ sl → σ'[j]? = σ[j]?
def tG (p : Wd) (kp sl : List Nat) (f : D → Ev → Option Ev) : TG := fun v σ H R => ∃ d ρ Z w O, S p.K Z w σ ρ H ∧ Tn H Z w O ∧ Rep p.K H Z O v d ∧ ∃ ρ', f d ρ = some ρ' ∧
  ∀ σ' w', S p.K Z w' σ' ρ' H → (∀ a, w' a ≠ none → w a ≠ none ∨ O a) → Kp kp sl σ σ' → R σ' H
def tGs (p : Wd) (kp sl : List Nat) (f : List D → Ev → Option Ev) : TGs := fun v σ H R => ∃ d ρ Z w O, S p.K Z w σ ρ H ∧ Tn H Z w O ∧ RepL p.K H Z O v d ∧ ∃ ρ', f d ρ = some ρ' ∧
  ∀ σ' w', S p.K Z w' σ' ρ' H → (∀ a, w' a ≠ none → w a ≠ none ∨ O a) → Kp kp sl σ σ' → R σ' H
section
variable {X : Cx} {p : Wd} {s : Sx} {g : Gs} {pos : Pos}
theorem PG.imp {e : Expr} {t t' : TG} (h : PG X e t) (i : ∀ v σ H Q, t' v σ H Q → t v σ H Q) : PG X e t' := ⟨fun pins s σ H v u Q I r q => h.run pins s σ H v u Q I r (i _ _ _ _ q)⟩
theorem PGs.imp {e : List Expr} {t t' : TGs} (h : PGs X e t) (i : ∀ v σ H Q, t' v σ H Q → t v σ H Q) : PGs X e t' := ⟨fun pins s σ H v u Q I r q => h.run pins s σ H v u Q I r (i _ _ _ _ q)⟩
theorem assign1 {e : Expr} {es : List Expr} {env : Env} (h : noStar e = true) : assignEach (e :: es) env = (false, assign e env) :: assignEach es env := by
  cases e <;> first | rfl | simp [noStar] at h
theorem assignLen {env : Env} : ∀ {es : List Expr}, es.all noStar = true → (assignEach es env).length = es.length ∧ (assignEach es env).findIdx? (·.1) = none
  | [], _ => ⟨rfl, rfl⟩
  | e :: es, h => by
    simp only [List.all_cons, Bool.and_eq_true] at h
    rw [assign1 h.1]
    obtain ⟨h1, h2⟩ := assignLen (env := env) h.2
    refine ⟨by simp [h1], ?_⟩
    rw [List.findIdx?_cons, h2]
    rfl
theorem okTg_star {t : Tg} {e : Expr} (h : okTg s t e = true) : noStar e = true := by
  cases t <;> cases e <;> first | rfl | simp [okTg] at h
mutual
theorem g_all (ok : Ok X p s g) (kp : List Nat) : ∀ (t : Tg) (e : Expr), okTg s t e = true → PG X e (tG p kp t.slots (t.st kp))
  | .nm i, e, h => by
    cases e <;> simp only [okTg] at h <;> try contradiction
    rename_i x px
    simp only [Bool.and_eq_true] at h
    obtain ⟨hl, hf⟩ := ok.sto x h.2
    refine PG.imp (pg_name (by rw [ok.N]; exact ok.nd) (ok.has h.1) hl hf) fun v σ H Q q => ?_
    obtain ⟨d, ρ, Z, w, O, st, tn, r, ρ', e, q⟩ := q
    simp only [Tg.st] at e
    split at e <;> try contradiction
    rename_i hc
    simp only [Bool.and_eq_true, decide_eq_true_eq, Bool.not_eq_true'] at hc
    cases e
    refine q _ _ (st.store hc.2 r hc.1.1 tn) (fun a z => wput_own z) ⟨by simp, fun j hj => ?_, fun j hj => ?_⟩
    · refine List.getElem?_set_ne fun e => ?_
      subst e
      rw [hc.1.2] at hj; cases hj
    · refine List.getElem?_set_ne fun e => ?_
      subst e
      exact hj (by simp [Tg.slots])
  | .tup ts, e, h => by
    cases e <;> simp only [okTg] at h <;> try contradiction
    rename_i es k pe
    simp only [Bool.and_eq_true] at h
    obtain ⟨h1, h2⟩ := assignLen (env := X.env) h.2
    refine PG.imp (pg_tup (n := es.length) ok.calm (gs_all ok kp ts es h.1) h1 h2) fun v σ H Q q => ?_
    obtain ⟨d, ρ, Z, w, O, st, tn, r, ρ', e, q⟩ := q
    cases d <;> simp only [Tg.st] at e <;> try contradiction
    obtain ⟨a, xs, rfl, hs, rl⟩ := r.tupSq
    refine ⟨a, xs, rfl, by rw [← ok.K]; exact hs, ?_, _, ρ, Z, w, O, st, tn, rl, ρ', e, q⟩
    rw [rl.len]
    exact g_len ts es _ ρ ρ' kp h.1 e
theorem gs_all (ok : Ok X p s g) (kp : List Nat) : ∀ (ts : TgL) (es : List Expr), okTgL s ts es = true → PGs X es (tGs p kp ts.slots (ts.st kp))
  | .nil, es, h => by
    cases es <;> simp only [okTgL] at h <;> try contradiction
    refine PGs.imp pgs_nil fun v σ H Q q => ?_
    obtain ⟨d, ρ, Z, w, O, st, tn, r, ρ', e, q⟩ := q
    cases d <;> simp only [TgL.st] at e <;> try contradiction
    cases e
    cases r
    exact ⟨rfl, q σ w st (fun a z => .inl z) ⟨rfl, fun _ _ => rfl, fun _ _ => rfl⟩⟩
  | .cons t ts, es, h => by
    cases es <;> simp only [okTgL] at h <;> try contradiction
    rename_i e es
    simp only [Bool.and_eq_true] at h
    refine PGs.imp (pgs_cons (g_all ok kp t e h.1) (gs_all ok kp ts es h.2) (by rw [assign1 (okTg_star h.1)]; rfl)) fun v σ H Q q => ?_
    obtain ⟨d, ρ, Z, w, O, st, tn, r, ρ', e1, q⟩ := q
    cases d <;> simp only [TgL.st] at e1 <;> try contradiction
    rename_i d ds
    cases e2 : t.st kp d ρ with
    | none => rw [e2] at e1; cases e1
    | some ρ1 =>
      rw [e2] at e1
      cases r with
      | cons h1 h2 h3 ra rb =>
        rename_i P1 P2 v vs
        refine ⟨v, vs, rfl, d, ρ, Z, w, P1, st, tn.sub h1, ra, ρ1, e2, fun σ1 w1 s1 o1 k1 => ?_⟩
        have tn2 : Tn H Z w1 P2 := by
          refine ⟨fun a z => ?_, fun a z => tn.nz a (h2 a z), fun a z => tn.lst a (h2 a z)⟩
          cases e3 : w1 a with
          | none => rfl
          | some j =>
            rcases o1 a (by rw [e3]; exact fun y => nomatch y) with y | y
            · exact absurd (tn.free a (h2 a z)) y
            · exact absurd z (h3 a y)
        refine ⟨ds, ρ1, Z, w1, P2, s1, tn2, rb, ρ', e1, fun σ2 w2 s2 o2 k2 => ?_⟩
        refine q σ2 w2 s2 (fun a z => ?_) ⟨k2.len.trans k1.len, fun j hj => (k2.kept j hj).trans (k1.kept j hj), fun j hj => ?_⟩
        · rcases o2 a z with y | y
          · exact (o1 a y).imp id (h1 a)
          · exact .inr (h2 a y)
        · simp only [TgL.slots, List.mem_append, not_or] at hj
          exact (k2.out j hj.2).trans (k1.out j hj.1)
theorem g_len : ∀ (ts : TgL) (es : List Expr) (ds : List D) (ρ ρ' : Ev) (kp : List Nat), okTgL s ts es = true → ts.st kp ds ρ = some ρ' → ds.length = es.length
  | .nil, es, ds, ρ, ρ', kp, h, e => by
    cases es <;> simp only [okTgL] at h <;> try contradiction
    cases ds <;> simp only [TgL.st] at e <;> try contradiction
    rfl
  | .cons t ts, es, ds, ρ, ρ', kp, h, e => by
    cases es <;> simp only [okTgL] at h <;> try contradiction
    cases ds <;> simp only [TgL.st] at e <;> try contradiction
    simp only [Bool.and_eq_true] at h
    split at e <;> try contradiction
    simp only [List.length_cons]
    rw [g_len ts _ _ _ ρ' kp h.2 e]
end
/-! zip of three -/
theorem fz_zip3 : ∀ xs ys zs : List D, D.fzL xs = true → D.fzL ys = true → D.fzL zs = true → D.fzL (zip3D xs ys zs) = true
  | [], _, _, _, _, _ => by simp [zip3D, D.fzL]
  | _ :: _, [], _, _, _, _ => by simp [zip3D, D.fzL]
  | _ :: _, _ :: _, [], _, _, _ => by simp [zip3D, D.fzL]
  | x :: xs, y :: ys, z :: zs, h1, h2, h3 => by
    simp only [D.fzL, Bool.and_eq_true] at h1 h2 h3
    simp only [zip3D, D.fzL, D.fz, Bool.and_eq_true, Bool.and_true]
    exact ⟨⟨h1.1, h2.1, h3.1⟩, fz_zip3 xs ys zs h1.2 h2.2 h3.2⟩
theorem zip3_len : ∀ xs ys zs : List D, (zip3D xs ys zs).length = min (min xs.length ys.length) zs.length
  | [], _, _ => by simp [zip3D]
  | _ :: _, [], _ => by simp [zip3D]
  | _ :: _, _ :: _, [] => by simp [zip3D]
  | x :: xs, y :: ys, z :: zs => by
    simp only [zip3D, List.length_cons, zip3_len xs ys zs]
    omega
theorem zip3_get : ∀ (xs ys zs : List D) (i : Nat) (d : D), (zip3D xs ys zs)[i]? = some d → ∃ x y z, xs[i]? = some x ∧ ys[i]? = some y ∧ zs[i]? = some z ∧ d = .tup [x, y, z]
  | [], _, _, i, d, h => by simp [zip3D] at h
  | _ :: _, [], _, i, d, h => by simp [zip3D] at h
  | _ :: _, _ :: _, [], i, d, h => by simp [zip3D] at h
  | x :: xs, y :: ys, z :: zs, 0, d, h => by
    simp [zip3D] at h
    exact ⟨x, y, z, rfl, rfl, rfl, h.symm⟩
  | x :: xs, y :: ys, z :: zs, i + 1, d, h => by
    obtain ⟨a, b, c, h1, h2, h3, e⟩ := zip3_get xs ys zs i d (by simpa [zip3D] using h)
    exact ⟨a, b, c, by simpa using h1, by simpa using h2, by simpa using h3, e⟩
/-- n turns over the lists at a, b and c -/
def Itz3 (K : PySem.W.Frag) (a b c : Addr) (n : Nat) : It :=
  ⟨fun i H => i < n ∧ ∃ xs ys zs : List V, SqL K H a xs ∧ SqL K H b ys ∧ SqL K H c zs ∧ n = min (min xs.length ys.length) zs.length,
    fun i H v H' => ∃ T x y z, v = .ref T ∧ H T = none ∧ H' = upd H T (.tup [x, y, z]) ∧ (∀ xs, SqL K H a xs → xs[i]? = some x) ∧ (∀ ys, SqL K H b ys → ys[i]? = some y) ∧ ∀ zs, SqL K H c zs → zs[i]? = some z,
    fun i H => n ≤ i ∧ ∃ xs ys zs : List V, SqL K H a xs ∧ SqL K H b ys ∧ SqL K H c zs ∧ n = min (min xs.length ys.length) zs.length⟩
theorem tup3 {K : PySem.W.Frag} {p : Addr} {x y z : V} {d e f : D} {H : Hp} {Z : AS} (hp : H p = none) (r1 : Rep K H Z A0 x d) (r2 : Rep K H Z A0 y e) (r3 : Rep K H Z A0 z f) : Rep K (upd H p (.tup [x, y, z])) Z A0 (.ref p) (.tup [d, e, f]) :=
  Rep.newTup hp (.cons (O1 := A0) (O2 := A0) (fun _ z => z) (fun _ z => z) (fun _ z => z.elim) r1 (.cons (O1 := A0) (O2 := A0) (fun _ z => z) (fun _ z => z) (fun _ z => z.elim) r2 (.cons (O1 := A0) (O2 := A0) (fun _ z => z) (fun _ z => z) (fun _ z => z.elim) r3 .nil)))
theorem it_zip3 {K : PySem.W.Frag} {H : Hp} {Z : AS} {a b c : Addr} {vs us ws : List V} {ds es fs : List D} {O O2 O3 : AS} (hs : SqF K H Z a vs) (hs2 : SqF K H Z b us) (hs3 : SqF K H Z c ws) (r : RepL K H Z O vs ds) (r2 : RepL K H Z O2 us es) (r3 : RepL K H Z O3 ws fs)
    (hf : D.fzL ds = true) (hf2 : D.fzL es = true) (hf3 : D.fzL fs = true) : ItOk K (Itz3 K a b c (zip3D ds es fs).length) H Z (zip3D ds es fs) := by
  have hn : (zip3D ds es fs).length = min (min vs.length us.length) ws.length := by rw [zip3_len, r.len, r2.len, r3.len]
  refine ⟨fz_zip3 _ _ _ hf hf2 hf3, fun H' Z' l => ⟨fun i h => ⟨h, vs, us, ws, (sqF_lat l hs).sq, (sqF_lat l hs2).sq, (sqF_lat l hs3).sq, hn⟩, fun i d e => ?_⟩⟩
  have hlt : i < (zip3D ds es fs).length := (List.getElem?_eq_some_iff.mp e).1
  obtain ⟨x, y, z, e1, e2, e3, rfl⟩ := zip3_get _ _ _ _ _ e
  obtain ⟨v, g1, rv⟩ := r.get e1
  obtain ⟨u, g2, ru⟩ := r2.get e2
  obtain ⟨t, g3, rt⟩ := r3.get e3
  refine ⟨⟨hlt, vs, us, ws, (sqF_lat l hs).sq, (sqF_lat l hs2).sq, (sqF_lat l hs3).sq, hn⟩, fun q H'' y => ?_⟩
  obtain ⟨T, x1, x2, x3, rfl, nT, rfl, f1, f2, f3⟩ := y
  have q1 := f1 vs (sqF_lat l hs).sq
  have q2 := f2 us (sqF_lat l hs2).sq
  have q3 := f3 ws (sqF_lat l hs3).sq
  rw [g1] at q1; cases q1
  rw [g2] at q2; cases q2
  rw [g3] at q3; cases q3
  exact ⟨same_upd nT, tup3 nT (Rep.lat l _ _ _ _ (fzL_get hf e1) rv) (Rep.lat l _ _ _ _ (fzL_get hf2 e2) ru) (Rep.lat l _ _ _ _ (fzL_get hf3 e3) rt)⟩
/-- the cells of the zip at turn i -/
def Z3 (z TI TO i1 i2 i3 a b c : Addr) (n i : Nat) (h : Heap) : Prop :=
  i ≤ n ∧ IsZip h z TI TO .none ∧ IsTupOf3 h TI (.ref i1) (.ref i2) (.ref i3) ∧ (∃ a1 a2 a3, IsTupOf3 h TO a1 a2 a3) ∧ h.IsListIter i1 a i ∧ h.IsListIter i2 b i ∧ h.IsListIter i3 c i
theorem turn_zip3 {P : Program} {w : World} {K : PySem.W.Frag} {elts : List Expr} {kk n : Nat} {tpos : Pos} {a b c z TI TO i1 i2 i3 : Addr} (D : ZipSep3 z TI TO i1 i2 i3 [i1, a] [i2, b] [i3, c]) (ha : a ≠ i1) (hb : b ≠ i2) (hc : c ≠ i3) :
    Turn P w K (.Tuple elts kk tpos) (Itz3 K a b c n) [z, TI, TO, i1, i2, i3] z (Z3 z TI TO i1 i2 i3 a b c n) where
  mem := by simp
  obj := fun i h st x hx => by
    obtain ⟨_, hz, hTI, ⟨_, _, _, hTO⟩, ⟨o1, e1, _, d1⟩, ⟨o2, e2, _, d2⟩, ⟨o3, e3, _, d3⟩⟩ := st
    simp only [List.mem_cons, List.not_mem_nil, or_false] at hx
    rcases hx with q | q | q | q | q | q
    · rw [q]; exact ⟨_, hz, fun v q => nomatch q⟩
    · rw [q]; exact ⟨_, hTI, fun v q => nomatch q⟩
    · rw [q]; exact ⟨_, hTO, fun v q => nomatch q⟩
    · rw [q]; exact ⟨o1, e1, fun v q => by rw [d1] at q; cases q⟩
    · rw [q]; exact ⟨o2, e2, fun v q => by rw [d2] at q; cases q⟩
    · rw [q]; exact ⟨o3, e3, fun v q => by rw [d3] at q; cases q⟩
  keep := fun i h h' st k => by
    obtain ⟨hi, hz, hTI, ⟨x, y, u, hTO⟩, h1, h2, h3⟩ := st
    exact ⟨hi, k z (by simp) _ hz, k TI (by simp) _ hTI, ⟨x, y, u, k TO (by simp) _ hTO⟩, h1.at fun o q => k i1 (by simp) o q, h2.at fun o q => k i2 (by simp) o q, h3.at fun o q => k i3 (by simp) o q⟩
  item := by
    intro X hP hw hK hc' i pins s σ H E I hf st hg
    subst hP hw hK
    obtain ⟨hlt, xs, ys, zs, qa, qb, qc, hn⟩ := hg
    obtain ⟨hi, hz, hTI, ⟨x0, y0, u0, hTO⟩, h1, h2, h3⟩ := st
    obtain ⟨its, rv, p1, _⟩ := I.list qa
    obtain ⟨its2, rv2, p2, _⟩ := I.list qb
    obtain ⟨its3, rv3, p3, _⟩ := I.list qc
    have l1 := rv.length
    have l2 := rv2.length
    have l3 := rv3.length
    have hh := I.ok.hd hc'
    have G := GoesN.zip3 (prog := X.prog) (w := X.w) (A := X.A) (elts := elts) (x1 := kk) (pos := tpos) D (Draws.list (A := X.A.in1) hh i1 a ha its.toArray) (Draws.list (A := X.A.in1) hh i2 b hb its2.toArray) (Draws.list (A := X.A.in1) hh i3 c hc its3.toArray)
    refine wpAny_mono (G.goes i s (fun v s' => ∃ x H', Inv X pins σ H' s' ∧ RelV x v ∧ (Itz3 X.K a b c n).yld i H x H' ∧ Z3 z TI TO i1 i2 i3 a b c n (i + 1) s'.heap ∧ ∀ b ∈ [z, TI, TO, i1, i2, i3], H' b = none) E ?_ ⟨hz, hTI, ⟨x0, y0, u0, hTO⟩, ⟨h1, p1.isList⟩, ⟨h2, p2.isList⟩, ⟨h3, p3.isList⟩⟩ fun v h' tk hY st' hk htk => ?_) (fun _ _ h => h) fun _ _ h => h
    · simp only [List.size_toArray]; omega
    · obtain ⟨T, x, y, u, rfl, hT, gx, gy, gu, hTup⟩ := hY
      obtain ⟨z1, z2, z3, ⟨z4, _⟩, ⟨z5, _⟩, ⟨z6, _⟩⟩ := st'
      have hx : xs[i]? = some xs[i] := List.getElem?_eq_getElem (by omega)
      have hy : ys[i]? = some ys[i] := List.getElem?_eq_getElem (by omega)
      have hu : zs[i]? = some zs[i] := List.getElem?_eq_getElem (by omega)
      obtain ⟨v1, hv1, rx⟩ := rv.get hx
      obtain ⟨v2, hv2, ry⟩ := rv2.get hy
      obtain ⟨v3, hv3, ru⟩ := rv3.get hu
      have gx : its.toArray[i]? = some x := gx
      have gy : its2.toArray[i]? = some y := gy
      have gu : its3.toArray[i]? = some u := gu
      simp only [List.getElem?_toArray] at gx gy gu
      rw [hv1] at gx; cases gx
      rw [hv2] at gy; cases gy
      rw [hv3] at gu; cases gu
      have new : ObjOk X.prog X.w (upd H T (.tup [xs[i], ys[i], zs[i]])) h' T (.tup [xs[i], ys[i], zs[i]]) :=
        ⟨by show 3 ≤ sizeLine; decide, [x, y, u], .cons rx (.cons ry (.cons ru .nil)), hTup⟩
      have I1 : Inv X pins σ (upd H T (.tup [xs[i], ys[i], zs[i]])) { s with heap := h', toks := tk } :=
        I.turnedNew (t' := tk) (ch := [z, TI, TO, i1, i2, i3]) (fun c o hb q => hk c o (fun m => hb (by simp only [List.mem_cons, List.not_mem_nil, or_false] at m ⊢; rcases m with m | m | m | m | m <;> simp [m])) q) hf hT new
      refine ⟨.ref T, _, I1, rfl, ⟨T, xs[i], ys[i], zs[i], rfl, I.hok.fresh hT, rfl, fun l hl => by rw [I.list_inj hl qa]; exact hx, fun l hl => by rw [I.list_inj hl qb]; exact hy, fun l hl => by rw [I.list_inj hl qc]; exact hu⟩, ⟨hlt, z1, z2, z3, z4, z5, z6⟩, fun x hxm => ?_⟩
      have hxs : x < s.heap.objs.size := by
        simp only [List.mem_cons, List.not_mem_nil, or_false] at hxm
        rcases hxm with q | q | q | q | q | q
        · rw [q]; exact Heap.lt_size hz
        · rw [q]; exact Heap.lt_size hTI
        · rw [q]; exact Heap.lt_size hTO
        · rw [q]; obtain ⟨_, e1, _⟩ := h1; exact Heap.lt_size e1
        · rw [q]; obtain ⟨_, e1, _⟩ := h2; exact Heap.lt_size e1
        · rw [q]; obtain ⟨_, e1, _⟩ := h3; exact Heap.lt_size e1
      rw [upd_ne (Nat.ne_of_lt (Nat.lt_of_lt_of_le hxs hT))]
      exact (hf x hxm).1
  done := by
    intro X hP hw hK hc' i pins s σ H E I hf st hg
    subst hP hw hK
    obtain ⟨hlt, xs, ys, zs, qa, qb, qc, hn⟩ := hg
    obtain ⟨hi, hz, hTI, ⟨x0, y0, u0, hTO⟩, h1, h2, h3⟩ := st
    obtain ⟨its, rv, p1, _⟩ := I.list qa
    obtain ⟨its2, rv2, p2, _⟩ := I.list qb
    obtain ⟨its3, rv3, p3, _⟩ := I.list qc
    have l1 := rv.length
    have l2 := rv2.length
    have l3 := rv3.length
    have hh := I.ok.hd hc'
    have G := GoesN.zip3 (prog := X.prog) (w := X.w) (A := X.A) (elts := elts) (x1 := kk) (pos := tpos) D (Draws.list (A := X.A.in1) hh i1 a ha its.toArray) (Draws.list (A := X.A.in1) hh i2 b hb its2.toArray) (Draws.list (A := X.A.in1) hh i3 c hc its3.toArray)
    have en : i = min (min its.toArray.size its2.toArray.size) its3.toArray.size := by simp only [List.size_toArray]; omega
    refine G.stops s (fun s1 => Inv X pins σ H s1) E ?_ fun h' tk hk _ => I.turnedL (t' := tk) (ch := [z, TI, TO, i1, i2, i3]) (fun c o hb q => hk c o (fun m => hb (by simp only [List.mem_cons, List.not_mem_nil, or_false] at m ⊢; rcases m with m | m | m | m | m <;> simp [m])) q) hf
    rw [← en]
    exact ⟨hz, hTI, ⟨x0, y0, u0, hTO⟩, ⟨h1, p1.isList⟩, ⟨h2, p2.isList⟩, ⟨h3, p3.isList⟩⟩
  self := fun A i s Q E st h => wpAny_pyIter_zip st.2.1 h
def iZip3 (K : PySem.W.Frag) (ta : TA) : TI := fun σ H R => ta σ H fun vs H1 => ∃ a b c xs ys zs, vs = [.ref a, .ref b, .ref c] ∧ SqL K H1 a xs ∧ SqL K H1 b ys ∧ SqL K H1 c zs ∧ R (Itz3 K a b c (min (min xs.length ys.length) zs.length)) H1
theorem sep3 {n a b c : Nat} (la : a < n) (lb : b < n) (lc : c < n) : ZipSep3 (n + 5) (n + 3) (n + 4) n (n + 1) (n + 2) [n, a] [n + 1, b] [n + 2, c] := by
  constructor <;> (try simp only [List.mem_cons, List.not_mem_nil, or_false]) <;> first
    | exact .inl trivial
    | exact .inl rfl
    | (intro h; have h : (_ : Nat) = _ := h; omega)
    | (intro h; rcases h with h | h <;> (have h : (_ : Nat) = _ := h; omega))
theorem neA {a n : Nat} (h : a < n) : a ≠ n := by omega
theorem neB {a n : Nat} (h : a < n) : a ≠ n + 1 := by omega
theorem neC {a n : Nat} (h : a < n) : a ≠ n + 2 := by omega
theorem pi_zip3 {X : Cx} {e e2 e3 : Expr} {ta : TA} {p pos tpos : Pos} {elts : List Expr} {kk : Nat} (hg : Gl X "zip") (hm : X.mg "zip" = none) (ha : PA X [e, e2, e3] ta)
    (hs : starEach [e, e2, e3] X.env = (false, eval e X.env) :: starEach [e2, e3] X.env) (hpl : (backTo pos (starEach [e2, e3] X.env)).any (·.1) = false) :
    PI X (.Tuple elts kk tpos) (.Call (.Name "zip" p) [e, e2, e3] [] pos) (iZip3 X.K ta) := by
  refine ⟨fun pins s σ H R I h => PyProof.Rows.Call_ (ld_blt I hg hm PyProof.Rows.boot_zip (PyProof.Rows.callWith_type1 (thn (ha.run pos pins s σ H _ I h) fun us s1 ⟨vs, H1, I1, r1, q1⟩ => ?_) hs hpl))⟩
  obtain ⟨a, b, c, xs, ys, zs, rfl, hqx, hqy, hqz, q⟩ := q1
  obtain ⟨u1, u2, u3, rfl, ra, rb, rc⟩ : ∃ u1 u2 u3, us = [u1, u2, u3] ∧ RelV (.ref a) u1 ∧ RelV (.ref b) u2 ∧ RelV (.ref c) u3 := by
    cases r1 with
    | cons p q =>
      cases q with
      | cons p' q' =>
        cases q' with
        | cons p'' q'' => cases q''; exact ⟨_, _, _, rfl, p, p', p''⟩
  cases ra; cases rb; cases rc
  obtain ⟨its, rv, p1, _⟩ := I1.list hqx
  obtain ⟨its2, rv2, p2, _⟩ := I1.list hqy
  obtain ⟨its3, rv3, p3, _⟩ := I1.list hqz
  have la : a < s1.heap.objs.size := p1.lt
  have lb : b < s1.heap.objs.size := p2.lt
  have lc : c < s1.heap.objs.size := p3.lt
  refine zip_begins3 (begins_list a its.toArray) (begins_list b its2.toArray) (begins_list c its3.toArray) p1.isList p2.isList p3.isList fun h' hz hTI hTO h1 h2 h3 hsz hk => wpAny_pyIter_zip hz ?_
  have I2 : Inv X pins σ H1 { s1 with heap := h' } := I1.kept (t' := s1.toks) hk
  refine ⟨s1.heap.objs.size + 5, [s1.heap.objs.size + 5, s1.heap.objs.size + 3, s1.heap.objs.size + 4, s1.heap.objs.size, s1.heap.objs.size + 1, s1.heap.objs.size + 2], _, _, H1, rfl, I2, turn_zip3 (sep3 la lb lc) (neA la) (neB lb) (neC lc), ⟨Nat.zero_le _, hz, hTI, ⟨_, _, _, hTO⟩, ⟨_, h1, rfl, rfl⟩, ⟨_, h2, rfl, rfl⟩, ⟨_, h3, rfl, rfl⟩⟩, fun x hxm => ?_, q⟩
  have hle : s1.heap.objs.size ≤ x := by
    simp only [List.mem_cons, List.not_mem_nil, or_false] at hxm
    rcases hxm with z | z | z | z | z | z <;> (have z : (_ : Nat) = _ := z; show (_ : Nat) ≤ _; omega)
  exact I1.fpOk hle (I1.hok.fresh hle)
/-! iterables -/
def RPI (p : Wd) (q : Bool) (A : AS) (H : Hp) (Z : AS) (w : Ws) (σ : St) (r : RL) (R : It → Hp → Prop) : Prop :=
  match r with
  | .ok xs ρ' => ∀ J H' Z' w', S p.K Z' w' σ ρ' H' → Nx q A H Z w H' Z' w' → ItOk p.K J H' Z' xs → R J H'
  | .exc c fs ρ' => RX p q A H Z w σ c fs ρ'
  | .stuck => False
def tI (p : Wd) (q : Bool) (f : Ev → RL) : TI := fun σ H R => ∃ ρ Z w, S p.K Z w σ ρ H ∧ RPI p q A0 H Z w σ (f ρ) R
theorem PI.imp {tg e : Expr} {t t' : TI} (h : PI X tg e t) (i : ∀ σ H R, t' σ H R → t σ H R) : PI X tg e t' := ⟨fun pins s σ H R I q => h.run pins s σ H R I (i _ _ _ q)⟩
/-- a list, a tuple or a text -/
def iSeq (K : PySem.W.Frag) (t : TE) : TI := fun σ H R => t σ H fun x H1 => (∃ a, x = .ref a ∧ (∃ xs, SqL K H1 a xs) ∧ R (Itl K a) H1) ∨ (∃ a, x = .ref a ∧ (∃ xs, SqT K H1 a xs) ∧ R (Itt K a) H1) ∨ ∃ z, x = .str z ∧ R (Its z) H1
theorem pi_seq {tg e : Expr} {t : TE} (h : PE X e t) : PI X tg e (iSeq X.K t) := by
  refine ⟨fun pins s σ H R I hw => thn (h.run pins s σ H _ I hw) fun v s1 ⟨x, H1, I1, r1, q1⟩ => ?_⟩
  have fp : ∀ b ∈ [s1.heap.objs.size], FpOk X pins H1 b := fun b hb => by
    obtain rfl : b = s1.heap.objs.size := by simpa using hb
    exact I1.fpOk (Nat.le_refl _) (I1.hok.fresh (Nat.le_refl _))
  rcases q1 with ⟨a, rfl, ⟨xs, hq⟩, q⟩ | ⟨a, rfl, ⟨xs, hq⟩, q⟩ | ⟨z, rfl, q⟩
  · cases r1
    obtain ⟨its, rv, pl, _⟩ := I1.list hq
    exact wpAny_pyIter_list pl.isList ⟨s1.heap.objs.size, _, _, _, H1, rfl, I1.kept (t' := s1.toks) fun b o eo => Heap.get?_push_of_some _ eo, turn_list a _, ⟨_, Heap.get?_push_size _ rfl, rfl, rfl⟩, fp, q⟩
  · cases r1
    obtain ⟨its, rv, pl, _⟩ := I1.tuple hq
    exact wpAny_pyIter_tuple (show s1.heap.IsTuple a its.toArray from pl) ⟨s1.heap.objs.size, _, _, _, H1, rfl, I1.kept (t' := s1.toks) fun b o eo => Heap.get?_push_of_some _ eo, turn_tuple a _, ⟨_, Heap.get?_push_size _ rfl, rfl, rfl⟩, fp, q⟩
  · obtain ⟨t, rfl⟩ := r1
    by_cases hz : z.cps.all (· < 128) = true
    · exact wpAny_pyIter_ascii hz (pi_one (tk := s1.toks) I1 _ (turn_str _ z t "str_ascii_iterator" (.inl rfl)) ⟨_, Heap.get?_push_size _ rfl, rfl, rfl⟩ q)
    · exact wpAny_pyIter_wide (by simpa using hz) (pi_one (tk := s1.toks) I1 _ (turn_str _ z t "str_iterator" (.inr rfl)) ⟨_, Heap.get?_push_size _ rfl, rfl, rfl⟩ q)
theorem S.grow {K : PySem.W.Frag} {H : Hp} {Z O : AS} {w : Ws} {σ : St} {ρ : Ev} (st : S K Z w σ ρ H) (t : Tn H Z w O) : S K (fun a => Z a ∨ O a) w σ ρ H := by
  refine ⟨st.len, fun i d hd => ?_, fun a z => z.elim (st.zok a) (t.lst a), fun a z => ⟨(st.wok a z).1, fun y => y.elim (st.wok a z).2 fun x => z (t.free a x)⟩⟩
  obtain ⟨hr, v, hv, r⟩ := st.rep i d hd
  refine ⟨hr, v, hv, Rep.go (E := O) (M := fun _ => False) ⟨fun a o h _ => h, fun a h => .inl h, fun a h => h.elim .inl fun z => .inr (.inl z)⟩ (fun _ z => z.elim) (fun a z o => t.nz a o z) (fun _ _ z => z.elim) d _ v (fun a h z => ?_) (.inl hr) r⟩
  rw [t.free a z] at h; cases h
theorem Rep.walkL {K : PySem.W.Frag} {H : Hp} {Z O : AS} {v : V} {d : D} {xs : List D} (r : Rep K H Z O v d) (hi : lstI d = some xs) : ∃ a vs, v = .ref a ∧ SqF K H (fun b => Z b ∨ O b) a vs ∧ RepL K H (fun b => Z b ∨ O b) A0 vs xs ∧ D.fzL xs = true := by
  unfold lstI at hi
  split at hi <;> try contradiction
  split at hi <;> try contradiction
  rename_i o ds hr
  cases hi
  have r' := Rep.freeze (Z' := fun b => Z b ∨ O b) (D.lst o ds) O A0 v hr (fun a h => .inr h) (fun a h => .inl h) r
  simp only [D.freeze] at r'
  cases r' with
  | frz hs rl f => exact ⟨_, _, rfl, hs, rl, f⟩
theorem lstI_ret {d : D} {xs : List D} (hi : lstI d = some xs) : d.ret = true := by
  unfold lstI at hi
  split at hi <;> try contradiction
  split at hi <;> try contradiction
  assumption
/-- what a value at hand is, walked -/
theorem Rep.walk {K : PySem.W.Frag} {H : Hp} {Z O : AS} {v : V} {d : D} {xs : List D} (r : Rep K H Z O v d) (hi : itemsD d = some xs) : (∃ a, v = .ref a ∧ (∃ vs, SqL K H a vs) ∧ ItOk K (Itl K a) H (fun b => Z b ∨ O b) xs) ∨ (∃ a, v = .ref a ∧ (∃ vs, SqT K H a vs) ∧ ItOk K (Itt K a) H (fun b => Z b ∨ O b) xs) ∨ ∃ z, v = .str z ∧ ItOk K (Its z) H (fun b => Z b ∨ O b) xs := by
  unfold itemsD at hi
  split at hi <;> try contradiction
  · obtain ⟨a, vs, rfl, hs, rl, f⟩ := r.walkL hi
    exact .inl ⟨_, rfl, ⟨_, hs.sq⟩, it_list hs rl f⟩
  · split at hi <;> try contradiction
    rename_i hr
    cases hi
    rename_i ds
    have r' := Rep.freeze (Z' := fun b => Z b ∨ O b) (D.tup ds) O A0 v (by simpa only [D.ret] using hr) (fun a h => .inr h) (fun a h => .inl h) r
    simp only [D.freeze] at r'
    cases r' with
    | tup hs rl => exact .inr (.inl ⟨_, rfl, ⟨_, hs⟩, it_tup hs rl (freezeL_fz ds)⟩)
  · cases hi
    cases r
    exact .inr (.inr ⟨_, rfl, it_str⟩)
section
variable {q q1 q2 : Bool} {A O1 : AS} {H H1 : Hp} {Z Z1 : AS} {w w1 : Ws} {σ : St} {ρ1 : Ev}
theorem RPI.later {r : RL} {R : It → Hp → Prop} (n : Nx q1 A0 H Z w H1 Z1 w1) (t : Tm q1 A0 H w H1 Z1 w1 O1) (h : RPI p (q1 && q2) A H Z w σ r R) : RPI p q2 (fun a => A a ∨ O1 a) H1 Z1 w1 σ r R := by
  cases r with
  | ok xs ρ' => exact fun J H' Z' w' s' m it => h J H' Z' w' s' (n.then t m) it
  | exc c fs ρ' => exact RX.later n t h
  | stuck => exact h
end
end
end PD
set_option Elab.async false
set_option linter.all false
set_option maxRecDepth 100000
set_option maxHeartbeats 4000000
/-! PdP: iterables, comprehensions. -/
namespace PD
open PySem L2
section
variable {X : Cx} {p : Wd} {s : Sx} {g : Gs} {pos : Pos}
section
variable {q1 q2 : Bool} {A : AS} {H : Hp} {Z : AS} {w : Ws} {σ : St} {T : VK}
theorem RP.seqI {r : R} {f : D → Ev → RL} {R : It → Hp → Prop} (tA : Tn H Z w A) (h : RPI p (q1 && q2) A H Z w σ (r.thenL f) R)
    (k : ∀ d ρ1 v H1 Z1 w1 O1, Mid p q1 A O1 H Z w σ ρ1 H1 Z1 w1 → Rep p.K H1 Z1 O1 v d → RPI p q2 (fun a => A a ∨ O1 a) H1 Z1 w1 σ (f d ρ1) R → T v H1) : RP p q1 A0 H Z w σ r T := by
  cases r with
  | ok d ρ' => exact fun v H' Z' w' O s' m tm rp => k d ρ' v H' Z' w' O (.mk' tA s' m tm) rp (RPI.later m tm h)
  | exc c fs ρ' => exact RX.wk h
  | stuck => exact h
end
theorem Nx.grow {q : Bool} {A O : AS} {H : Hp} {Z : AS} {w : Ws} (i : ∀ a, O a → A a) : Nx q A H Z w H (fun a => Z a ∨ O a) w :=
  ⟨fun _ _ e _ _ => e, fun _ z => .inl z, fun a z => z.elim .inl fun y => .inr (.inr (.inr (i a y))), fun _ z => .inl z⟩
theorem i_seq {a : CE} {x tg : Expr} (ok : Ok X p s g) (h : PE X x (tE p a.quiet (a.ev g false))) : PI X tg x (tI p (CI.seq a).quiet ((CI.seq a).ev g)) := by
  refine PI.imp (pi_seq h) fun σ H R q => ?_
  obtain ⟨ρ, Z, w, st, q⟩ := q
  refine ⟨ρ, Z, w, st, RP.seqI (q2 := true) Tn.zero (by rw [Bool.and_true]; exact q) fun d ρ1 v H1 Z1 w1 P1 m1 r1 h1 => ?_⟩
  cases e : itemsD d with
  | none => rw [e] at h1; exact h1.elim
  | some xs =>
    rw [e] at h1
    have fin : ∀ J, ItOk p.K J H1 (fun b => Z1 b ∨ P1 b) xs → R J H1 := fun J it => h1 J H1 _ w1 (m1.s.grow m1.tn) (Nx.grow fun _ z => .inr z) it
    rw [← ok.K]
    rcases r1.walk e with ⟨b, e1, e2, it⟩ | ⟨b, e1, e2, it⟩ | ⟨z, e1, it⟩
    · exact .inl ⟨b, e1, e2, fin _ it⟩
    · exact .inr (.inl ⟨b, e1, e2, fin _ it⟩)
    · exact .inr (.inr ⟨z, e1, fin _ it⟩)
theorem rng {i : Int} (h : rngOk i = true) : -(2 ^ 62) ≤ i ∧ i < 2 ^ 62 := by
  unfold rngOk at h
  simp only [Bool.and_eq_true, decide_eq_true_eq] at h
  exact h
theorem i_rng1 {a : CE} {x tg : Expr} {f : Str} {pf : Pos} (ok : Ok X p s g) (hf : decide (f = ("range" : Str)) = true) (hb : s.bns.contains f = true) (hg : glB s.sc f = true) (hs : noStar x = true) (h : PE X x (tE p a.quiet (a.ev g false))) :
    PI X tg (.Call (.Name f pf) [x] [] pos) (tI p (CI.rng1 a).quiet ((CI.rng1 a).ev g)) := by
  obtain rfl := of_decide_eq_true hf
  refine PI.imp (pi_range1 (ok.gl _ hg) (ok.bn _ hb) (pa_cons h pa_nil (star1 hs)) (star1 hs)) fun σ H R q => ?_
  obtain ⟨ρ, Z, w, st, q⟩ := q
  refine ⟨ρ, Z, w, st, RP.seqI (q2 := true) Tn.zero (by rw [Bool.and_true]; exact q) fun d ρ1 v H1 Z1 w1 P1 m1 r1 h1 => ?_⟩
  cases d <;> try exact h1.elim
  rename_i j
  cases r1
  show ∃ j' : Int, [V.int j] = [.int j'] ∧ _
  dsimp only at h1
  split at h1 <;> try exact h1.elim
  rename_i hr
  have hr := rng hr
  refine ⟨j, rfl, hr.1, hr.2, ?_⟩
  have it : ItOk p.K (Itr 0 (j - 0).toNat) H1 Z1 (rangeD 0 j) := it_range
  rw [Int.sub_zero] at it
  exact h1 _ H1 Z1 w1 m1.s .refl it
theorem i_rng2 {a b : CE} {x y tg : Expr} {f : Str} {pf : Pos} (ok : Ok X p s g) (hf : decide (f = ("range" : Str)) = true) (hb : s.bns.contains f = true) (hg : glB s.sc f = true) (hs : noStar x = true) (hs2 : noStar y = true) (h : PE X x (tE p a.quiet (a.ev g false))) (h2 : PE X y (tE p b.quiet (b.ev g false))) :
    PI X tg (.Call (.Name f pf) [x, y] [] pos) (tI p (CI.rng2 a b).quiet ((CI.rng2 a b).ev g)) := by
  obtain rfl := of_decide_eq_true hf
  refine PI.imp (pi_range2 (ok.gl _ hg) (ok.bn _ hb) (pa_cons h (pa_cons h2 pa_nil (star1 hs2)) (star1 hs)) (by rw [star1 hs, star1 hs2]; rfl) (by rw [star1 hs2]; rfl)) fun σ H R q => ?_
  obtain ⟨ρ, Z, w, st, q⟩ := q
  refine ⟨ρ, Z, w, st, RP.seqI Tn.zero q fun d ρ1 v H1 Z1 w1 P1 m1 r1 h1 => ?_⟩
  refine ⟨ρ1, Z1, w1, m1.s, RP.seqI (q2 := true) m1.all (by rw [Bool.and_true]; exact h1) fun e ρ2 u H2 Z2 w2 P2 m2 r2 h2 => ?_⟩
  cases d <;> try exact h2.elim
  cases e <;> try exact h2.elim
  rename_i i j
  cases r1
  cases r2
  show ∃ i' j' : Int, [V.int i, V.int j] = [.int i', .int j'] ∧ _
  dsimp only at h2
  split at h2 <;> try exact h2.elim
  rename_i hr
  simp only [Bool.and_eq_true] at hr
  have hr1 := rng hr.1
  have hr2 := rng hr.2
  exact ⟨i, j, rfl, ⟨hr1.1, hr1.2, hr2.1, hr2.2⟩, h2 _ H2 Z2 w2 m2.s .refl it_range⟩
theorem i_zip {a b : CE} {x y tg : Expr} {f : Str} {pf : Pos} (ok : Ok X p s g) (hf : decide (f = ("zip" : Str)) = true) (hb : s.bns.contains f = true) (hg : glB s.sc f = true) (hs : noStar x = true) (hs2 : noStar y = true) (ht : isTup tg = true) (h : PE X x (tE p a.quiet (a.ev g false)))
    (h2 : PE X y (tE p b.quiet (b.ev g false))) : PI X tg (.Call (.Name f pf) [x, y] [] pos) (tI p (CI.zip a b).quiet ((CI.zip a b).ev g)) := by
  obtain rfl := of_decide_eq_true hf
  cases tg <;> simp only [isTup] at ht <;> try contradiction
  refine PI.imp (pi_zip (ok.gl _ hg) (ok.bn _ hb) (pa_cons h (pa_cons h2 pa_nil (star1 hs2)) (star1 hs)) (star1 hs) (by rw [star1 hs2]; rfl)) fun σ H R q => ?_
  obtain ⟨ρ, Z, w, st, q⟩ := q
  refine ⟨ρ, Z, w, st, RP.seqI Tn.zero q fun d ρ1 v H1 Z1 w1 P1 m1 r1 h1 => ?_⟩
  refine ⟨ρ1, Z1, w1, m1.s, RP.seqI (q2 := true) m1.all (by rw [Bool.and_true]; exact h1) fun e ρ2 u H2 Z2 w2 P2 m2 r2 h2 => ?_⟩
  show ∃ a' b' xs' ys', [v, u] = [.ref a', .ref b'] ∧ _
  cases e1 : lstI d with
  | none => rw [e1] at h2; exact h2.elim
  | some ds =>
    cases e2 : lstI e with
    | none => rw [e1, e2] at h2; exact h2.elim
    | some es =>
      rw [e1, e2] at h2
      have r1' := Rep.mid m1.s m2 (fun _ z => .inr z) m1.all (by rw [lstI_ret e1]; rfl) r1
      obtain ⟨a', vs, rfl, g1, g2, g3⟩ := r1'.walkL e1
      obtain ⟨b', us, rfl, k1, k2, k3⟩ := r2.walkL e2
      have up : ∀ {O : AS}, (∀ x, O x → (A0 x ∨ P1 x) ∨ P2 x) → Later H2 (fun b => Z2 b ∨ O b) H2 (fun b => Z2 b ∨ ((A0 b ∨ P1 b) ∨ P2 b)) := fun i => ⟨fun _ _ e _ => e, fun b z => z.imp id (i b)⟩
      have l1 := up (O := P1) fun x z => .inl (.inr z)
      have l2 := up (O := P2) fun x z => .inr z
      refine ⟨a', b', vs, us, rfl, by rw [← ok.K]; exact g1.sq, by rw [← ok.K]; exact k1.sq, ?_⟩
      rw [← ok.K]
      exact h2 _ H2 _ w2 (m2.s.grow m2.all) (Nx.grow fun _ z => z) (it_zip (sqF_lat l1 g1) (sqF_lat l2 k1) (RepL.lat l1 _ _ A0 _ g3 g2) (RepL.lat l2 _ _ A0 _ k3 k2) g3 k3)
theorem i_enm {a : CE} {x tg : Expr} {f : Str} {pf : Pos} (ok : Ok X p s g) (hf : decide (f = ("enumerate" : Str)) = true) (hb : s.bns.contains f = true) (hg : glB s.sc f = true) (hs : noStar x = true) (ht : isTup tg = true) (h : PE X x (tE p a.quiet (a.ev g false))) :
    PI X tg (.Call (.Name f pf) [x] [] pos) (tI p (CI.enm a).quiet ((CI.enm a).ev g)) := by
  obtain rfl := of_decide_eq_true hf
  cases tg <;> simp only [isTup] at ht <;> try contradiction
  refine PI.imp (pi_enum (ok.gl _ hg) (ok.bn _ hb) (pa_cons h pa_nil (star1 hs)) (star1 hs)) fun σ H R q => ?_
  obtain ⟨ρ, Z, w, st, q⟩ := q
  refine ⟨ρ, Z, w, st, RP.seqI (q2 := true) Tn.zero (by rw [Bool.and_true]; exact q) fun d ρ1 v H1 Z1 w1 P1 m1 r1 h1 => ?_⟩
  show ∃ a' xs', [v] = [.ref a'] ∧ _
  cases e1 : lstI d with
  | none => rw [e1] at h1; exact h1.elim
  | some ds =>
    rw [e1] at h1
    obtain ⟨a', vs, rfl, g1, g2, g3⟩ := r1.walkL e1
    refine ⟨a', vs, rfl, by rw [← ok.K]; exact g1.sq, ?_⟩
    rw [← ok.K]
    exact h1 _ H1 _ w1 (m1.s.grow m1.tn) (Nx.grow fun _ z => .inr z) (it_enum g1 g2 g3)
theorem i_zip3 {a b c : CE} {x y u tg : Expr} {f : Str} {pf : Pos} (ok : Ok X p s g) (hf : decide (f = ("zip" : Str)) = true) (hb : s.bns.contains f = true) (hg : glB s.sc f = true) (hs : noStar x = true) (hs2 : noStar y = true) (hs3 : noStar u = true) (ht : isTup tg = true) (h : PE X x (tE p a.quiet (a.ev g false)))
    (h2 : PE X y (tE p b.quiet (b.ev g false))) (h3 : PE X u (tE p c.quiet (c.ev g false))) : PI X tg (.Call (.Name f pf) [x, y, u] [] pos) (tI p (CI.zip3 a b c).quiet ((CI.zip3 a b c).ev g)) := by
  obtain rfl := of_decide_eq_true hf
  cases tg <;> simp only [isTup] at ht <;> try contradiction
  refine PI.imp (pi_zip3 (ok.gl _ hg) (ok.bn _ hb) (pa_cons h (pa_cons h2 (pa_cons h3 pa_nil (star1 hs3)) (star1 hs2)) (star1 hs)) (star1 hs) (by rw [star1 hs2, star1 hs3]; rfl)) fun σ H R q => ?_
  obtain ⟨ρ, Z, w, st, q⟩ := q
  have q : RPI p (a.quiet && (b.quiet && c.quiet)) A0 H Z w σ ((CI.zip3 a b c).ev g ρ) R := by rw [← Bool.and_assoc]; exact q
  refine ⟨ρ, Z, w, st, RP.seqI Tn.zero q fun d ρ1 v H1 Z1 w1 P1 m1 r1 h1 => ?_⟩
  refine ⟨ρ1, Z1, w1, m1.s, RP.seqI m1.all h1 fun e ρ2 t H2 Z2 w2 P2 m2 r2 h2 => ?_⟩
  refine ⟨ρ2, Z2, w2, m2.s, RP.seqI (q2 := true) m2.all (by rw [Bool.and_true]; exact h2) fun f ρ3 t' H3 Z3 w3 P3 m3 r3 h3 => ?_⟩
  show ∃ a' b' c' xs' ys' zs', [v, t, t'] = [.ref a', .ref b', .ref c'] ∧ _
  cases e1 : lstI d with
  | none => rw [e1] at h3; exact h3.elim
  | some ds =>
    cases e2 : lstI e with
    | none => rw [e1, e2] at h3; exact h3.elim
    | some es =>
      cases e3 : lstI f with
      | none => rw [e1, e2, e3] at h3; exact h3.elim
      | some fs =>
        rw [e1, e2, e3] at h3
        have r1' := Rep.mid m1.s m2 (fun _ z => .inr z) m1.all (by rw [lstI_ret e1]; rfl) r1
        have r1'' := Rep.mid m2.s m3 (fun _ z => .inl (.inr z)) m2.all (by rw [lstI_ret e1]; rfl) r1'
        have r2' := Rep.mid m2.s m3 (fun _ z => .inr z) m2.all (by rw [lstI_ret e2]; rfl) r2
        obtain ⟨a', vs, rfl, g1, g2, g3⟩ := r1''.walkL e1
        obtain ⟨b', us, rfl, k1, k2, k3⟩ := r2'.walkL e2
        obtain ⟨c', ws, rfl, j1, j2, j3⟩ := r3.walkL e3
        have up : ∀ {O : AS}, (∀ x, O x → ((A0 x ∨ P1 x) ∨ P2 x) ∨ P3 x) → Later H3 (fun b => Z3 b ∨ O b) H3 (fun b => Z3 b ∨ (((A0 b ∨ P1 b) ∨ P2 b) ∨ P3 b)) := fun i => ⟨fun _ _ e _ => e, fun b z => z.imp id (i b)⟩
        have l1 := up (O := P1) fun x z => .inl (.inl (.inr z))
        have l2 := up (O := P2) fun x z => .inl (.inr z)
        have l3 := up (O := P3) fun x z => .inr z
        refine ⟨a', b', c', vs, us, ws, rfl, by rw [← ok.K]; exact g1.sq, by rw [← ok.K]; exact k1.sq, by rw [← ok.K]; exact j1.sq, ?_⟩
        rw [← ok.K]
        have it := it_zip3 (sqF_lat l1 g1) (sqF_lat l2 k1) (sqF_lat l3 j1) (RepL.lat l1 _ _ A0 _ g3 g2) (RepL.lat l2 _ _ A0 _ k3 k2) (RepL.lat l3 _ _ A0 _ j3 j2) g3 k3 j3
        rw [zip3_len, ← g2.len, ← k2.len, ← j2.len] at it
        exact h3 _ H3 _ w3 (m3.s.grow m3.all) (Nx.grow fun _ z => z) it
theorem e_fz {a : CE} {x : Expr} (h : PE X x (tE p a.quiet (a.ev g false))) : PE X x (tE p (CE.fz a).quiet ((CE.fz a).ev g false)) := PE.imp h fun σ H Q q => by
  obtain ⟨ρ, Z, w, st, q⟩ := q
  refine ⟨ρ, Z, w, st, ?_⟩
  have q : RP p a.quiet A0 H Z w σ ((a.ev g false ρ).bind fun x ρ1 => if x.ret then .ok x.freeze ρ1 else .stuck) Q := q
  cases e : a.ev g false ρ with
  | stuck => rw [e] at q; exact q
  | exc c fs ρ' => rw [e] at q; exact q
  | ok d ρ' =>
    rw [e] at q
    have q : RP p a.quiet A0 H Z w σ (if d.ret then .ok d.freeze ρ' else .stuck) Q := q
    split at q
    · rename_i hr
      intro v H' Z' w' O s' n tm r
      refine q v H' (fun b => Z' b ∨ O b) w' A0 (s'.grow tm.tn) ⟨n.keep, fun a z => .inl (n.zin a z), fun a z => ?_, n.fresh⟩ tm0 (Rep.freeze d O A0 v hr (fun a h => .inr h) (fun a h => .inl h) r)
      rcases z with z | z
      · exact n.znew a z
      · rcases tm.new a z with y | y | y
        · exact .inr (.inl y.2)
        · exact .inr (.inr (.inl y))
        · exact y.elim
    · exact q.elim
end
end PD
set_option Elab.async false
set_option linter.all false
set_option maxRecDepth 100000
set_option maxHeartbeats 8000000
/-! PdPb: an expression under which owned lists count as frozen. -/
namespace PD
open PySem L2
theorem tr_ok {t : Bool} {r : R} {d : D} {ρ : Ev} (h : R.tr t r = .ok d ρ) : ∃ x, r = .ok x ρ := by
  unfold R.tr at h
  split at h
  · cases r with
    | ok x ρ1 =>
      simp only [R.bind, R.of] at h
      split at h
      · cases h; exact ⟨_, rfl⟩
      · cases h
    | exc c fs ρ1 => cases h
    | stuck => cases h
  · exact ⟨_, h⟩
theorem bind_ok {r : R} {f : D → Ev → R} {d : D} {ρ : Ev} (h : r.bind f = .ok d ρ) : ∃ x ρ1, r = .ok x ρ1 ∧ f x ρ1 = .ok d ρ := by
  cases r with
  | ok x ρ1 => exact ⟨_, _, rfl, h⟩
  | exc c fs ρ1 => cases h
  | stuck => cases h
theorem bindL_ok {r : RL} {f : List D → Ev → R} {d : D} {ρ : Ev} (h : r.bind f = .ok d ρ) : ∃ x ρ1, r = .ok x ρ1 ∧ f x ρ1 = .ok d ρ := by
  cases r with
  | ok x ρ1 => exact ⟨_, _, rfl, h⟩
  | exc c fs ρ1 => cases h
  | stuck => cases h
theorem thenL_ok {r : R} {f : D → Ev → RL} {d : List D} {ρ : Ev} (h : r.thenL f = .ok d ρ) : ∃ x ρ1, r = .ok x ρ1 ∧ f x ρ1 = .ok d ρ := by
  cases r with
  | ok x ρ1 => exact ⟨_, _, rfl, h⟩
  | exc c fs ρ1 => cases h
  | stuck => cases h
theorem thenLL_ok {r : RL} {f : List D → Ev → RL} {d : List D} {ρ : Ev} (h : r.thenL f = .ok d ρ) : ∃ x ρ1, r = .ok x ρ1 ∧ f x ρ1 = .ok d ρ := by
  cases r with
  | ok x ρ1 => exact ⟨_, _, rfl, h⟩
  | exc c fs ρ1 => cases h
  | stuck => cases h
theorem of_ok {o : Option D} {d : D} {ρ ρ1 : Ev} (h : R.of o ρ1 = .ok d ρ) : ρ1 = ρ := by
  unfold R.of at h
  split at h <;> cases h
  rfl
theorem p_len_wipe : ∀ (own : List Nat) (ρ : Ev), (wipeD ρ own).length = ρ.length
  | [], _ => rfl
  | i :: is, ρ => by simp [wipeD, p_len_wipe is ρ]
theorem p_get_wipe : ∀ (own : List Nat) (ρ : Ev) (j : Nat), (wipeD ρ own)[j]? = if j ∈ own ∧ j < ρ.length then some none else ρ[j]?
  | [], ρ, j => by simp [wipeD]
  | i :: is, ρ, j => by
    simp only [wipeD, List.getElem?_set, p_len_wipe, p_get_wipe is ρ j, List.mem_cons]
    by_cases e : i = j
    · subst e
      by_cases l : i < ρ.length
      · simp [l]
      · simp [l]
    · have e' : ¬ j = i := fun h => e h.symm
      simp [e, e']
theorem p_get_back : ∀ (own : List Nat) (ρ ρ2 : Ev) (j : Nat), (backD ρ own ρ2)[j]? = if j ∈ own ∧ j < ρ2.length then some (ρ[j]?.join) else ρ2[j]?
  | [], ρ, ρ2, j => by simp [backD]
  | i :: is, ρ, ρ2, j => by
    have hl : ∀ is, (backD ρ is ρ2).length = ρ2.length := by
      intro is
      induction is with
      | nil => rfl
      | cons i is ih => simp [backD, ih]
    simp only [backD, List.getElem?_set, hl, p_get_back is ρ ρ2 j, List.mem_cons]
    by_cases e : i = j
    · subst e
      by_cases l : i < ρ2.length
      · simp [l]
      · simp [l]
    · have e' : ¬ j = i := fun h => e h.symm
      simp [e, e']
theorem p_back_wipe (own : List Nat) (ρ ρ2 : Ev) (h : wipeD ρ2 own = wipeD ρ own) : backD ρ own ρ2 = ρ := by
  have hl : ρ2.length = ρ.length := by rw [← p_len_wipe own ρ2, h, p_len_wipe]
  apply List.ext_getElem?
  intro j
  rw [p_get_back]
  have hj := congrArg (fun r : Ev => r[j]?) h
  simp only [p_get_wipe, hl] at hj
  by_cases c : j ∈ own ∧ j < ρ.length
  · rw [hl, if_pos c, List.getElem?_eq_getElem c.2]; rfl
  · rw [if_neg c, if_neg c] at hj
    rw [hl, if_neg c, hj]
theorem wipe_set {own : List Nat} {i : Nat} {v : Option D} {ρ : Ev} (h : own.contains i = true) : wipeD (ρ.set i v) own = wipeD ρ own := by
  apply List.ext_getElem?
  intro j
  simp only [p_get_wipe, List.length_set, List.getElem?_set]
  by_cases e : i = j
  · subst e
    have : i ∈ own := by simpa using h
    by_cases l : i < ρ.length
    · simp [this, l]
    · simp [l]
  · simp [e]
mutual
theorem tg_wipe (own : List Nat) : ∀ (t : Tg) (d : D) (ρ ρ' : Ev), t.slots.all own.contains = true → t.st [] d ρ = some ρ' → wipeD ρ' own = wipeD ρ own
  | .nm i, d, ρ, ρ', h, e => by
    simp only [Tg.slots, List.all_cons, List.all_nil, Bool.and_true] at h
    simp only [Tg.st] at e
    split at e <;> cases e
    exact wipe_set h
  | .tup ts, d, ρ, ρ', h, e => by
    cases d with
    | tup ds => exact tgL_wipe own ts ds ρ ρ' (by simpa only [Tg.slots] using h) (by simpa only [Tg.st] using e)
    | _ => simp [Tg.st] at e
theorem tgL_wipe (own : List Nat) : ∀ (t : TgL) (d : List D) (ρ ρ' : Ev), t.slots.all own.contains = true → t.st [] d ρ = some ρ' → wipeD ρ' own = wipeD ρ own
  | .nil, d, ρ, ρ', h, e => by
    cases d <;> simp only [TgL.st] at e <;> cases e
    rfl
  | .cons t ts, d, ρ, ρ', h, e => by
    cases d with
    | nil => simp [TgL.st] at e
    | cons d ds =>
      simp only [TgL.slots, List.all_append, Bool.and_eq_true] at h
      simp only [TgL.st] at e
      split at e
      · rename_i ρ1 e1
        rw [tgL_wipe own ts ds ρ1 ρ' h.2 e, tg_wipe own t d ρ ρ1 h.1 e1]
      · cases e
end
theorem lc_still {own : List Nat} {st : D → Ev → Option Ev} {tt el : Ev → R} (h1 : ∀ d ρ ρ', st d ρ = some ρ' → wipeD ρ' own = wipeD ρ own) (h2 : ∀ ρ d ρ', tt ρ = .ok d ρ' → ρ' = ρ) (h3 : ∀ ρ d ρ', el ρ = .ok d ρ' → ρ' = ρ) :
    ∀ (xs acc : List D) (ρ ρ' : Ev) (d : D), lcLoop own st tt el xs acc ρ = .ok d ρ' → wipeD ρ' own = wipeD ρ own
  | [], acc, ρ, ρ', d, h => by
    simp only [lcLoop] at h
    cases h; rfl
  | x :: xs, acc, ρ, ρ', d, h => by
    have ww : wipeD (wipeD ρ own) own = wipeD ρ own := by
      apply List.ext_getElem?
      intro j
      simp only [p_get_wipe, p_len_wipe]
      split <;> rfl
    simp only [lcLoop] at h
    split at h
    · cases h
    · rename_i ρ1 e1
      have w1 := h1 _ _ _ e1
      rw [ww] at w1
      split at h
      · rename_i ρ2 e2
        obtain rfl := h2 _ _ _ e2
        split at h
        · rename_i d3 ρ3 e3
          obtain rfl := h3 _ _ _ e3
          split at h
          · rw [lc_still h1 h2 h3 xs _ _ _ _ h, w1]
          · cases h
        · cases h
      · rename_i ρ2 e2
        obtain rfl := h2 _ _ _ e2
        rw [lc_still h1 h2 h3 xs _ _ _ _ h, w1]
      · cases h
theorem still_at : ∀ (es : CL) (p : Nat), es.still = true → es.lndAt p = none
  | .nil, _, _ => rfl
  | .cons e es, 0, h => by cases e <;> first | rfl | simp [CL.still] at h
  | .cons e es, p + 1, h => by
    have h2 : es.still = true := by cases e <;> first | (simp only [CL.still, Bool.and_eq_true] at h; exact h.2) | simp [CL.still] at h
    have e1 : (CL.cons e es).lndAt (p + 1) = es.lndAt p := by cases e <;> rfl
    rw [e1, still_at es p h2]
theorem still_gb (es : CL) (h : es.still = true) : ∀ (ps : List Nat) (out : List D) (ρ ρ' : Ev), giveBack es ps out ρ = some ρ' → ρ' = ρ
  | [], [], ρ, ρ', e => by simp only [giveBack] at e; cases e; rfl
  | p :: ps, d :: out, ρ, ρ', e => by
    simp only [giveBack, still_at es p h] at e
    exact still_gb es h ps out ρ ρ' e
  | [], _ :: _, _, _, e => by simp [giveBack] at e
  | _ :: _, [], _, _, e => by simp [giveBack] at e
mutual
theorem stillE (g : Gs) : ∀ (e : CE) (t : Bool) (ρ ρ' : Ev) (d : D), e.still = true → e.ev g t ρ = .ok d ρ' → ρ' = ρ
  | .lit x, t, ρ, ρ', d, hs, h => by
    simp only [CE.ev] at h
    obtain ⟨x, i1⟩ := tr_ok h
    cases i1; rfl
  | .var .brw i, t, ρ, ρ', d, hs, h => by
    simp only [CE.ev] at h
    obtain ⟨x, i1⟩ := tr_ok h
    split at i1 <;> cases i1
    rfl
  | .var .frz i, t, ρ, ρ', d, hs, h => by simp [CE.still] at hs
  | .var .mov i, t, ρ, ρ', d, hs, h => by simp [CE.still] at hs
  | .glb i, t, ρ, ρ', d, hs, h => by
    simp only [CE.ev] at h
    obtain ⟨x, i1⟩ := tr_ok h
    split at i1 <;> cases i1
    rfl
  | .op2 o a b, t, ρ, ρ', d, hs, h => by
    simp only [CE.still, Bool.and_eq_true] at hs
    simp only [CE.ev] at h
    obtain ⟨x, i1⟩ := tr_ok h
    obtain ⟨y, ρ1, e1, i2⟩ := bind_ok i1
    obtain ⟨z, ρ2, e2, i3⟩ := bind_ok i2
    obtain rfl := stillE g a _ _ _ _ hs.1 e1
    obtain rfl := stillE g b _ _ _ _ hs.2 e2
    split at i3
    · exact (of_ok i3).symm
    · cases i3
  | .op1 .not a, true, ρ, ρ', d, hs, h => by
    simp only [CE.still] at hs
    simp only [CE.ev] at h
    obtain ⟨y, ρ1, e1, i1⟩ := bind_ok h
    obtain rfl := stillE g a _ _ _ _ hs e1
    split at i1 <;> cases i1
    rfl
  | .op1 .not a, false, ρ, ρ', d, hs, h => by
    simp only [CE.still] at hs
    simp only [CE.ev] at h
    obtain ⟨y, ρ1, e1, i1⟩ := bind_ok h
    obtain rfl := stillE g a _ _ _ _ hs e1
    exact (of_ok i1).symm
  | .op1 .neg a, t, ρ, ρ', d, hs, h => by
    simp only [CE.still] at hs
    simp only [CE.ev] at h
    obtain ⟨x, i1⟩ := tr_ok h
    obtain ⟨y, ρ1, e1, i2⟩ := bind_ok i1
    obtain rfl := stillE g a _ _ _ _ hs e1
    exact (of_ok i2).symm
  | .con es, t, ρ, ρ', d, hs, h => stillA g es t ρ ρ' d (by simpa only [CE.still] using hs) (by simpa only [CE.ev] using h)
  | .dis es, t, ρ, ρ', d, hs, h => stillO g es t ρ ρ' d (by simpa only [CE.still] using hs) (by simpa only [CE.ev] using h)
  | .ite c a b, t, ρ, ρ', d, hs, h => by
    simp only [CE.still, Bool.and_eq_true] at hs
    simp only [CE.ev] at h
    obtain ⟨y, ρ1, e1, i1⟩ := bind_ok h
    obtain rfl := stillE g c _ _ _ _ hs.1.1 e1
    split at i1
    · split at i1
      · exact stillE g a _ _ _ _ hs.1.2 i1
      · exact stillE g b _ _ _ _ hs.2 i1
    · cases i1
  | .chn o o' a b c, t, ρ, ρ', d, hs, h => by
    simp only [CE.still, Bool.and_eq_true] at hs
    simp only [CE.ev] at h
    obtain ⟨x, i1⟩ := tr_ok h
    obtain ⟨y, ρ1, e1, i2⟩ := bind_ok i1
    obtain ⟨z, ρ2, e2, i3⟩ := bind_ok i2
    obtain rfl := stillE g a _ _ _ _ hs.1.1 e1
    obtain rfl := stillE g b _ _ _ _ hs.1.2 e2
    split at i3
    · split at i3
      · split at i3
        · obtain ⟨u, ρ3, e3, i4⟩ := bind_ok i3
          obtain rfl := stillE g c _ _ _ _ hs.2 e3
          exact (of_ok i4).symm
        · cases i3; rfl
      · cases i3
    · cases i3
  | .idx a b, t, ρ, ρ', d, hs, h => by
    simp only [CE.still, Bool.and_eq_true] at hs
    simp only [CE.ev] at h
    obtain ⟨x, i1⟩ := tr_ok h
    obtain ⟨y, ρ1, e1, i2⟩ := bind_ok i1
    obtain ⟨z, ρ2, e2, i3⟩ := bind_ok i2
    obtain rfl := stillE g a _ _ _ _ hs.1 e1
    obtain rfl := stillE g b _ _ _ _ hs.2 e2
    split at i3
    · exact (of_ok i3).symm
    · cases i3
  | .sl a lo hi, t, ρ, ρ', d, hs, h => by
    simp only [CE.still, Bool.and_eq_true] at hs
    simp only [CE.ev] at h
    obtain ⟨x, i1⟩ := tr_ok h
    obtain ⟨y, ρ1, e1, i2⟩ := bind_ok i1
    obtain ⟨z, ρ2, e2, i3⟩ := bind_ok i2
    obtain ⟨u, ρ3, e3, i4⟩ := bind_ok i3
    obtain rfl := stillE g a _ _ _ _ hs.1.1 e1
    obtain rfl := stillC g lo _ _ _ hs.1.2 e2
    obtain rfl := stillC g hi _ _ _ hs.2 e3
    split at i4
    · exact (of_ok i4).symm
    · cases i4
  | .tup es, t, ρ, ρ', d, hs, h => by
    simp only [CE.ev] at h
    obtain ⟨x, i1⟩ := tr_ok h
    obtain ⟨y, ρ1, e1, i2⟩ := bindL_ok i1
    obtain rfl := stillL g es _ _ _ (by simpa only [CE.still] using hs) e1
    split at i2 <;> cases i2
    rfl
  | .lst es, t, ρ, ρ', d, hs, h => by
    simp only [CE.ev] at h
    obtain ⟨x, i1⟩ := tr_ok h
    obtain ⟨y, ρ1, e1, i2⟩ := bindL_ok i1
    obtain rfl := stillL g es _ _ _ (by simpa only [CE.still] using hs) e1
    split at i2 <;> cases i2
    rfl
  | .cal i es, t, ρ, ρ', d, hs, h => by
    simp only [CE.ev] at h
    obtain ⟨x, i1⟩ := tr_ok h
    obtain ⟨y, ρ1, e1, i2⟩ := bindL_ok i1
    have hs' : es.still = true := by simpa only [CE.still] using hs
    obtain rfl := stillL g es _ _ _ hs' e1
    split at i2 <;> try cases i2
    split at i2 <;> try cases i2
    split at i2 <;> try cases i2
    rename_i e
    exact still_gb es hs' _ _ _ _ e
  | .lnd i, t, ρ, ρ', d, hs, h => by simp [CE.still] at hs
  | .blt b es, t, ρ, ρ', d, hs, h => by
    simp only [CE.ev] at h
    obtain ⟨x, i1⟩ := tr_ok h
    obtain ⟨y, ρ1, e1, i2⟩ := bindL_ok i1
    obtain rfl := stillL g es _ _ _ (by simpa only [CE.still] using hs) e1
    split at i2
    · exact (of_ok i2).symm
    · cases i2
  | .lc own tg it cs e, t, ρ, ρ', d, hs, h => by
    simp only [CE.still, Bool.and_eq_true] at hs
    simp only [CE.ev] at h
    obtain ⟨x, i1⟩ := tr_ok h
    split at i1
    · rename_i xs ρ1 e1
      obtain rfl := stillI g it _ _ _ hs.1.1.2 e1
      split at i1
      · rename_i d2 ρ2 e2
        cases i1
        exact p_back_wipe _ _ _ (lc_still (fun d ρ ρ' i1 => tg_wipe own tg d ρ ρ' hs.1.1.1 i1) (fun ρ d ρ' i1 => stillF g cs ρ ρ' d hs.1.2 i1) (fun ρ d ρ' i1 => stillE g e false ρ ρ' d hs.2 i1) _ _ _ _ _ e2)
      · cases i1
    · cases i1
    · cases i1
  | .mth m i es, t, ρ, ρ', d, hs, h => by simp [CE.still] at hs
  | .mti m i j es, t, ρ, ρ', d, hs, h => by simp [CE.still] at hs
  | .fz a, t, ρ, ρ', d, hs, h => by
    simp only [CE.ev] at h
    obtain ⟨x, i1⟩ := tr_ok h
    obtain ⟨y, ρ1, e1, i2⟩ := bind_ok i1
    obtain rfl := stillE g a _ _ _ _ (by simpa only [CE.still] using hs) e1
    split at i2 <;> cases i2
    rfl
  | .rev a, t, ρ, ρ', d, hs, h => by
    simp only [CE.ev] at h
    obtain ⟨x, i1⟩ := tr_ok h
    obtain ⟨y, ρ1, e1, i2⟩ := bind_ok i1
    obtain rfl := stillE g a _ _ _ _ (by simpa only [CE.still] using hs) e1
    exact (of_ok i2).symm
  | .jn n a, t, ρ, ρ', d, hs, h => by
    simp only [CE.ev] at h
    obtain ⟨x, i1⟩ := tr_ok h
    obtain ⟨y, ρ1, e1, i2⟩ := bind_ok i1
    obtain rfl := stillE g a _ _ _ _ (by simpa only [CE.still] using hs) e1
    exact (of_ok i2).symm
  | .pm m a es, t, ρ, ρ', d, hs, h => by
    simp only [CE.still, Bool.and_eq_true] at hs
    simp only [CE.ev] at h
    obtain ⟨x, i1⟩ := tr_ok h
    obtain ⟨y, ρ1, e1, i2⟩ := bind_ok i1
    obtain rfl := stillE g a _ _ _ _ hs.1 e1
    split at i2
    · obtain ⟨z, ρ2, e2, i3⟩ := bindL_ok i2
      obtain rfl := stillL g es _ _ _ hs.2 e2
      split at i3
      · exact (of_ok i3).symm
      · cases i3
    · cases i2
  | .bor is a, t, ρ, ρ', d, hs, h => by simp [CE.still] at hs
  | .fst es, t, ρ, ρ', d, hs, h => by
    simp only [CE.ev] at h
    obtain ⟨x, i1⟩ := tr_ok h
    exact stillFs g es _ _ _ _ (by simpa only [CE.still] using hs) i1
theorem stillC (g : Gs) : ∀ (e : CO) (ρ ρ' : Ev) (d : D), e.still = true → e.ev g ρ = .ok d ρ' → ρ' = ρ
  | .none, ρ, ρ', d, hs, h => by
    simp only [CO.ev] at h
    cases h; rfl
  | .some e, ρ, ρ', d, hs, h => by
    simp only [CO.ev] at h
    obtain ⟨y, ρ1, e1, i1⟩ := bind_ok h
    obtain rfl := stillE g e _ _ _ _ (by simpa only [CO.still] using hs) e1
    split at i1 <;> cases i1
    rfl
theorem stillFs (g : Gs) : ∀ (e : CL) (acc : Str) (ρ ρ' : Ev) (d : D), e.still = true → e.evFs g acc ρ = .ok d ρ' → ρ' = ρ
  | .nil, acc, ρ, ρ', d, hs, h => by
    simp only [CL.evFs] at h
    cases h; rfl
  | .cons e es, acc, ρ, ρ', d, hs, h => by
    have hs' : e.still = true ∧ es.still = true := by
      cases e <;> first | (simpa only [CL.still, Bool.and_eq_true] using hs) | simp [CL.still] at hs
    simp only [CL.evFs] at h
    obtain ⟨y, ρ1, e1, i1⟩ := bind_ok h
    obtain rfl := stillE g e _ _ _ _ hs'.1 e1
    split at i1
    · split at i1
      · exact stillFs g es _ _ _ _ hs'.2 i1
      · cases i1
    · cases i1
theorem stillL (g : Gs) : ∀ (e : CL) (ρ ρ' : Ev) (ds : List D), e.still = true → e.ev g ρ = .ok ds ρ' → ρ' = ρ
  | .nil, ρ, ρ', d, hs, h => by
    simp only [CL.ev] at h
    cases h; rfl
  | .cons e es, ρ, ρ', d, hs, h => by
    have hl : e.isLnd = false := by cases e <;> first | rfl | simp [CL.still] at hs
    have hs' : e.still = true ∧ es.still = true := by
      cases e <;> first | (simpa only [CL.still, Bool.and_eq_true] using hs) | simp [CL.still] at hs
    rw [ev_cons hl] at h
    obtain ⟨y, ρ1, e1, i1⟩ := thenL_ok h
    obtain ⟨z, ρ2, e2, i2⟩ := thenLL_ok i1
    obtain rfl := stillE g e _ _ _ _ hs'.1 e1
    obtain rfl := stillL g es _ _ _ hs'.2 e2
    split at i2 <;> cases i2
    rfl
theorem stillA (g : Gs) : ∀ (e : CL) (t : Bool) (ρ ρ' : Ev) (d : D), e.still = true → e.evAnd g t ρ = .ok d ρ' → ρ' = ρ
  | .nil, t, ρ, ρ', d, hs, h => by simp [CL.evAnd] at h
  | .cons e es, t, ρ, ρ', d, hs, h => by
    have hs' : e.still = true ∧ es.still = true := by
      cases e <;> first | (simpa only [CL.still, Bool.and_eq_true] using hs) | simp [CL.still] at hs
    cases es with
    | nil => exact stillE g e _ _ _ _ hs'.1 (by simpa only [CL.evAnd] using h)
    | cons e2 es2 =>
      rw [CL.evAnd.eq_3 _ _ _ _ _ (by intro h; cases h)] at h
      obtain ⟨y, ρ1, e1, i1⟩ := bind_ok h
      obtain rfl := stillE g e _ _ _ _ hs'.1 e1
      split at i1
      · split at i1
        · exact stillA g (.cons e2 es2) _ _ _ _ hs'.2 i1
        · cases i1; rfl
      · cases i1
theorem stillO (g : Gs) : ∀ (e : CL) (t : Bool) (ρ ρ' : Ev) (d : D), e.still = true → e.evOr g t ρ = .ok d ρ' → ρ' = ρ
  | .nil, t, ρ, ρ', d, hs, h => by simp [CL.evOr] at h
  | .cons e es, t, ρ, ρ', d, hs, h => by
    have hs' : e.still = true ∧ es.still = true := by
      cases e <;> first | (simpa only [CL.still, Bool.and_eq_true] using hs) | simp [CL.still] at hs
    cases es with
    | nil => exact stillE g e _ _ _ _ hs'.1 (by simpa only [CL.evOr] using h)
    | cons e2 es2 =>
      rw [CL.evOr.eq_3 _ _ _ _ _ (by intro h; cases h)] at h
      obtain ⟨y, ρ1, e1, i1⟩ := bind_ok h
      obtain rfl := stillE g e _ _ _ _ hs'.1 e1
      split at i1
      · split at i1
        · cases i1; rfl
        · exact stillO g (.cons e2 es2) _ _ _ _ hs'.2 i1
      · cases i1
theorem stillF (g : Gs) : ∀ (e : CL) (ρ ρ' : Ev) (d : D), e.still = true → e.evIf g ρ = .ok d ρ' → ρ' = ρ
  | .nil, ρ, ρ', d, hs, h => by
    simp only [CL.evIf] at h
    cases h; rfl
  | .cons e es, ρ, ρ', d, hs, h => by
    have hs' : e.still = true ∧ es.still = true := by
      cases e <;> first | (simpa only [CL.still, Bool.and_eq_true] using hs) | simp [CL.still] at hs
    cases es with
    | nil => exact stillE g e _ _ _ _ hs'.1 (by simpa only [CL.evIf] using h)
    | cons e2 es2 => simp [CL.evIf] at h
theorem stillI (g : Gs) : ∀ (e : CI) (ρ ρ' : Ev) (d : List D), e.still = true → e.ev g ρ = .ok d ρ' → ρ' = ρ
  | .seq a, ρ, ρ', d, hs, h => by
    simp only [CI.ev] at h
    obtain ⟨y, ρ1, e1, i1⟩ := thenL_ok h
    obtain rfl := stillE g a _ _ _ _ (by simpa only [CI.still] using hs) e1
    split at i1 <;> cases i1
    rfl
  | .rng1 a, ρ, ρ', d, hs, h => by
    simp only [CI.ev] at h
    obtain ⟨y, ρ1, e1, i1⟩ := thenL_ok h
    obtain rfl := stillE g a _ _ _ _ (by simpa only [CI.still] using hs) e1
    split at i1 <;> try cases i1
    split at i1 <;> cases i1
    rfl
  | .rng2 a b, ρ, ρ', d, hs, h => by
    simp only [CI.still, Bool.and_eq_true] at hs
    simp only [CI.ev] at h
    obtain ⟨y, ρ1, e1, i1⟩ := thenL_ok h
    obtain ⟨z, ρ2, e2, i2⟩ := thenL_ok i1
    obtain rfl := stillE g a _ _ _ _ hs.1 e1
    obtain rfl := stillE g b _ _ _ _ hs.2 e2
    split at i2 <;> try cases i2
    split at i2 <;> cases i2
    rfl
  | .zip a b, ρ, ρ', d, hs, h => by
    simp only [CI.still, Bool.and_eq_true] at hs
    simp only [CI.ev] at h
    obtain ⟨y, ρ1, e1, i1⟩ := thenL_ok h
    obtain ⟨z, ρ2, e2, i2⟩ := thenL_ok i1
    obtain rfl := stillE g a _ _ _ _ hs.1 e1
    obtain rfl := stillE g b _ _ _ _ hs.2 e2
    split at i2 <;> cases i2
    rfl
  | .enm a, ρ, ρ', d, hs, h => by
    simp only [CI.ev] at h
    obtain ⟨y, ρ1, e1, i1⟩ := thenL_ok h
    obtain rfl := stillE g a _ _ _ _ (by simpa only [CI.still] using hs) e1
    split at i1 <;> cases i1
    rfl
  | .zip3 a b c, ρ, ρ', d, hs, h => by
    simp only [CI.still, Bool.and_eq_true] at hs
    simp only [CI.ev] at h
    obtain ⟨y, ρ1, e1, i1⟩ := thenL_ok h
    obtain ⟨z, ρ2, e2, i2⟩ := thenL_ok i1
    obtain ⟨u, ρ3, e3, i3⟩ := thenL_ok i2
    obtain rfl := stillE g a _ _ _ _ hs.1.1 e1
    obtain rfl := stillE g b _ _ _ _ hs.1.2 e2
    obtain rfl := stillE g c _ _ _ _ hs.2 e3
    split at i3 <;> cases i3
    rfl
end
section
variable {K : PySem.W.Frag} {H H' : Hp} {Z Z' : AS} {w : Ws} {σ : St} {ρ : Ev}
mutual
theorem Rep.noF' (hz : ∀ a, Z' a → Z a) : ∀ (d : D) (O : AS) (v : V), d.noF = true → Rep K H Z O v d → Rep K H Z' O v d
  | .non, _, _, _, .non => .non
  | .bl _, _, _, _, .bl => .bl
  | .int _, _, _, _, .int => .int
  | .str _, _, _, _, .str => .str
  | .tup ds, _, _, h, .tup s r => .tup s (RepL.noF' hz ds _ _ (by simpa only [D.noF] using h) r)
  | .lst .own ds, _, _, h, .own a b c d e f => .own a (fun z => b (hz _ z)) c d e (RepL.noF' hz ds _ _ (by simpa only [D.noF] using h) f)
  | .lst .frz ds, _, _, h, _ => by simp [D.noF] at h
  | .lst .brw ds, _, _, h, _ => by simp [D.noF] at h
theorem RepL.noF' (hz : ∀ a, Z' a → Z a) : ∀ (ds : List D) (O : AS) (vs : List V), D.noFL ds = true → RepL K H Z O vs ds → RepL K H Z' O vs ds
  | [], _, _, _, .nil => .nil
  | d :: ds, _, _, h, .cons h1 h2 h3 a b => by
    simp only [D.noFL, Bool.and_eq_true] at h
    exact .cons h1 h2 h3 (Rep.noF' hz d _ _ h.1 a) (RepL.noF' hz ds _ _ h.2 b)
end
theorem S.frzS : ∀ (is : List Nat) {ρ : Ev} {Z : AS} {w : Ws}, S K Z w σ ρ H → ∃ Z1 w1, S K Z1 w1 σ (PD.frzS is ρ) H ∧ (∀ a, Z a → Z1 a) ∧ (∀ a, Z1 a → Z a ∨ w a ≠ none) ∧ ∀ a, w1 a ≠ none → w a ≠ none
  | [], ρ, Z, w, st => ⟨Z, w, st, fun _ z => z, fun _ z => .inl z, fun _ z => z⟩
  | i :: is, ρ, Z, w, st => by
    simp only [PD.frzS]
    split
    · rename_i d e
      obtain ⟨hr, v, hv, r⟩ := st.rep i _ e
      have s1 := st.frz e hv r hr
      obtain ⟨Z1, w1, s2, z1, z2, z3⟩ := S.frzS is s1
      refine ⟨Z1, w1, s2, fun a z => z1 a (.inl z), fun a z => ?_, fun a z => (wput_own (z3 a z)).elim id fun y => y.elim⟩
      rcases z2 a z with (y | y) | y
      · exact .inl y
      · exact .inr (by rw [y]; exact fun z => nomatch z)
      · exact .inr ((wput_own y).elim id fun y => y.elim)
    · exact S.frzS is st
end
section
variable {X : Cx} {p : Wd} {g : Gs}
theorem e_bor {is : List Nat} {a : CE} {x : Expr} (h : PE X x (tE p a.quiet (a.ev g false))) : PE X x (tE p (CE.bor is a).quiet ((CE.bor is a).ev g false)) := PE.imp h fun σ H Q q => by
  obtain ⟨ρ, Z, w, st, q⟩ := q
  have q : RP p a.quiet A0 H Z w σ (if a.still && a.quiet then (match a.ev g false (frzS is ρ) with
    | .ok d _ => if d.noF then .ok d ρ else .stuck
    | _ => .stuck) else .stuck) Q := q
  split at q <;> try exact q.elim
  rename_i hc
  simp only [Bool.and_eq_true] at hc
  obtain ⟨hs, hq⟩ := hc
  obtain ⟨Z1, w1, s1, z1, z2, z3⟩ := S.frzS is st
  refine ⟨frzS is ρ, Z1, w1, s1, ?_⟩
  rw [hq] at q ⊢
  cases e : a.ev g false (frzS is ρ) with
  | stuck => rw [e] at q; exact q.elim
  | exc c fs ρ' => rw [e] at q; exact q.elim
  | ok d ρ1 =>
    obtain rfl := stillE g a _ _ _ _ hs e
    rw [e] at q
    dsimp only at q
    split at q <;> try exact q.elim
    rename_i hf
    intro v H2 Z2 w2 O2 s2 n2 t2 r2
    have k2 : ∀ a o, H a = some o → H2 a = some o := fun a o e => n2.keep a o e (fun z => z.elim) (.inl rfl)
    have own : ∀ a, w a ≠ none → (∃ xs, H a = some (.lst xs)) ∧ ¬ Z a := st.wok
    have zi : ∀ a, Z a → Z2 a ∧ w a = none := fun a z => ⟨n2.zin a (z1 a z), by
      cases e : w a with
      | none => rfl
      | some j => exact absurd z (own a (by rw [e]; exact fun z => nomatch z)).2⟩
    have zn : ∀ a, (Z2 a ∧ w a = none) → Z a ∨ False ∨ H a = none := fun a z => by
      rcases n2.znew a z.1 with y | y | y | y
      · rcases z2 a y with y | y
        · exact .inl y
        · exact absurd z.2 y
      · exact absurd z.2 (z3 a y)
      · exact .inr (.inr y)
      · exact y.elim
    have sF : S p.K (fun a => Z2 a ∧ w a = none) w σ ρ H2 := by
      refine ⟨st.len, fun i d e => ?_, fun a z => s2.zok a z.1, fun a z => ?_⟩
      · obtain ⟨hr, v, hv, r⟩ := st.rep i d e
        refine ⟨hr, v, hv, ?_⟩
        exact Rep.go (E := fun _ => False) (M := fun _ => False) ⟨fun a o e _ => k2 a o e, zi, zn⟩ (fun _ m => m) (fun _ _ m => m) (fun _ _ m => m.elim) d _ v (fun _ _ m => m) (.inl hr) r
      · obtain ⟨xs, e⟩ := (own a z).1
        exact ⟨⟨xs, k2 _ _ e⟩, fun y => z y.2⟩
    refine q v H2 _ _ O2 sF ⟨fun a o e _ _ => k2 a o e, zi, fun a z => ?_, fun a z => .inl z⟩ ⟨fun a z => ?_, fun a z y => t2.nz a z y.1, t2.lst, fun a z => ?_⟩ (Rep.noF' (fun a z => z.1) _ _ _ hf r2)
    · rcases zn a z with y | y | y
      · exact .inl y
      · exact y.elim
      · exact .inr (.inr (.inl y))
    · cases e : w a with
      | none => rfl
      | some j =>
        obtain ⟨xs, e2⟩ := (own a (by rw [e]; exact fun z => nomatch z)).1
        rcases t2.new a z with y | y | y
        · exact nomatch y.1
        · rw [y] at e2; cases e2
        · exact y.elim
    · rcases t2.new a z with y | y | y
      · exact nomatch y.1
      · exact .inr (.inl y)
      · exact y.elim
theorem e_borT {is : List Nat} {a : CE} {x : Expr} (h : PT X x (tT p a.quiet (a.ev g true))) : PT X x (tT p (CE.bor is a).quiet ((CE.bor is a).ev g true)) := PT.imp h fun σ H Q q => by
  obtain ⟨ρ, Z, w, st, q⟩ := q
  have q : RPT p a.quiet A0 H Z w σ (if a.still && a.quiet then (match a.ev g true (frzS is ρ) with
    | .ok d _ => if d.noF then .ok d ρ else .stuck
    | _ => .stuck) else .stuck) Q := q
  split at q <;> try exact q.elim
  rename_i hc
  simp only [Bool.and_eq_true] at hc
  obtain ⟨hs, hq⟩ := hc
  obtain ⟨Z1, w1, s1, z1, z2, z3⟩ := S.frzS is st
  refine ⟨frzS is ρ, Z1, w1, s1, ?_⟩
  rw [hq] at q ⊢
  cases e : a.ev g true (frzS is ρ) with
  | stuck => rw [e] at q; exact q.elim
  | exc c fs ρ' => rw [e] at q; exact q.elim
  | ok d ρ1 =>
    obtain rfl := stillE g a _ _ _ _ hs e
    rw [e] at q
    dsimp only at q
    split at q <;> try exact q.elim
    rename_i hf
    cases d <;> try exact q.elim
    intro H2 Z2 w2 s2 n2
    have k2 : ∀ a o, H a = some o → H2 a = some o := fun a o e => n2.keep a o e (fun z => z.elim) (.inl rfl)
    have own : ∀ a, w a ≠ none → (∃ xs, H a = some (.lst xs)) ∧ ¬ Z a := st.wok
    have zi : ∀ a, Z a → Z2 a ∧ w a = none := fun a z => ⟨n2.zin a (z1 a z), by
      cases e : w a with
      | none => rfl
      | some j => exact absurd z (own a (by rw [e]; exact fun z => nomatch z)).2⟩
    have zn : ∀ a, (Z2 a ∧ w a = none) → Z a ∨ False ∨ H a = none := fun a z => by
      rcases n2.znew a z.1 with y | y | y | y
      · rcases z2 a y with y | y
        · exact .inl y
        · exact absurd z.2 y
      · exact absurd z.2 (z3 a y)
      · exact .inr (.inr y)
      · exact y.elim
    have sF : S p.K (fun a => Z2 a ∧ w a = none) w σ ρ H2 := by
      refine ⟨st.len, fun i d e => ?_, fun a z => s2.zok a z.1, fun a z => ?_⟩
      · obtain ⟨hr, v, hv, r⟩ := st.rep i d e
        refine ⟨hr, v, hv, ?_⟩
        exact Rep.go (E := fun _ => False) (M := fun _ => False) ⟨fun a o e _ => k2 a o e, zi, zn⟩ (fun _ m => m) (fun _ _ m => m) (fun _ _ m => m.elim) d _ v (fun _ _ m => m) (.inl hr) r
      · obtain ⟨xs, e⟩ := (own a z).1
        exact ⟨⟨xs, k2 _ _ e⟩, fun y => z y.2⟩
    refine q H2 _ _ sF ⟨fun a o e _ _ => k2 a o e, zi, fun a z => ?_, fun a z => .inl z⟩
    rcases zn a z with y | y | y
    · exact .inl y
    · exact y.elim
    · exact .inr (.inr (.inl y))
end
end PD
set_option Elab.async false
set_option linter.all false
set_option maxRecDepth 100000
set_option maxHeartbeats 4000000
/-! PdQ: comprehensions. -/
namespace PD
open PySem L2
section
variable {K : PySem.W.Frag} {H H' : Hp} {Z Z' : AS} {w w' : Ws} {σ σ' : St} {ρ ρ' : Ev}
theorem wipeD_get {ρ : Ev} : ∀ {own : List Nat} {j : Nat}, j ∉ own → (wipeD ρ own)[j]? = ρ[j]?
  | [], _, _ => rfl
  | i :: is, j, h => by
    simp only [List.mem_cons, not_or] at h
    simp only [wipeD]
    rw [List.getElem?_set_ne (Ne.symm h.1), wipeD_get h.2]
theorem wipeD_len {ρ : Ev} : ∀ own : List Nat, (wipeD ρ own).length = ρ.length
  | [] => rfl
  | i :: is => by simp only [wipeD, List.length_set]; exact wipeD_len is
theorem backD_len {ρ ρ' : Ev} : ∀ own : List Nat, (backD ρ own ρ').length = ρ'.length
  | [] => rfl
  | i :: is => by simp only [backD, List.length_set]; exact backD_len is
theorem backD_out {ρ ρ' : Ev} : ∀ {own : List Nat} {j : Nat}, j ∉ own → (backD ρ own ρ')[j]? = ρ'[j]?
  | [], _, _ => rfl
  | i :: is, j, h => by
    simp only [List.mem_cons, not_or] at h
    simp only [backD]
    rw [List.getElem?_set_ne (Ne.symm h.1), backD_out h.2]
theorem backD_in {ρ ρ' : Ev} : ∀ {own : List Nat} {j : Nat}, j ∈ own → j < ρ'.length → (backD ρ own ρ')[j]? = some (ρ[j]?.join)
  | [], _, h, _ => by simp at h
  | i :: is, j, h, hl => by
    simp only [backD]
    by_cases e : i = j
    · subst e
      rw [List.getElem?_set_self (by rw [backD_len]; exact hl)]
    · rw [List.getElem?_set_ne e]
      simp only [List.mem_cons] at h
      exact backD_in (h.resolve_left fun z => e z.symm) hl
theorem wipe_len (σ : St) : ∀ own : List Nat, (wipe σ own).length = σ.length := wipe_length σ
theorem wipe_agree {σ σ' : St} (hl : σ'.length = σ.length) : ∀ {own : List Nat}, (∀ j, j ∉ own → σ'[j]? = σ[j]?) → wipe σ' own = wipe σ own := by
  intro own h
  apply List.ext_getElem?
  intro j
  by_cases hj : j ∈ own
  · have : ∀ (σ : St) (own : List Nat), j ∈ own → (wipe σ own)[j]? = if j < σ.length then some none else none := by
      intro σ own
      induction own with
      | nil => intro h; simp at h
      | cons i is ih =>
        intro hm
        simp only [wipe]
        by_cases e : i = j
        · subst e
          by_cases hlt : i < σ.length
          · rw [List.getElem?_set_self (by rw [wipe_length]; exact hlt), if_pos hlt]
          · rw [List.getElem?_eq_none (by simp [wipe_length]; omega), if_neg hlt]
        · rw [List.getElem?_set_ne e]
          simp only [List.mem_cons] at hm
          exact ih (hm.resolve_left fun z => e z.symm)
    rw [this σ' own hj, this σ own hj, hl]
  · rw [wipe_out hj, wipe_out hj]
    exact h j hj
/-- slots forgotten -/
theorem S.wiped (s : S K Z w σ ρ H) : ∀ own : List Nat, ∃ w', S K Z w' (wipe σ own) (wipeD ρ own) H ∧ ∀ a j, w' a = some j ↔ (w a = some j ∧ j ∉ own)
  | [] => ⟨w, s, fun a j => by simp⟩
  | i :: is => by
    obtain ⟨w', s', h'⟩ := S.wiped s is
    refine ⟨wput w' i A0, s'.drop (fun j hj => List.getElem?_set_ne (Ne.symm hj)) (by simp [wipe]), fun a j => ?_⟩
    by_cases e : j = i
    · subst e
      rw [wput_i]
      simp [A0]
    · rw [wput_j e, h' a j]
      simp [A0, e]
open Classical in
/-- the slots of a block's own names as they were ahead of it -/
theorem S.back {own : List Nat} {w1 wb : Ws} {H1 : Hp} {Z1 : AS} {ρ1 : Ev} (s1 : S K Z1 w1 σ ρ1 H1) (sc : S K Z w (wipe σ own) (wipeD ρ own) H) (sb : S K Z1 wb (wipe σ own) (wipeD ρ1 own) H1) (hwb : ∀ a j, wb a = some j ↔ (w1 a = some j ∧ j ∉ own)) {q : Bool} (n : Nx q A0 H1 Z1 wb H Z w) :
    ∃ wr, S K Z wr σ (backD ρ1 own ρ) H ∧ Nx q A0 H1 Z1 w1 H Z wr ∧ (∀ a, wr a ≠ none → w a ≠ none ∨ ∃ i, i ∈ own ∧ w1 a = some i) := by
  have hlen : ρ.length = ρ1.length := by
    have e1 := sc.len
    have e2 := s1.len
    rw [wipe_length, wipeD_len] at e1
    omega
  -- what the own slots owned
  let ob : AS := fun a => ∃ i, i ∈ own ∧ w1 a = some i
  have wbn : ∀ a, ob a → wb a = none := fun a ⟨i, hi, e⟩ => by
    cases e2 : wb a with
    | none => rfl
    | some j =>
      obtain ⟨e3, h3⟩ := (hwb a j).mp e2
      rw [e] at e3; cases e3
      exact absurd hi h3
  have tn1 : Tn H1 Z1 wb ob := ⟨wbn, fun a ⟨i, hi, e⟩ => (s1.wok a (by rw [e]; exact fun z => nomatch z)).2, fun a ⟨i, hi, e⟩ => (s1.wok a (by rw [e]; exact fun z => nomatch z)).1⟩
  have tn2 := tn1.go n fun _ _ z => z
  refine ⟨fun a => if ob a then w1 a else w a, ⟨?_, fun i d hd => ?_, sc.zok, fun a h => ?_⟩, ⟨fun a o e _ hq => ?_, n.zin, fun a z => ?_, fun a h => ?_⟩, fun a h => ?_⟩
  · rw [backD_len, hlen]; exact s1.len
  · by_cases hi : i ∈ own
    · have hl : i < ρ.length := by
        have := (List.getElem?_eq_some_iff.mp hd).1
        rwa [backD_len] at this
      rw [backD_in hi hl] at hd
      have e0 : ρ1[i]? = some (some d) := by
        cases e1 : ρ1[i]? with
        | none => rw [e1] at hd; cases hd
        | some o =>
          rw [e1] at hd
          cases o with
          | none => cases hd
          | some d' => cases hd; rfl
      obtain ⟨g1, v, g2, g3⟩ := s1.rep i d e0
      have t1 : Tn H1 Z1 wb (fun a => w1 a = some i) := tn1.sub fun a z => ⟨i, hi, z⟩
      refine ⟨g1, v, g2, (Rep.on sb n t1 (.inl g1) g3).wide fun a z => ?_⟩
      have ho : ob a := ⟨i, hi, z⟩
      simp only [ho, if_true]
      exact z
    · rw [backD_out hi, ← wipeD_get hi] at hd
      obtain ⟨g1, v, g2, g3⟩ := sc.rep i d hd
      rw [wipe_out hi] at g2
      refine ⟨g1, v, g2, g3.wide fun a z => ?_⟩
      have ho : ¬ ob a := fun y => by
        have := tn2.free a y
        rw [z] at this; cases this
      simp only [ho, if_false]
      exact z
  · by_cases ho : ob a
    · exact ⟨tn2.lst a ho, tn2.nz a ho⟩
    · simp only [ho, if_false] at h
      exact sc.wok a h
  · refine n.keep a o e id (hq.imp id fun z => ?_)
    cases e2 : wb a with
    | none => rfl
    | some j =>
      rw [((hwb a j).mp e2).1] at z
      cases z
  · rcases n.znew a z with y | y | y
    · exact .inl y
    · refine .inr (.inl fun z => ?_)
      cases e2 : wb a with
      | none => exact y e2
      | some j => rw [((hwb a j).mp e2).1] at z; cases z
    · exact .inr (.inr y)
  · by_cases ho : ob a
    · obtain ⟨i, _, e⟩ := ho
      exact .inl (by rw [e]; exact fun z => nomatch z)
    · simp only [ho, if_false] at h
      rcases n.fresh a h with y | y
      · refine .inl fun z => ?_
        cases e2 : wb a with
        | none => exact y e2
        | some j => rw [((hwb a j).mp e2).1] at z; cases z
      · exact .inr y
  · by_cases ho : ob a
    · exact .inr ho
    · simp only [ho, if_false] at h
      exact .inl h
end
end PD
set_option Elab.async false
set_option linter.all false
set_option maxRecDepth 100000
set_option maxHeartbeats 4000000
/-! PdR: the comprehension's reading. -/
namespace PD
open PySem L2
/-- no exception leaves -/
def Wd.no (p : Wd) : Wd := { p with W := fun _ _ _ _ => False }
section
variable {X : Cx} {p : Wd} {s : Sx} {g : Gs} {pos : Pos}
theorem lookup_map' {α : Type} {f : Str × α → Str × α} (hf : ∀ z, (f z).1 = z.1) {x : Str} {k : α} : ∀ {names : List (Str × α)}, names.lookup x = some k → ∃ n, (names.map f).lookup x = some (f (n, k)).2
  | [], h => by simp at h
  | (n, k₀) :: r, h => by
    have e : ∀ (a b : Str) (c : α) (l : List (Str × α)), a = b → List.lookup x ((a, c) :: l) = if (x == b) = true then some c else List.lookup x l := fun a b c l z => by
      subst z
      rw [List.lookup_cons]
      split <;> simp_all
    rw [e n n k₀ r rfl] at h
    rw [List.map_cons, show f (n, k₀) = ((f (n, k₀)).1, (f (n, k₀)).2) from rfl, e _ n _ _ (hf _)]
    split at h
    · rename_i hx
      cases h
      exact ⟨n, by rw [if_pos hx]⟩
    · rename_i hx
      rw [if_neg hx]
      exact lookup_map' hf h
theorem rel_look {sc scope : Scope} {x : Str} {k : NameKind} (h : scope.names.lookup x = some k) : (relS scope sc).names.lookup x = some k ∨ (k = .free ∧ (relS scope sc).names.lookup x = some .cell) := by
  obtain ⟨n, hn⟩ := lookup_map' (f := fun z : Str × NameKind => if (z.2 == NameKind.free && sc.kind == .function && sc.names.lookup z.1 == some .cell) then (z.1, NameKind.cell) else (z.1, z.2)) (fun z => by split <;> rfl) h
  have hn : (relS scope sc).names.lookup x = _ := hn
  rw [hn]
  dsimp only
  split
  · rename_i hc
    simp only [Bool.and_eq_true, beq_iff_eq] at hc
    exact .inr ⟨hc.1.1, rfl⟩
  · exact .inl rfl
theorem rel_keep {sc scope : Scope} {x : Str} {k : NameKind} (hk : k ≠ .free) (h : scope.names.lookup x = some k) : (relS scope sc).names.lookup x = some k := (rel_look h).resolve_right fun z => hk z.1
theorem visB_cases {sc : Scope} {x : Str} (h : visB sc x = true) : sc.names.lookup x = some .local ∨ sc.names.lookup x = some .cell ∨ sc.names.lookup x = some .free := by
  unfold visB at h
  split at h <;> first | (left; assumption) | (right; left; assumption) | (right; right; assumption) | contradiction
theorem stoB_cases {sc : Scope} {x : Str} (h : stoB sc x = true) : sc.names.lookup x = some .local ∨ sc.names.lookup x = some .cell := by
  unfold stoB at h
  split at h <;> first | (left; assumption) | (right; assumption) | contradiction
theorem glB_cases {sc : Scope} {x : Str} (h : glB sc x = true) : sc.names.lookup x = some .globalImplicit := by
  unfold glB at h
  split at h <;> first | assumption | contradiction
theorem Ok.blk (ok : Ok X p s g) {scope : Scope} {own : List (Str × Nat)} (hb : blkC s.N s.sc scope own = true) (s1 : Shared) (H : Hp) (C : Addr) (cl : List (Str × Addr)) (fp : List Addr) : Ok (X.blk s1 H scope (compEnvC scope cl C X.env) fp) p.no { s with sc := scope } g where
  K := ok.K
  calm := ok.calm
  N := ok.N
  nd := ok.nd
  vis := fun x h => by
    show Vis (relS scope X.env.scope) x
    rcases visB_cases h with e | e | e
    · exact .inl (rel_keep (by decide) e)
    · exact .inr (.inl (rel_keep (by decide) e))
    · rcases rel_look (sc := X.env.scope) e with z | ⟨_, z⟩
      · exact .inr (.inr z)
      · exact .inr (.inl z)
  gl := fun x h => rel_keep (sc := X.env.scope) (by decide) (glB_cases h)
  sto := fun x h => by
    rcases stoB_cases h with e | e
    · exact ⟨.inl (rel_keep (sc := X.env.scope) (by decide) e), .inr (rel_keep (sc := X.env.scope) (by decide) e)⟩
    · refine ⟨.inr (rel_keep (sc := X.env.scope) (by decide) e), .inl ?_⟩
      show (scope.names.lookup x == some .cell) = true
      have e : scope.names.lookup x = some .cell := e
      rw [e]; rfl
  cf := fun x h => by
    show (relS scope X.env.scope).names.lookup x = some .cell ∨ (relS scope X.env.scope).names.lookup x = some .free
    rcases h with e | e
    · exact .inl (rel_keep (by decide) e)
    · rcases rel_look (sc := X.env.scope) e with z | ⟨_, z⟩
      · exact .inr z
      · exact .inl z
  lc := fun x h => rel_keep (sc := X.env.scope) (by decide) h
  hu := ok.hu
  bn := ok.bn
  gcd := ok.gcd
  gd := ok.gd
  gls := ok.gls
  fn := ok.fn
  tk := takes0
  kind := (blkOk_by hb).kind
  po := PassesOwn.never
theorem blk_ok (ok : Ok X p s g) {scope : Scope} {own : List (Str × Nat)} (hb : blkC s.N s.sc scope own = true) : BlkOk X.N X.env.scope scope own := by
  have b := blkOk_by hb
  rw [ok.N]
  exact ⟨b.kind, b.uniq, b.ix, fun y hy e => ok.cf _ (b.free y hy e), b.own⟩
theorem ownN_snd (N : List Str) (own : List Nat) : (ownN N own).map (·.2) = own := by
  unfold ownN
  rw [List.map_map]
  exact List.map_id' own
theorem Rep.openOwn {K : PySem.W.Frag} {H : Hp} {Z P : AS} {a : Addr} {acc : List D} (r : Rep K H Z P (.ref a) (.lst .own acc)) : ∃ xs O, H a = some (.lst xs) ∧ ¬ Z a ∧ P a ∧ (∀ b, O b → P b) ∧ ¬ O a ∧ RepL K H Z O xs acc := by
  cases r with
  | own e1 e2 e3 e4 e5 e6 => exact ⟨_, _, e1, e2, e3, e4, e5, e6⟩
/-- a list at hand grows -/
theorem S.mutT {K : PySem.W.Frag} {H : Hp} {Z : AS} {w : Ws} {σ : St} {ρ : Ev} {a : Addr} {xs us : List V} (st : S K Z w σ ρ H) (ha : H a = some (.lst xs)) (nz : ¬ Z a) (nw : w a = none) : S K Z w σ ρ (upd H a (.lst us)) := by
  refine st.called (O := fun b => b = a) ⟨fun b e => by subst e; exact nw, fun b e => by subst e; exact nz, fun b e => by subst e; exact ⟨_, ha⟩⟩ (fun b o e n => by rw [upd_ne n]; exact e) (fun _ z => z) (fun _ z => .inl z) fun b z => ?_
  by_cases e : b = a
  · subst e; exact ⟨_, upd_same⟩
  · obtain ⟨ys, e2⟩ := st.zok b z
    exact ⟨ys, by rw [upd_ne e]; exact e2⟩
theorem t_lc {own : List Nat} {tg : Tg} {it : CI} {cs : CL} {e : CE} {σ : St} {H : Hp} {Q : VK} (htg : ∀ j, j ∈ tg.slots → j ∈ own) (h : tE p (CE.lc own tg it cs e).quiet ((CE.lc own tg it cs e).ev g false) σ H Q) :
    tLc (tI p it.quiet (it.ev g)) (tG p.no [] tg.slots (tg.st [])) (tT p.no cs.quiet (cs.evIf g)) (tE p.no e.quiet (e.ev g false)) own σ H Q := by
  obtain ⟨ρ, Z, w, st, h⟩ := h
  have h : RP p (it.quiet && (cs.quiet && e.quiet)) A0 H Z w σ (match it.ev g ρ with
    | .ok xs ρ1 => (match lcLoop own (tg.st []) (fun ρ => cs.evIf g ρ) (fun ρ => e.ev g false ρ) xs [] ρ1 with
      | .ok d ρ2 => .ok d (backD ρ1 own ρ2)
      | _ => .stuck)
    | .exc c fs ρ => .exc c fs ρ
    | .stuck => .stuck) Q := by rw [← Bool.and_assoc]; exact h
  refine ⟨ρ, Z, w, st, ?_⟩
  cases e1 : it.ev g ρ with
  | stuck => rw [e1] at h; exact h.elim
  | exc c fs ρ' => rw [e1] at h; exact RX.wk h
  | ok xs ρ1 =>
    rw [e1] at h
    intro J H1 Z1 w1 s1 n1 itok Da hD
    cases hL : lcLoop own (tg.st []) (fun ρ => cs.evIf g ρ) (fun ρ => e.ev g false ρ) xs [] ρ1 with
    | stuck => simp only [hL] at h; exact h.elim
    | exc c fs ρ' => simp only [hL] at h; exact h.elim
    | ok dfin ρfin =>
      simp only [hL] at h
      obtain ⟨wb, sb, hwb⟩ := s1.wiped own
      let Inv : Nat → Hp → Prop := fun i Hc => ∃ Zc wc ρc acc P, S p.K Zc wc (wipe σ own) (wipeD ρc own) Hc ∧ Nx (cs.quiet && e.quiet) A0 H1 Z1 wb Hc Zc wc ∧ Rep p.K Hc Zc P (.ref Da) (.lst .own acc) ∧ D.retL acc = true ∧ Tm (cs.quiet && e.quiet) A0 H1 wb Hc Zc wc P ∧
        lcLoop own (tg.st []) (fun ρ => cs.evIf g ρ) (fun ρ => e.ev g false ρ) (xs.drop i) acc ρc = .ok dfin ρfin
      refine ⟨fun i m Hc => m = xs.length - i ∧ i ≤ xs.length ∧ Inv i Hc, ⟨xs.length, by simp, Nat.zero_le _, ?_⟩, ?_⟩
      · have nzD := s1.nz hD
        refine ⟨Z1, wb, ρ1, [], fun a => a = Da, sb.same (same_upd hD), .same (same_upd hD), .own (O' := A0) upd_same nzD rfl (fun _ z => z.elim) (fun z => z) .nil, rfl, ⟨fun a z => by subst z; exact sb.nw hD, fun a z => by subst z; exact nzD, fun a z => by subst z; exact ⟨_, upd_same⟩, fun a z => by subst z; exact .inr (.inl hD)⟩, ?_⟩
        simp only [List.drop_zero]
        exact hL
      · rintro i m Hc ⟨rfl, hi, Zc, wc, ρc, acc, P, sc, nc, rc, hr, tc, hl⟩
        have lat := nc.lat sb Tn.zero
        obtain ⟨stop, go⟩ := itok.2 Hc Zc lat
        by_cases hlt : i < xs.length
        · -- a turn
          have hx : xs[i]? = some xs[i] := List.getElem?_eq_getElem hlt
          obtain ⟨hgo, yld⟩ := go i _ hx
          refine .inr ⟨hgo, fun H' => xs.length - (i + 1) = xs.length - (i + 1) ∧ i + 1 ≤ xs.length ∧ Inv (i + 1) H', fun H' z => ⟨xs.length - (i + 1), by omega, rfl, z.2.1, z.2.2⟩, fun x H' hy => ?_⟩
          obtain ⟨sm, rx⟩ := yld x H' hy
          rw [List.drop_eq_getElem_cons hlt] at hl
          simp only [lcLoop] at hl
          cases e2 : tg.st [] xs[i] (wipeD ρc own) with
          | none => simp only [e2] at hl; cases hl
          | some ρa =>
            simp only [e2] at hl
            refine ⟨xs[i], wipeD ρc own, Zc, wc, A0, sc.same sm, Tn.zero, rx, ρa, e2, fun σ2 w2 s2 o2 k2 => ⟨?_, ?_⟩⟩
            · refine wipe_agree k2.len ?_ |>.trans ?_
              · exact fun j hj => k2.out j fun z => hj (htg j z)
              · exact wipe_agree (wipe_length σ own) fun j hj => wipe_out hj
            have ew : wipe σ2 own = wipe σ own := by
              refine wipe_agree k2.len ?_ |>.trans ?_
              · exact fun j hj => k2.out j fun z => hj (htg j z)
              · exact wipe_agree (wipe_length σ own) fun j hj => wipe_out hj
            have nw2 : ∀ a, wc a = none → w2 a = none := fun a z => by
              cases e3 : w2 a with
              | none => rfl
              | some j =>
                rcases o2 a (by rw [e3]; exact fun y => nomatch y) with y | y
                · exact absurd z y
                · exact y.elim
            -- from the turn's start to the test
            have n2 : Nx true A0 Hc Zc wc H' Zc w2 := ⟨fun a o eo _ _ => sm a o eo, fun _ z => z, fun _ z => .inl z, fun a z => (o2 a z).imp id fun y => y.elim⟩
            have t2 : Tn H' Zc w2 P := tc.tn.go n2 fun _ _ z => z
            have r2 := Rep.on sc n2 tc.tn (.inl (show (D.lst .own acc).ret = true by simpa only [D.ret] using hr)) rc
            refine ⟨ρa, Zc, w2, s2, ?_⟩
            cases e3 : cs.evIf g ρa with
            | stuck => simp only [e3] at hl; cases hl
            | exc c fs ρ' => simp only [e3] at hl; cases hl
            | ok db ρb =>
              cases db with
              | bl b =>
                intro H3 Z3 w3 s3 n3
                have t3 := t2.go n3 fun _ _ z => z
                have r3 := Rep.on s2 n3 t2 (.inl (show (D.lst .own acc).ret = true by simpa only [D.ret] using hr)) r2
                have nc3 : Nx (cs.quiet && e.quiet) A0 H1 Z1 wb H3 Z3 w3 := by
                  have a1 := Nx.trans nc (n2.weak (q := cs.quiet && e.quiet)) fun _ z => z.elim
                  rw [Bool.and_self] at a1
                  have a2 := Nx.trans a1 (n3.wk (q2 := e.quiet)) fun _ z => z.elim
                  rwa [Bool.and_self] at a2
                cases b with
                | false =>
                  simp only [e3] at hl
                  simp only [Bool.false_eq_true, if_false]
                  obtain ⟨w4, s4, hw4⟩ := s3.wiped own
                  rw [ew] at s4
                  have n4 : Nx true A0 H3 Z3 w3 H3 Z3 w4 := ⟨fun _ _ e _ _ => e, fun _ z => z, fun _ z => .inl z, fun a z => .inl fun y => z (by
                    cases e4 : w4 a with
                    | none => rfl
                    | some j => rw [((hw4 a j).mp e4).1] at y; cases y)⟩
                  have t4 := t3.go n4 fun _ _ z => z
                  refine ⟨trivial, hlt, Z3, w4, ρb, acc, P, s4, ?_, r3, hr, ⟨t4.free, t4.nz, t4.lst, tc.new⟩, hl⟩
                  have a3 := Nx.trans nc3 (n4.weak (q := cs.quiet && e.quiet)) fun _ z => z.elim
                  rwa [Bool.and_self] at a3
                | true =>
                  simp only [e3] at hl
                  simp only [if_true]
                  refine ⟨ρb, Z3, w3, s3, ?_⟩
                  cases e4 : e.ev g false ρb with
                  | stuck => simp only [e4] at hl; cases hl
                  | exc c fs ρ' => simp only [e4] at hl; cases hl
                  | ok d ρd =>
                    simp only [e4] at hl
                    split at hl <;> try contradiction
                    rename_i hg
                    simp only [Bool.and_eq_true, decide_eq_true_eq] at hg
                    intro v H4 Z4 w4 O4 s4 n4 t4 r4
                    have tP := t3.go n4 fun _ _ z => z
                    have r5 := Rep.on s3 n4 t3 (.inl (show (D.lst .own acc).ret = true by simpa only [D.ret] using hr)) r3
                    obtain ⟨vs, O, hv, nz, pD, oP, noD, rl⟩ := r5.openOwn
                    have d4 := t4.dis t3
                    refine ⟨vs, hv, by rw [rl.len]; exact hg.2, trivial, hlt, ?_⟩
                    have nO4 : ¬ O4 Da := d4 Da pD
                    have s5 := s4.mutT (us := vs ++ [v]) hv nz (tP.free Da pD)
                    obtain ⟨w6, s6, hw6⟩ := s5.wiped own
                    rw [ew] at s6
                    have rl' := (RepL.append (O1 := O) (O2 := O4) (fun b z => d4 b (oP b z)) (rl.mut (o := .lst (vs ++ [v])) hv nz noD hr) (.cons (O1 := O4) (O2 := A0) (fun _ z => z) (fun _ z => z.elim) (fun _ _ z => z.elim) (r4.mut hv nz nO4 hg.1) .nil))
                    have w6n : ∀ a, w4 a = none → w6 a = none := fun a z => by
                      cases e6 : w6 a with
                      | none => rfl
                      | some j => rw [((hw6 a j).mp e6).1] at z; cases z
                    have n6 : Nx (cs.quiet && e.quiet) A0 H1 Z1 wb (upd H4 Da (.lst (vs ++ [v]))) Z4 w6 := by
                      have a3 := Nx.trans nc3 (n4.wk2 (q1 := cs.quiet)) fun _ z => z.elim
                      rw [Bool.and_self] at a3
                      refine ⟨fun a o eo ha hq => ?_, a3.zin, a3.znew, fun a z => a3.fresh a fun y => z (w6n a y)⟩
                      have : a ≠ Da := fun z => by
                        subst z
                        rw [hD] at eo; cases eo
                      rw [upd_ne this]
                      exact a3.keep a o eo ha hq
                    have lst' : ∀ a, (∃ xs, H4 a = some (.lst xs)) → ∃ xs, upd H4 Da (.lst (vs ++ [v])) a = some (.lst xs) := fun a ⟨ys, ey⟩ => by
                      by_cases z : a = Da
                      · subst z; exact ⟨_, upd_same⟩
                      · exact ⟨ys, by rw [upd_ne z]; exact ey⟩
                    refine ⟨Z4, w6, ρd, acc ++ [d], fun a => P a ∨ O4 a, s6, n6, ?_, by rw [retL_append, hr]; simp [D.retL, hg.1], ⟨fun a z => w6n a (z.elim (tP.free a) (t4.free a)), fun a z => z.elim (tP.nz a) (t4.nz a), fun a z => lst' a (z.elim (tP.lst a) (t4.lst a)), fun a z => ?_⟩, hl⟩
                    · exact .own (O' := fun a => O a ∨ O4 a) upd_same nz (.inl pD) (fun a z => z.imp (oP a) id) (fun z => z.elim noD nO4) rl'
                    · rcases z with z | z
                      · exact tc.new a z
                      · rcases t4.new a z with y | y | y
                        · rcases nc3.fresh a y.2 with x | x | x
                          · exact .inl ⟨by rw [y.1, Bool.and_false], x⟩
                          · exact .inr (.inl x)
                          · exact x.elim
                        · cases hq : (cs.quiet && e.quiet) with
                          | true =>
                            rw [hq] at nc3
                            exact .inr (.inl ((nc3.old1 y).resolve_right fun x => x))
                          | false =>
                            rcases nc3.old y with x | x | x
                            · exact .inl ⟨rfl, x⟩
                            · exact .inr (.inl x)
                            · exact x.elim
                        · exact y.elim
              | _ => simp only [e3] at hl; cases hl
        · -- the end
          have hi' : i = xs.length := by omega
          subst hi'
          refine .inl ⟨stop _ (Nat.le_refl _), ?_⟩
          rw [List.drop_length] at hl
          simp only [lcLoop] at hl
          cases hl
          obtain ⟨wr, sr, nr, hwr⟩ := s1.back sc sb hwb nc
          refine h (.ref Da) Hc Zc wr P sr (Nx.trans n1 nr fun _ z => z.elim) ⟨fun a z => ?_, tc.nz, tc.lst, fun a z => ?_⟩ rc
          · cases e5 : wr a with
            | none => rfl
            | some j =>
              rcases hwr a (by rw [e5]; exact fun y => nomatch y) with y | ⟨k, hk, ek⟩
              · exact absurd (tc.free a z) y
              · rcases tc.new a z with x | x | x
                · cases e6 : wb a with
                  | none => exact absurd e6 x.2
                  | some j' =>
                    obtain ⟨e7, h7⟩ := (hwb a j').mp e6
                    rw [ek] at e7; cases e7
                    exact absurd hk h7
                · obtain ⟨⟨ys, ey⟩, _⟩ := s1.wok a (by rw [ek]; exact fun z => nomatch z)
                  rw [x] at ey; cases ey
                · exact x.elim
          · rcases tc.new a z with y | y | y
            · have y2 : w1 a ≠ none := fun x => y.2 (by
                cases e6 : wb a with
                | none => rfl
                | some j => rw [((hwb a j).mp e6).1] at x; cases x)
              rcases n1.fresh a y2 with x | x
              · exact .inl ⟨by rw [y.1, Bool.and_false], x⟩
              · exact .inr x
            · cases hq : it.quiet with
              | true => rw [hq] at n1; exact .inr (n1.old1 y)
              | false => exact (n1.old y).imp (fun x => ⟨rfl, x⟩) id
            · exact y.elim
end
end PD
set_option Elab.async false
set_option linter.all false
set_option maxRecDepth 100000
set_option maxHeartbeats 8000000
/-! PdS: every expression of the small language does what the evaluator says. -/
namespace PD
open PySem L2
theorem PTs.imp {X : Cx} {e : List Expr} {t t' : TT} (h : PTs X e t) (i : ∀ σ H Q, t' σ H Q → t σ H Q) : PTs X e t' := ⟨fun pins s σ H Q I q => h.run pins s σ H Q I (i _ _ _ q)⟩
theorem star_okE {s : Sx} {c : CE} {x : Expr} (h : okE s c x = true) : noStar x = true := by
  cases x <;> first | rfl | (cases c <;> simp [okE, valE, noStar] at h)
theorem isLnd_okE {s : Sx} {c : CE} {x : Expr} (h : okE s c x = true) : c.isLnd = false := by
  cases c <;> first | rfl | simp [okE] at h
theorem fs_empty (y : Str) : Str.empty ++ y = y := by
  show (⟨_⟩ : Str) = y
  cases y
  simp [Str.empty]
theorem fmt_or {K : PySem.W.Frag} {H : Hp} {Z O : AS} {d : D} {v : V} {y : Str} {T : VK} (r : Rep K H Z O v d) (h : fmtD d = some y) (q : T (.str y) H) : (∃ y : Str, v = .str y ∧ y.length ≤ sizeLine ∧ T (.str y) H) ∨ ∃ i : Int, v = .int i ∧ i.natAbs.log2 < 1920 ∧ T (.str (toString i)) H := by
  unfold fmtD at h
  split at h <;> try contradiction
  · split at h <;> try contradiction
    rename_i hz
    cases h
    cases r
    exact .inl ⟨_, rfl, of_decide_eq_true hz, q⟩
  · split at h <;> try contradiction
    rename_i hz
    cases h
    cases r
    exact .inr ⟨_, rfl, of_decide_eq_true hz, q⟩
/-- what the list theorem tells -/
structure SndL (X : Cx) (p : Wd) (g : Gs) (es : CL) (xs : List Expr) : Prop where
  a : xs.all noStar = true → PA X xs (tL p es es.quiet (es.ev g))
  and : ∀ pos, xs ≠ [] → PE X (.BoolOp .And xs pos) (tE p es.quiet (es.evAnd g false)) ∧ PW X (.BoolOp .And xs pos) (tT p es.quiet (es.evAnd g true))
  or : ∀ pos, xs ≠ [] → PE X (.BoolOp .Or xs pos) (tE p es.quiet (es.evOr g false)) ∧ PW X (.BoolOp .Or xs pos) (tT p es.quiet (es.evOr g true))
  ifs : PTs X xs (tT p es.quiet (es.evIf g))
  nil : xs = [] → es = .nil
  hd : ∀ c es' y ys, es = .cons c es' → xs = y :: ys → c.isLnd = false → PE X y (tE p c.quiet (c.ev g false))
theorem PE.never {X : Cx} {e : Expr} {p : Wd} {q : Bool} {f : Ev → R} (h : ∀ ρ, f ρ = .stuck) : PE X e (tE p q f) := ⟨fun _ _ _ _ _ _ q => by
  obtain ⟨ρ, Z, w, st, q⟩ := q
  rw [h] at q
  exact q.elim⟩
theorem PW.never {X : Cx} {e : Expr} {p : Wd} {q : Bool} {f : Ev → R} (h : ∀ ρ, f ρ = .stuck) : PW X e (tT p q f) := ⟨fun _ _ _ _ _ _ _ q => by
  obtain ⟨ρ, Z, w, st, q⟩ := q
  rw [h] at q
  exact q.elim⟩
theorem PTs.never {X : Cx} {e : List Expr} {p : Wd} {q : Bool} {f : Ev → R} (h : ∀ ρ, f ρ = .stuck) : PTs X e (tT p q f) := ⟨fun _ _ _ _ _ _ q => by
  obtain ⟨ρ, Z, w, st, q⟩ := q
  rw [h] at q
  exact q.elim⟩
theorem okL_cons {s : Sx} {c : CE} {es : CL} {x : Expr} {xs : List Expr} (h : okL s (.cons c es) (x :: xs) = true) :
    ((∃ i n pn, c = .lnd i ∧ x = .Name n pn ∧ decide (s.N[i]? = some n) = true ∧ visB s.sc n = true ∧ dbg n = true) ∨ (c.isLnd = false ∧ okE s c x = true)) ∧ okL s es xs = true := by
  have gen : c.isLnd = false → (okE s c x && okL s es xs) = true → ((∃ i n pn, c = .lnd i ∧ x = .Name n pn ∧ decide (s.N[i]? = some n) = true ∧ visB s.sc n = true ∧ dbg n = true) ∨ (c.isLnd = false ∧ okE s c x = true)) ∧ okL s es xs = true := fun h1 h2 => by
    rw [Bool.and_eq_true] at h2
    exact ⟨.inr ⟨h1, h2.1⟩, h2.2⟩
  cases c with
  | lnd i =>
    cases x with
    | Name n pn =>
      have h2 : ((decide (s.N[i]? = some n) && visB s.sc n && dbg n) && okL s es xs) = true := h
      rw [Bool.and_eq_true, Bool.and_eq_true, Bool.and_eq_true] at h2
      exact ⟨.inl ⟨i, n, pn, rfl, rfl, h2.1.1.1, h2.1.1.2, h2.1.2⟩, h2.2⟩
    | _ =>
      have h2 : (false && okL s es xs) = true := h
      rw [Bool.false_and] at h2
      cases h2
  | _ => exact gen rfl h
mutual
theorem sndE : ∀ (c : CE) (x : Expr) (X : Cx) (p : Wd) (s : Sx) (g : Gs), Ok X p s g → okE s c x = true → Snd X p g c x
  | .lit d, x, X, p, s, g, ok, h => by
    cases x <;> simp only [okE] at h <;> try contradiction
    rename_i c k pos
    have z : PE X (.Constant c k pos) (tE p true fun ρ => R.ok d ρ) := e_lit h
    exact ⟨z, pt_of ok z fun _ => rfl⟩
  | .var m i, x, X, p, s, g, ok, h => by
    cases x <;> simp only [okE] at h <;> try contradiction
    simp only [Bool.and_eq_true] at h
    have z := e_var (m := m) (pos := by assumption) ok h.1.1 h.1.2 h.2
    cases m <;> exact ⟨z, pt_of ok z fun _ => rfl⟩
  | .glb i, x, X, p, s, g, ok, h => by
    cases x <;> simp only [okE] at h <;> try contradiction
    simp only [Bool.and_eq_true] at h
    have z := e_glb (pos := by assumption) ok h.1.1 h.1.2 h.2
    exact ⟨z, pt_of ok z fun _ => rfl⟩
  | .op2 o a b, x, X, p, s, g, ok, h => by
    unfold okE at h
    split at h <;> try contradiction
    · simp only [Bool.and_eq_true] at h
      have z := e_bin (pos := by assumption) ok h.1.1 (sndE a _ X p s g ok h.1.2).v (sndE b _ X p s g ok h.2).v
      exact ⟨z, pt_of ok z fun _ => rfl⟩
    · simp only [Bool.and_eq_true] at h
      obtain ⟨z1, z2⟩ := e_cmp (pos := by assumption) ok h.1.1.1 h.2 (sndE a _ X p s g ok h.1.1.2).v (sndE b _ X p s g ok h.1.2).v
      exact ⟨z1, z2⟩
  | .op1 o a, x, X, p, s, g, ok, h => by
    cases x <;> simp only [okE] at h <;> try contradiction
    simp only [Bool.and_eq_true] at h
    have ia := sndE a _ X p s g ok h.2
    have h1 := h.1
    split at h1 <;> try contradiction
    · have z := e_neg (g := g) (pos := by assumption) ia.v
      exact ⟨z, pt_of ok z fun _ => rfl⟩
    · obtain ⟨z1, z2⟩ := e_not (pos := by assumption) ok ia.v ia.t
      exact ⟨z1, z2⟩
  | .con es, x, X, p, s, g, ok, h => by
    unfold okE at h
    split at h <;> try contradiction
    rename_i xs pos
    simp only [Bool.and_eq_true, Bool.not_eq_true', List.isEmpty_eq_false_iff] at h
    obtain ⟨z1, z2⟩ := (sndL es xs X p s g ok h.1).and pos h.2
    exact ⟨z1, z2.pt⟩
  | .dis es, x, X, p, s, g, ok, h => by
    unfold okE at h
    split at h <;> try contradiction
    rename_i xs pos
    simp only [Bool.and_eq_true, Bool.not_eq_true', List.isEmpty_eq_false_iff] at h
    obtain ⟨z1, z2⟩ := (sndL es xs X p s g ok h.1).or pos h.2
    exact ⟨z1, z2.pt⟩
  | .ite c a b, x, X, p, s, g, ok, h => by
    cases x <;> simp only [okE] at h <;> try contradiction
    simp only [Bool.and_eq_true] at h
    exact e_ite (sndE c _ X p s g ok h.1.1) (sndE a _ X p s g ok h.1.2) (sndE b _ X p s g ok h.2)
  | .chn o o' a b c, x, X, p, s, g, ok, h => by
    unfold okE at h
    split at h <;> try contradiction
    simp only [Bool.and_eq_true] at h
    obtain ⟨⟨⟨⟨⟨⟨h1, h2⟩, h3⟩, h4⟩, h5⟩, _⟩, h7⟩ := h
    exact e_chn ok h1 h2 h7 (sndE a _ X p s g ok h3).v (sndE b _ X p s g ok h4).v (sndE c _ X p s g ok h5).v
  | .idx a b, x, X, p, s, g, ok, h => by
    cases x <;> simp only [okE] at h <;> try contradiction
    simp only [Bool.and_eq_true] at h
    have z := e_idx (pos := by assumption) ok h.2 (sndE a _ X p s g ok h.1.1).v (sndE b _ X p s g ok h.1.2).v
    exact ⟨z, pt_of ok z fun _ => rfl⟩
  | .sl a lo hi, x, X, p, s, g, ok, h => by
    unfold okE at h
    split at h <;> try contradiction
    rename_i x l u p2 pos
    simp only [Bool.and_eq_true] at h
    have z := e_sl (pos := pos) (p2 := p2) ok (sndE a _ X p s g ok h.1.1).v (sndO lo l X p s g ok h.1.2) (sndO hi u X p s g ok h.2)
    exact ⟨z, pt_of ok z fun _ => rfl⟩
  | .tup es, x, X, p, s, g, ok, h => by
    cases x <;> simp only [okE] at h <;> try contradiction
    rename_i xs k pos
    simp only [Bool.and_eq_true] at h
    have z := e_tup (pos := pos) (k := k) ((sndL es xs X p s g ok h.1).a h.2)
    exact ⟨z, pt_of ok z fun _ => rfl⟩
  | .lst es, x, X, p, s, g, ok, h => by
    cases x <;> simp only [okE] at h <;> try contradiction
    rename_i xs pos
    simp only [Bool.and_eq_true] at h
    have z := e_lst (pos := pos) ((sndL es xs X p s g ok h.1).a h.2)
    exact ⟨z, pt_of ok z fun _ => rfl⟩
  | .cal i es, x, X, p, s, g, ok, h => by
    unfold okE at h
    split at h <;> try contradiction
    rename_i f pf xs pos
    simp only [Bool.and_eq_true, Bool.not_eq_true', List.isEmpty_eq_false_iff] at h
    obtain ⟨⟨⟨⟨⟨h1, h2⟩, h3⟩, h4⟩, h5⟩, h6⟩ := h
    cases xs with
    | nil => exact absurd rfl h6
    | cons y ys =>
      have z := e_cal (pos := pos) (px := pf) ok h1 h2 h3 h5 ((sndL es _ X p s g ok h4).a h5)
      exact ⟨z, pt_of ok z fun _ => rfl⟩
  | .lnd i, x, X, p, s, g, ok, h => by simp [okE] at h
  | .blt b es, x, X, p, s, g, ok, h => by
    unfold okE at h
    split at h <;> try contradiction
    rename_i f pf xs pos
    simp only [Bool.and_eq_true] at h
    obtain ⟨⟨h1, h2⟩, h3⟩ := h
    have fin : PE X (.Call (.Name f pf) xs [] pos) (tE p (CE.blt b es).quiet ((CE.blt b es).ev g false)) → Snd X p g (.blt b es) (.Call (.Name f pf) xs [] pos) := fun z => ⟨z, pt_of ok z fun _ => rfl⟩
    have gen : (b ≠ .gcd) → (∀ t, b ≠ .isi t) → (b = .repr → s.gd = true) → (s.bns.contains f && okL s es xs && xs.all noStar && !xs.isEmpty) = true → Snd X p g (.blt b es) (.Call (.Name f pf) xs [] pos) := fun n1 n2 n3 h3 => by
      simp only [Bool.and_eq_true, Bool.not_eq_true', List.isEmpty_eq_false_iff] at h3
      obtain ⟨⟨⟨h4, h5⟩, h6⟩, h7⟩ := h3
      cases xs with
      | nil => exact absurd rfl h7
      | cons y ys => exact fin (e_blt ok n1 n2 n3 h1 h4 h2 h6 ((sndL es _ X p s g ok h5).a h6))
    cases b with
    | gcd =>
      simp only [Bool.and_eq_true, Bool.not_eq_true', List.isEmpty_eq_false_iff] at h3
      obtain ⟨⟨⟨h4, h5⟩, h6⟩, h7⟩ := h3
      cases xs with
      | nil => exact absurd rfl h7
      | cons y ys => exact fin (e_gcd ok h1 h4 h2 h6 ((sndL es _ X p s g ok h5).a h6))
    | isi t =>
      dsimp only at h3
      have ih := fun xs' (q : okL s es xs' = true) => sndL es xs' X p s g ok q
      split at h3 <;> try contradiction
      rename_i c y z pz hc
      simp only [Bool.and_eq_true] at h3
      obtain ⟨⟨⟨⟨⟨h4, h5⟩, h6⟩, h7⟩, h8⟩, h9⟩ := h3
      have hl : c.isLnd = false := by cases c <;> first | rfl | exact absurd rfl (hc _)
      exact fin (e_isi ok h1 h4 h2 h5 h6 h7 h9 hl ((ih _ h8).hd _ _ _ _ rfl rfl hl))
    | repr =>
      simp only [Bool.and_eq_true] at h3
      exact gen (by decide) (fun t e => nomatch e) (fun _ => h3.1.1.1.1) (by simp only [Bool.and_eq_true]; exact ⟨⟨⟨h3.1.1.1.2, h3.1.1.2⟩, h3.1.2⟩, h3.2⟩)
    | min => exact gen (by decide) (fun t e => nomatch e) (fun e => nomatch e) h3
    | max => exact gen (by decide) (fun t e => nomatch e) (fun e => nomatch e) h3
    | len => exact gen (by decide) (fun t e => nomatch e) (fun e => nomatch e) h3
    | int => exact gen (by decide) (fun t e => nomatch e) (fun e => nomatch e) h3
    | abs => exact gen (by decide) (fun t e => nomatch e) (fun e => nomatch e) h3
    | all => exact gen (by decide) (fun t e => nomatch e) (fun e => nomatch e) h3
    | any => exact gen (by decide) (fun t e => nomatch e) (fun e => nomatch e) h3
    | list => exact gen (by decide) (fun t e => nomatch e) (fun e => nomatch e) h3
    | tuple => exact gen (by decide) (fun t e => nomatch e) (fun e => nomatch e) h3
    | str => exact gen (by decide) (fun t e => nomatch e) (fun e => nomatch e) h3
    | sum => exact gen (by decide) (fun t e => nomatch e) (fun e => nomatch e) h3
  | .lc own tg it cs e, x, X, p, s, g, ok, h => by
    unfold okE at h
    split at h <;> try contradiction
    rename_i elt t iter ifs scope pos
    simp only [Bool.and_eq_true] at h
    obtain ⟨⟨⟨⟨⟨⟨h1, h2⟩, h3⟩, h4⟩, h5⟩, h6⟩, h7⟩ := h
    have bl := fun s1 H C cl fp => ok.blk h1 s1 H C cl fp
    have z := pe_lc (own := ownN s.N own) (pos := pos) ok.calm (by rw [ok.N]; exact ok.nd) (sndI it iter t X p s g ok h3) (blk_ok ok h1) (fun s1 H C cl fp => g_all (bl s1 H C cl fp) [] tg t h5)
      (fun s1 H C cl fp => (sndL cs ifs _ _ _ g (bl s1 H C cl fp) h6).ifs) (fun s1 H C cl fp => (sndE e elt _ _ _ g (bl s1 H C cl fp) h7).v) (noFold h4)
    rw [ownN_snd] at z
    have z' : PE X _ (tE p (CE.lc own tg it cs e).quiet ((CE.lc own tg it cs e).ev g false)) := PE.imp z fun σ H Q q => t_lc (fun j hj => by
      have := (List.all_eq_true.mp h2) j hj
      simpa using this) q
    exact ⟨z', pt_of ok z' fun _ => rfl⟩
  | .mth m i es, x, X, p, s, g, ok, h => by
    unfold okE at h
    split at h <;> try contradiction
    rename_i n pn nm ap xs cp
    simp only [Bool.and_eq_true] at h
    obtain ⟨⟨⟨⟨⟨⟨⟨⟨h1, h2⟩, h3⟩, h4⟩, h5⟩, h6⟩, h7⟩, h8⟩, _⟩ := h
    have il := sndL es xs X p s g ok h5
    have z := e_mth (px := pn) ok h1 h2 h3 h4 h6 h7 h8 il.nil (il.a h6)
    exact ⟨z, pt_of ok z fun _ => rfl⟩
  | .mti m i j es, x, X, p, s, g, ok, h => by
    unfold okE at h
    split at h <;> try contradiction
    rename_i n pn k kk pk ps nm ap xs cp
    simp only [Bool.and_eq_true, Bool.not_eq_true', List.isEmpty_eq_false_iff] at h
    obtain ⟨⟨⟨⟨⟨⟨⟨⟨⟨h1, h2⟩, h3⟩, hk⟩, h4⟩, h5⟩, h6⟩, h7⟩, h8⟩, h9⟩ := h
    have il := sndL es xs X p s g ok h5
    have z := e_mti (px := pn) (pk := pk) (ps := ps) (kk := kk) ok h1 h2 h3 hk h4 h6 h7 h8 h9 (il.a h6)
    exact ⟨z, pt_of ok z fun _ => rfl⟩
  | .fz a, x, X, p, s, g, ok, h => by
    simp only [okE, Bool.and_eq_true] at h
    have z := e_fz (sndE a x X p s g ok h.2).v
    have hv := h.1.1
    refine ⟨z, pt_of ok z fun _ => ?_⟩
    cases x <;> first | rfl | (simp [valE] at hv)
  | .rev a, x, X, p, s, g, ok, h => by
    unfold okE at h
    split at h <;> try contradiction
    rename_i y k q1 q2 q3 q4
    have z := e_rev (pos := q4) (k := k) (p1 := q1) (p2 := q2) (p3 := q3) ok (sndE a _ X p s g ok h).v
    exact ⟨z, pt_of ok z fun _ => rfl⟩
  | .jn n a, x, X, p, s, g, ok, h => by
    unfold okE at h
    split at h <;> try contradiction
    simp only [Bool.and_eq_true] at h
    obtain ⟨⟨⟨⟨h1, h2⟩, h3⟩, h4⟩, h5⟩ := h
    obtain rfl := of_decide_eq_true h1
    rename_i k p1 _ _ _ _
    have z := e_jn (z := n) (k := k) (p1 := p1) ok h2 h4 h5 (sndE a _ X p s g ok h3).v
    exact ⟨z, pt_of ok z fun _ => rfl⟩
  | .pm m a es, x, X, p, s, g, ok, h => by
    unfold okE at h
    split at h <;> try contradiction
    rename_i o nm ap xs cp
    simp only [Bool.and_eq_true, Bool.not_eq_true', List.isEmpty_eq_false_iff] at h
    obtain ⟨⟨⟨⟨⟨⟨⟨h1, h2⟩, h3⟩, h4⟩, h5⟩, h6⟩, h7⟩, h8⟩ := h
    cases xs with
    | nil => exact absurd rfl h8
    | cons y ys =>
      have z := e_pm ok h1 h2 h5 h6 h7 (sndE a _ X p s g ok h3).v ((sndL es _ X p s g ok h4).a h5)
      exact ⟨z, pt_of ok z fun _ => rfl⟩
  | .bor is a, x, X, p, s, g, ok, h => by
    simp only [okE, Bool.and_eq_true] at h
    exact ⟨e_bor (is := is) (sndE a x X p s g ok h.2).v, e_borT (is := is) (sndE a x X p s g ok h.2).t⟩
  | .fst es, x, X, p, s, g, ok, h => by
    unfold okE at h
    split at h <;> try contradiction
    · rename_i v v2 vs q
      obtain ⟨ts, h1, h2⟩ := sndFs es _ X p s g ok h
      have z : PE X (.JoinedStr (v :: v2 :: vs) q) (tE p (CE.fst es).quiet ((CE.fst es).ev g false)) := PE.imp (pe_joined h1) fun σ H Q q => h2 _ _ _ _ q
      exact ⟨z, pt_of ok z fun _ => rfl⟩
    · rename_i y c p1 p2
      simp only [Bool.and_eq_true] at h
      obtain rfl := of_decide_eq_true h.1
      cases es with
      | nil => simp [okFs] at h
      | cons e es =>
        cases es with
        | cons e2 es => simp [okFs] at h
        | nil =>
          have h3 := h.2
          simp only [okFs, Bool.and_eq_true] at h3
          have ie := (sndE e y X p s g ok h3.1.2).v
          have z : PE X (.JoinedStr [.FormattedValue y (-1) none p1] p2) (tE p (CE.fst (.cons e .nil)).quiet ((CE.fst (.cons e .nil)).ev g false)) := PE.imp (pe_joined1 (pe_fmt ie)) fun σ H Q q => by
            obtain ⟨ρ, Z, w, st, q⟩ := q
            refine ⟨ρ, Z, w, st, RP.seq (q2 := true) Tn.zero (f := fun d ρ1 => match fmtD d with
              | some y => if szOk (Str.empty ++ y).length then .ok (.str (Str.empty ++ y)) ρ1 else .stuck
              | none => .stuck) q fun d ρ1 v H1 Z1 w1 O1 m r hq => ?_⟩
            have hq := hq.sub (A2 := A0) fun _ z => z.elim
            cases hd : fmtD d with
            | none => simp only [hd] at hq; exact hq.elim
            | some y =>
              simp only [hd] at hq
              split at hq <;> try exact hq.elim
              have e0 : Str.empty ++ y = y := fs_empty y
              rw [e0] at hq
              have hq := hq (.str y) H1 Z1 w1 A0 m.s .refl tm0 .str
              exact fmt_or r hd hq
          exact ⟨z, pt_of ok z fun _ => rfl⟩
theorem sndFs : ∀ (c : CL) (x : List Expr) (X : Cx) (p : Wd) (s : Sx) (g : Gs), Ok X p s g → okFs s c x = true → ∃ ts, PJ X x ts ∧ ∀ (acc : Str) (σ : St) (H : Hp) (Q : VK), tE p c.quiet (fun ρ => c.evFs g acc ρ) σ H Q → tJs ts acc σ H fun out H1 => Q (.str out) H1
  | .nil, x, X, p, s, g, ok, h => by
    cases x <;> simp only [okFs] at h <;> try contradiction
    refine ⟨[], .nil, fun acc σ H Q q => ?_⟩
    obtain ⟨ρ, Z, w, st, q⟩ := q
    exact q (.str acc) H Z w A0 st .refl tm0 .str
  | .cons e es, x, X, p, s, g, ok, h => by
    have step : ∀ (v : Expr) (vs : List Expr) (te : TE), PE X v te → (∀ σ H (T : VK), (∃ ρ Z w, S p.K Z w σ ρ H ∧ RP p e.quiet A0 H Z w σ (e.ev g false ρ) fun u H1 => (∃ y : Str, u = .str y ∧ y.length ≤ sizeLine ∧ T (.str y) H1) ∨ ∃ i : Int, u = .int i ∧ i.natAbs.log2 < 1920 ∧ T (.str (toString i)) H1) → te σ H T) → okFs s es vs = true → ∃ ts, PJ X (v :: vs) ts ∧ ∀ (acc : Str) (σ : St) (H : Hp) (Q : VK), tE p (CL.cons e es).quiet (fun ρ => (CL.cons e es).evFs g acc ρ) σ H Q → tJs ts acc σ H fun out H1 => Q (.str out) H1 := fun v vs te hv ht hvs => by
      obtain ⟨ts, h1, h2⟩ := sndFs es vs X p s g ok hvs
      refine ⟨te :: ts, .cons hv h1, fun acc σ H Q q => ?_⟩
      obtain ⟨ρ, Z, w, st, q⟩ := q
      refine ht σ H _ ⟨ρ, Z, w, st, RP.seq Tn.zero q fun d ρ1 u H1 Z1 w1 O1 m r hq => ?_⟩
      have hq := hq.sub (A2 := A0) fun _ z => z.elim
      cases hd : fmtD d with
      | none => simp only [hd] at hq; exact hq.elim
      | some y =>
        simp only [hd] at hq
        split at hq <;> try exact hq.elim
        rename_i hz
        exact fmt_or r hd (T := fun x H1 => ∃ y : Str, x = .str y ∧ (acc ++ y).length ≤ sizeLine ∧ tJs ts (acc ++ y) σ H1 fun out H1 => Q (.str out) H1) ⟨y, rfl, of_decide_eq_true hz, h2 _ _ _ _ ⟨ρ1, Z1, w1, m.s, hq⟩⟩
    unfold okFs at h
    split at h <;> try contradiction
    · rename_i y c p1 vs h0
      cases h0
      simp only [Bool.and_eq_true] at h
      obtain ⟨⟨hc, h3⟩, h4⟩ := h
      obtain rfl := of_decide_eq_true hc
      have ie := (sndE e y X p s g ok h3).v
      exact step _ _ _ (pe_fmt ie) (fun σ H T q => q) h4
    · rename_i z es0 z' k p1 vs h0
      cases h0
      simp only [Bool.and_eq_true] at h
      obtain ⟨hz, h4⟩ := h
      obtain rfl := of_decide_eq_true hz
      refine step _ _ _ pe_str (fun σ H T q => ?_) h4
      obtain ⟨ρ, Z, w, st, q⟩ := q
      have q : RP p true A0 H Z w σ (R.ok (.str z) ρ) _ := q
      have q := q (.str z) H Z w A0 st .refl tm0 .str
      rcases q with ⟨y, e, _, t⟩ | ⟨i, e, _⟩
      · cases e; exact t
      · cases e
theorem sndO : ∀ (c : CO) (x : Option Expr) (X : Cx) (p : Wd) (s : Sx) (g : Gs), Ok X p s g → okO s c x = true → PO X x (tO p c.quiet (c.ev g))
  | .none, x, X, p, s, g, ok, h => by
    cases x <;> simp only [okO, Option.isNone] at h <;> try contradiction
    exact o_none
  | .some e, x, X, p, s, g, ok, h => by
    cases x <;> simp only [okO] at h <;> try contradiction
    exact o_some (sndE e _ X p s g ok h).v
theorem sndL : ∀ (c : CL) (x : List Expr) (X : Cx) (p : Wd) (s : Sx) (g : Gs), Ok X p s g → okL s c x = true → SndL X p g c x
  | .nil, x, X, p, s, g, ok, h => by
    cases x <;> simp only [okL, List.isEmpty] at h <;> try contradiction
    exact ⟨fun _ => l_nil, fun _ n => absurd rfl n, fun _ n => absurd rfl n, PTs.imp pts_nil fun σ H Q q => by
      obtain ⟨ρ, Z, w, st, q⟩ := q
      exact q H Z w st .refl, fun _ => rfl, fun _ _ _ _ z => nomatch z⟩
  | .cons c es, x, X, p, s, g, ok, h => by
    cases x with
    | nil => simp [okL] at h
    | cons x xs =>
      obtain ⟨h1, h2⟩ := okL_cons h
      have il := sndL es xs X p s g ok h2
      rcases h1 with ⟨i, n, pn, rfl, rfl, h3, h4, h5⟩ | ⟨hl, h1⟩
      · -- a lent slot
        refine ⟨fun ha => l_lnd ok h3 h4 h5 (il.a (by simp only [List.all_cons, Bool.and_eq_true] at ha; exact ha.2)), fun pos _ => ?_, fun pos _ => ?_, ?_, (fun z => nomatch z), fun c' es' y ys z1 _ z3 => by cases z1; cases z3⟩
        · cases es <;> exact ⟨PE.never fun _ => rfl, PW.never fun _ => rfl⟩
        · cases es <;> exact ⟨PE.never fun _ => rfl, PW.never fun _ => rfl⟩
        · cases es <;> exact PTs.never fun _ => rfl
      · -- an expression
        have ic := sndE c x X p s g ok h1
        refine ⟨fun ha => l_cons hl (star_okE h1) ic.v (il.a (by simp only [List.all_cons, Bool.and_eq_true] at ha; exact ha.2)), fun pos _ => ?_, fun pos _ => ?_, ?_, (fun z => nomatch z), fun c' es' y ys z1 z2 _ => by cases z1; cases z2; exact ic.v⟩
        · cases xs with
          | nil =>
            obtain rfl := il.nil rfl
            have e1 : (CL.cons c .nil).quiet = c.quiet := by show (c.quiet && true) = _; rw [Bool.and_true]
            rw [e1]
            exact ⟨pe_one ic.v, pw_and1 ic.t⟩
          | cons y ys =>
            cases es with
            | nil => exact nomatch h2
            | cons c' es' => exact w_and ic (il.and pos (by simp)) fun t ρ => rfl
        · cases xs with
          | nil =>
            obtain rfl := il.nil rfl
            have e1 : (CL.cons c .nil).quiet = c.quiet := by show (c.quiet && true) = _; rw [Bool.and_true]
            rw [e1]
            exact ⟨pe_one ic.v, pw_or1 ic.t⟩
          | cons y ys =>
            cases es with
            | nil => exact nomatch h2
            | cons c' es' => exact w_or ic (il.or pos (by simp)) fun t ρ => rfl
        · cases es with
          | nil =>
            cases xs with
            | cons y ys => exact nomatch h2
            | nil =>
              have e1 : (CL.cons c .nil).quiet = c.quiet := by show (c.quiet && true) = _; rw [Bool.and_true]
              rw [e1]
              exact pts_one ic.t
          | cons c' es' => exact PTs.never fun _ => rfl
theorem sndI : ∀ (c : CI) (x t : Expr) (X : Cx) (p : Wd) (s : Sx) (g : Gs), Ok X p s g → okI s c x t = true → PI X t x (tI p c.quiet (c.ev g))
  | .seq a, x, t, X, p, s, g, ok, h => i_seq ok (sndE a x X p s g ok h).v
  | .rng1 a, x, t, X, p, s, g, ok, h => by
    unfold okI at h
    split at h <;> try contradiction
    simp only [Bool.and_eq_true] at h
    obtain ⟨⟨⟨⟨h1, h2⟩, h3⟩, h4⟩, h5⟩ := h
    exact i_rng1 ok h1 h2 h3 h5 (sndE a _ X p s g ok h4).v
  | .rng2 a b, x, t, X, p, s, g, ok, h => by
    unfold okI at h
    split at h <;> try contradiction
    simp only [Bool.and_eq_true] at h
    obtain ⟨⟨⟨⟨⟨⟨h1, h2⟩, h3⟩, h4⟩, h5⟩, h6⟩, h7⟩ := h
    exact i_rng2 ok h1 h2 h3 h5 h7 (sndE a _ X p s g ok h4).v (sndE b _ X p s g ok h6).v
  | .zip a b, x, t, X, p, s, g, ok, h => by
    unfold okI at h
    split at h <;> try contradiction
    simp only [Bool.and_eq_true] at h
    obtain ⟨⟨⟨⟨⟨⟨⟨h1, h2⟩, h3⟩, h4⟩, h5⟩, h6⟩, h7⟩, h8⟩ := h
    exact i_zip ok h1 h2 h3 h5 h7 h8 (sndE a _ X p s g ok h4).v (sndE b _ X p s g ok h6).v
  | .enm a, x, t, X, p, s, g, ok, h => by
    unfold okI at h
    split at h <;> try contradiction
    simp only [Bool.and_eq_true] at h
    obtain ⟨⟨⟨⟨⟨h1, h2⟩, h3⟩, h4⟩, h5⟩, h6⟩ := h
    exact i_enm ok h1 h2 h3 h5 h6 (sndE a _ X p s g ok h4).v
  | .zip3 a b c, x, t, X, p, s, g, ok, h => by
    unfold okI at h
    split at h <;> try contradiction
    simp only [Bool.and_eq_true] at h
    obtain ⟨⟨⟨⟨⟨⟨⟨⟨⟨h1, h2⟩, h3⟩, h4⟩, h5⟩, h6⟩, h7⟩, h8⟩, h9⟩, h10⟩ := h
    exact i_zip3 ok h1 h2 h3 h5 h7 h9 h10 (sndE a _ X p s g ok h4).v (sndE b _ X p s g ok h6).v (sndE c _ X p s g ok h8).v
end
end PD
set_option Elab.async false
set_option linter.all false
set_option maxRecDepth 100000
set_option maxHeartbeats 8000000
/-! PdT: statements. -/
namespace PD
open PySem L2
/-! the look -/
def plainV : Expr → Bool
  | .ListComp _ _ _ _ => false
  | .SetComp _ _ _ _ => false
  | .DictComp _ _ _ _ _ => false
  | _ => true
def noTT : Expr → Expr → Bool
  | .Tuple _ _ _, .Tuple _ _ _ => false
  | .List _ _, .Tuple _ _ _ => false
  | _, _ => true
def swapB (s : Sx) (tg v : Expr) : Bool := match tg, v with
  | .Name y py, .ListComp _ _ scope lp => decide (s.sc.names.lookup y = some .local) && (py.line == lp.line) && !(scope.names.any fun z => z.1 == y && (z.2 == .local || z.2 == .cell))
  | _, _ => false
/-- a comprehension that is not stored within its own block -/
def noSwapB (s : Sx) (tg v : Expr) : Bool := match tg, v with
  | .Name y py, .ListComp _ _ _ lp => decide (s.sc.names.lookup y = some .cell) || (stoB s.sc y && !(py.line == lp.line))
  | _, _ => false
/-- names of a tuple that are not all fast: no store is exchanged -/
def cellB (s : Sx) : Expr → Bool
  | .Name x _ => decide (s.sc.names.lookup x = some .cell)
  | _ => false
def noParB (s : Sx) : Expr → Expr → Bool
  | .Tuple ts _ _, .Tuple _ _ _ => ts.any (cellB s)
  | _, _ => false
def parB (s : Sx) (i j : Nat) : Expr → Expr → Bool
  | .Tuple [.Name x px, .Name y py] _ _, .Tuple [a, b] _ _ => decide (s.N[i]? = some x) && decide (s.N[j]? = some y) && decide (i ≠ j) && decide (s.sc.names.lookup x = some .local) && decide (s.sc.names.lookup y = some .local) && (py.line == px.line) && noStar a && noStar b &&
      !([a, b].all (foldedForSure 8)) && !([a, b].all (constantsAlone 8)) && !(y == x) && plainV a && plainV b
  | _, _ => false
def par3B (s : Sx) (i j k : Nat) : Expr → Expr → Bool
  | .Tuple [.Name x px, .Name y py, .Name z pz] _ _, .Tuple [a, b, c] _ _ => (py.line == px.line) && (pz.line == px.line) && !([a, b, c].all (foldedForSure 8)) && !([a, b, c].all (constantsAlone 8)) && !(y == x) && !(z == x) && !(z == y) &&
       decide (s.N[i]? = some x) && decide (s.N[j]? = some y) && decide (s.N[k]? = some z) && decide (i ≠ j) && decide (i ≠ k) && decide (j ≠ k) &&
      decide (s.sc.names.lookup x = some .local) && decide (s.sc.names.lookup y = some .local) && decide (s.sc.names.lookup z = some .local) && noStar a && noStar b && noStar c && plainV a && plainV b && plainV c
  | _, _ => false
def par3V (s : Sx) (a b c : CE) : Expr → Bool
  | .Tuple [x, y, z] _ _ => okE s a x && okE s b y && okE s c z
  | _ => false
def CE.noBor : CE → Bool
  | .bor _ _ => false
  | .fz a => a.noBor
  | _ => true
def CS.isWip : CS → Bool
  | .wip _ => true
  | _ => false
def parV (s : Sx) (a b : CE) : Expr → Bool
  | .Tuple [y, z] _ _ => okE s a y && okE s b z
  | _ => false
def okKD (s : Sx) : List Str → CL → List (Option Expr) → List Expr → Bool
  | [], .nil, [], [] => true
  | k :: ks, .cons e es, some (.Constant (.str z) _ _) :: xs, y :: ys => decide (k = z) && okE s e y && okKD s ks es xs ys
  | _, _, _, _ => false
mutual
def okS (s : Sx) : CS → Stmt → Bool
  | .stk, _ => true
  | .asg t e, x => (match x with
    | .Assign [tg] v _ => okTg s t tg && okE s e v && ((plainV v && noTT tg v) || (swapB s tg v && e.noBor) || noSwapB s tg v || (plainV v && noParB s tg v))
    | _ => false)
  | .set i ix e, x => (match x with
    | .Assign [.Subscript (.Name n _) k _] v _ => decide (s.N[i]? = some n) && visB s.sc n && dbg n && okE s ix k && okE s e v && noSlice k && plainV v
    | _ => false)
  | .par i j a b, x => (match x with
    | .Assign [tg] v _ => parB s i j tg v && parV s a b v
    | _ => false)
  | .aug i neg e, x => (match x with
    | .AugAssign (.Name n _) op v _ => decide (s.N[i]? = some n) && stoB s.sc n && okBin (if neg then .sub else .add) op && okE s e v
    | _ => false)
  | .exp e, x => (match x with
    | .Expr v _ => okE s e v && plainV v
    | _ => false)
  | .ret e, x => (match x with
    | .Return (some v) _ => okE s e v
    | _ => false)
  | .retN, x => (match x with
    | .Return none _ => true
    | _ => false)
  | .ifs c a b, x => (match x with
    | .If t u v _ => okE s c t && okSs s a u && okSs s b v
    | _ => false)
  | .fors t it b, x => (match x with
    | .For tg iter body [] _ => okTg s t tg && okI s it iter tg && noSet iter && okSs s b body
    | _ => false)
  | .whl _ c b, x => (match x with
    | .While t body [] _ => okE s c t && okSs s b body
    | _ => false)
  | .brk, x => (match x with
    | .Break _ => true
    | _ => false)
  | .cnt, x => (match x with
    | .Continue _ => true
    | _ => false)
  | .pass, x => (match x with
    | .Pass _ => true
    | _ => false)
  | .wip _, _ => false
  | .par3 i j k a b c, x => (match x with
    | .Assign [tg] v _ => par3B s i j k tg v && par3V s a b c v
    | _ => false)
def okSs (s : Sx) : CSs → List Stmt → Bool
  | .nil, xs => xs.isEmpty
  | .dret j ks es k, xs => (match xs with
    | [.Assign [.Name n _] (.Dict keys vals _) _, .Return (some (.Subscript (.Name n2 _) key _)) _] => decide (s.N[j]? = some n) && decide (n2 = n) && stoB s.sc n && visB s.sc n && dbg n && okKD s ks es keys vals && okE s k key && noSlice key
    | _ => false)
  | .cons c r, xs => if c.isWip then okSs s r xs else (match xs with
    | x :: xs => okS s c x && okSs s r xs
    | [] => false)
end
/-! readings -/
structure Kps (kp : List Nat) (σ σ' : St) : Prop where
  len : σ'.length = σ.length
  kept : ∀ j, kp.contains j = true → σ'[j]? = σ[j]?
theorem Kps.refl {kp : List Nat} {σ : St} : Kps kp σ σ := ⟨rfl, fun _ _ => rfl⟩
theorem Kps.trans {kp : List Nat} {σ σ1 σ2 : St} (a : Kps kp σ σ1) (b : Kps kp σ1 σ2) : Kps kp σ σ2 := ⟨b.len.trans a.len, fun j h => (b.kept j h).trans (a.kept j h)⟩
theorem Kp.kps {kp sl : List Nat} {σ σ' : St} (k : Kp kp sl σ σ') : Kps kp σ σ' := ⟨k.len, k.kept⟩
def RSP (p : Wd) (kp : List Nat) (D : Ends) (A : AS) (H : Hp) (Z : AS) (w : Ws) (σ : St) (r : RS) : Prop :=
  match r with
  | .nx ρ' => ∀ σ' H' Z' w', S p.K Z' w' σ' ρ' H' → Nx false A H Z w H' Z' w' → Kps kp σ σ' → D.nx σ' H'
  | .brk ρ' => ∀ σ' H' Z' w', S p.K Z' w' σ' ρ' H' → Nx false A H Z w H' Z' w' → Kps kp σ σ' → D.bk σ' H'
  | .cnt ρ' => ∀ σ' H' Z' w', S p.K Z' w' σ' ρ' H' → Nx false A H Z w H' Z' w' → Kps kp σ σ' → D.ct σ' H'
  | .ret d ρ' => ∀ v σ' H' Z' w' O, S p.K Z' w' σ' ρ' H' → Nx false A H Z w H' Z' w' → Kps kp σ σ' → Tm false A H w H' Z' w' O → Rep p.K H' Z' O v d → d.ret = true → D.rt v H'
  | .exc c fs ρ' => ∀ cls dx σ' H' Z' w', p.xc c fs cls dx H' → S p.K Z' w' σ' ρ' H' → Nx false A H Z w H' Z' w' → Kps kp σ σ' → p.W cls dx σ' H'
  | .stuck => False
def tS (p : Wd) (kp : List Nat) (f : Ev → RS) : TS := fun D σ H => ∃ ρ Z w, S p.K Z w σ ρ H ∧ RSP p kp D A0 H Z w σ (f ρ)
section
variable {p : Wd} {kp : List Nat} {D : Ends} {q : Bool} {A O1 : AS} {H H1 : Hp} {Z Z1 : AS} {w w1 : Ws} {σ σ1 : St} {ρ ρ1 : Ev} {T : VK}
theorem RSP.later {r : RS} (n : Nx q A0 H Z w H1 Z1 w1) (t : Tm q A0 H w H1 Z1 w1 O1) (k : Kps kp σ σ1) (h : RSP p kp D A H Z w σ r) : RSP p kp D (fun a => A a ∨ O1 a) H1 Z1 w1 σ1 r := by
  have cn : ∀ {H' Z' w'}, Nx false (fun a => A a ∨ O1 a) H1 Z1 w1 H' Z' w' → Nx false A H Z w H' Z' w' := fun {H' Z' w'} m => by
    have z := n.then t m
    rwa [Bool.and_false] at z
  cases r with
  | nx ρ' => exact fun σ' H' Z' w' s' m k' => h σ' H' Z' w' s' (cn m) (k.trans k')
  | brk ρ' => exact fun σ' H' Z' w' s' m k' => h σ' H' Z' w' s' (cn m) (k.trans k')
  | cnt ρ' => exact fun σ' H' Z' w' s' m k' => h σ' H' Z' w' s' (cn m) (k.trans k')
  | ret d ρ' => exact fun v σ' H' Z' w' O s' m k' tm rp hr => h v σ' H' Z' w' O s' (cn m) (k.trans k') (by
      have z := Tm.then n t tm
      rwa [Bool.and_false] at z) rp hr
  | exc c fs ρ' => exact fun cls dx σ' H' Z' w' x s' m k' => h cls dx σ' H' Z' w' x s' (cn m) (k.trans k')
  | stuck => exact h
theorem RSP.sub {r : RS} {A2 : AS} (h : RSP p kp D A H Z w σ r) (i : ∀ a, A2 a → A a) : RSP p kp D A2 H Z w σ r := by
  cases r with
  | nx ρ' => exact fun σ' H' Z' w' s' m k' => h σ' H' Z' w' s' (m.more i) k'
  | brk ρ' => exact fun σ' H' Z' w' s' m k' => h σ' H' Z' w' s' (m.more i) k'
  | cnt ρ' => exact fun σ' H' Z' w' s' m k' => h σ' H' Z' w' s' (m.more i) k'
  | ret d ρ' => exact fun v σ' H' Z' w' O s' m k' tm rp hr => h v σ' H' Z' w' O s' (m.more i) k' (tm.more i) rp hr
  | exc c fs ρ' => exact fun cls dx σ' H' Z' w' x s' m k' => h cls dx σ' H' Z' w' x s' (m.more i) k'
  | stuck => exact h
theorem Nx.ofGrow {O : AS} {H' : Hp} {Z' : AS} {w' : Ws} (m : Nx q A0 H (fun a => Z a ∨ O a) w H' Z' w') (i : ∀ a, O a → A a) : Nx q A H Z w H' Z' w' :=
  ⟨fun a o e n h => m.keep a o e (fun z => z.elim) h, fun a z => m.zin a (.inl z), fun a z => (m.znew a z).elim (fun y => y.elim .inl fun x => .inr (.inr (.inr (i a x)))) fun y => .inr (y.elim .inl fun x => x.elim (fun u => .inr (.inl u)) fun u => u.elim), fun a z => (m.fresh a z).elim .inl fun y => .inr (y.elim .inl fun u => u.elim)⟩
theorem RSP.zgrow {r : RS} {O : AS} (h : RSP p kp D A H Z w σ r) (i : ∀ a, O a → A a) : RSP p kp D A0 H (fun a => Z a ∨ O a) w σ r := by
  cases r with
  | nx ρ' => exact fun σ' H' Z' w' s' m k' => h σ' H' Z' w' s' (m.ofGrow i) k'
  | brk ρ' => exact fun σ' H' Z' w' s' m k' => h σ' H' Z' w' s' (m.ofGrow i) k'
  | cnt ρ' => exact fun σ' H' Z' w' s' m k' => h σ' H' Z' w' s' (m.ofGrow i) k'
  | ret d ρ' => exact fun v σ' H' Z' w' O s' m k' tm rp hr => h v σ' H' Z' w' O s' (m.ofGrow i) k' (tm.more fun _ z => z.elim) rp hr
  | exc c fs ρ' => exact fun cls dx σ' H' Z' w' x s' m k' => h cls dx σ' H' Z' w' x s' (m.ofGrow i) k'
  | stuck => exact h
theorem RSP.exc {c : String} {fs : List PD.D} {ρ' : Ev} (h : RSP p kp D A H Z w σ (.exc c fs ρ')) : RX p q A0 H Z w σ c fs ρ' :=
  fun cls dx H' Z' w' x s' m => h cls dx σ H' Z' w' x s' ((by
    have z := (m.more (A2 := A) fun _ y => y.elim).wk (q2 := false)
    rwa [Bool.and_false] at z)) .refl
/-- an expression, then the rest of the statement -/
theorem RP.seqS {r : R} {f : PD.D → Ev → RS} (tA : Tn H Z w A) (h : RSP p kp D A H Z w σ (r.thenS f))
    (k : ∀ d ρ1 v H1 Z1 w1 O1, Mid p q A O1 H Z w σ ρ1 H1 Z1 w1 → Rep p.K H1 Z1 O1 v d → RSP p kp D (fun a => A a ∨ O1 a) H1 Z1 w1 σ (f d ρ1) → T v H1) : RP p q A0 H Z w σ r T := by
  cases r with
  | ok d ρ' => exact fun v H' Z' w' O s' m tm rp => k d ρ' v H' Z' w' O (.mk' tA s' m tm) rp (RSP.later m tm .refl h)
  | exc c fs ρ' => exact RSP.exc h
  | stuck => exact h
theorem RPT.seqS {r : R} {f : Bool → Ev → RS} {T : Bool → Hp → Prop} (h : RSP p kp D A H Z w σ (r.thenS fun d ρ => match d with | .bl b => f b ρ | _ => .stuck)) (tA : Tn H Z w A)
    (k : ∀ b ρ1 H1 Z1 w1, Mid p q A A0 H Z w σ ρ1 H1 Z1 w1 → RSP p kp D (fun a => A a ∨ A0 a) H1 Z1 w1 σ (f b ρ1) → T b H1) : RPT p q A0 H Z w σ r T := by
  cases r with
  | ok d ρ' =>
    cases d with
    | bl b => exact fun H' Z' w' s' m => k b ρ' H' Z' w' (.mk' tA s' m tm0) (RSP.later m tm0 .refl h)
    | _ => exact h
  | exc c fs ρ' => exact RSP.exc h
  | stuck => exact h
theorem RPI.seqS {r : RL} {f : List PD.D → Ev → RS} {T : It → Hp → Prop} (h : RSP p kp D A0 H Z w σ (r.thenS f))
    (k : ∀ xs ρ1 J H1 Z1 w1, S p.K Z1 w1 σ ρ1 H1 → Nx q A0 H Z w H1 Z1 w1 → ItOk p.K J H1 Z1 xs → RSP p kp D A0 H1 Z1 w1 σ (f xs ρ1) → T J H1) : RPI p q A0 H Z w σ r T := by
  cases r with
  | ok xs ρ' => exact fun J H' Z' w' s' m it => k xs ρ' J H' Z' w' s' m it ((RSP.later (O1 := A0) m tm0 .refl h).sub fun _ z => z.elim)
  | exc c fs ρ' => exact RSP.exc h
  | stuck => exact h
/-- a step between states, no value at hand -/
theorem RSP.step {r : RS} (n : Nx q A0 H Z w H1 Z1 w1) (k : Kps kp σ σ1) (h : RSP p kp D A0 H Z w σ r) : RSP p kp D A0 H1 Z1 w1 σ1 r := (RSP.later (O1 := A0) n tm0 k h).sub fun _ z => z.elim
end
section
variable {X : Cx} {p : Wd} {s : Sx} {g : Gs} {pos : Pos}
theorem PS.imp {e : Stmt} {t t' : TS} (h : PS X e t) (i : ∀ D σ H, t' D σ H → t D σ H) : PS X e t' := ⟨fun pins s σ H D I q => h.run pins s σ H D I (i _ _ _ q)⟩
theorem PSs.imp {e : List Stmt} {t t' : TS} (h : PSs X e t) (i : ∀ D σ H, t' D σ H → t D σ H) : PSs X e t' := ⟨fun pins s σ H D I q => h.run pins s σ H D I (i _ _ _ q)⟩
theorem plain_swap {v : Expr} {t : Option Expr} {l : Nat} {env : Env} (h : plainV v = true) : swapsWith v t l env = pure false := by
  cases v <;> first | rfl | simp [plainV] at h
theorem noTT_swap {tg v : Expr} {env : Env} (h : noTT tg v = true) : swappedStores [tg] v env = pure none := by
  cases tg <;> cases v <;> first | rfl | simp [noTT] at h
theorem fm_lt {α β : Type} (f : α → Option β) : ∀ (xs : List α), (∃ x ∈ xs, f x = none) → (xs.filterMap f).length < xs.length
  | [], h => by obtain ⟨x, hx, _⟩ := h; cases hx
  | x :: xs, h => by
    have hle := List.length_filterMap_le f xs
    cases e : f x with
    | none => rw [List.filterMap_cons_none e, List.length_cons]; omega
    | some y =>
      obtain ⟨z, hz, ez⟩ := h
      have h1 := fm_lt f xs ⟨z, (List.mem_cons.mp hz).resolve_left (fun w => by rw [w, e] at ez; cases ez), ez⟩
      rw [List.filterMap_cons_some e, List.length_cons, List.length_cons]; omega
theorem noPar_swap {tg v : Expr} (ok : Ok X p s g) (h : noParB s tg v = true) : swappedStores [tg] v X.env = pure none := by
  unfold noParB at h
  split at h <;> try contradiction
  rename_i ts k q vs k2 q2
  obtain ⟨x, hx, hc⟩ := List.any_eq_true.mp h
  unfold swappedStores
  simp only
  split
  · rfl
  split
  · rfl
  split
  · rfl
  · rename_i c1 c2 c3
    exfalso
    simp only [Bool.or_eq_true, bne_iff_ne, ne_eq, not_or, Decidable.not_not] at c3
    refine absurd c3.1 (Nat.ne_of_lt (fm_lt _ _ ⟨x, hx, ?_⟩))
    cases x with
    | Name y py =>
      simp only [cellB, decide_eq_true_eq] at hc
      have e : (X.env.kindOf y == some .local) = false := by
        rcases ok.cf y (.inl hc) with z | z
        · show (X.env.scope.names.lookup y == some .local) = false
          rw [z]; rfl
        · show (X.env.scope.names.lookup y == some .local) = false
          rw [z]; rfl
      simp [e]
    | _ => rfl
/-- a value, then a target -/
theorem t_asg {t : Tg} {qe : Bool} {fe : Ev → R} {D : Ends} {σ : St} {H : Hp} (h : tS p g.kp (fun ρ => (fe ρ).thenS fun d ρ1 => match t.st g.kp d ρ1 with | some ρ2 => .nx ρ2 | none => .stuck) D σ H) : tAsg (tE p qe fe) (tG p g.kp t.slots (t.st g.kp)) D σ H := by
  obtain ⟨ρ, Z, w, st, h⟩ := h
  refine ⟨ρ, Z, w, st, RP.seqS Tn.zero h fun d ρ1 v H1 Z1 w1 P1 m1 r1 h1 => ?_⟩
  cases e : t.st g.kp d ρ1 with
  | none => rw [e] at h1; exact h1.elim
  | some ρ2 =>
    rw [e] at h1
    exact ⟨d, ρ1, Z1, w1, P1, m1.s, m1.tn, r1, ρ2, e, fun σ' w' s' o k => h1 σ' H1 Z1 w' s' ⟨fun _ _ e _ _ => e, fun _ z => z, fun _ z => .inl z, fun a z => (o a z).imp id fun y => .inr (.inr y)⟩ k.kps⟩
theorem s_asg {t : Tg} {e : CE} {tg v : Expr} (ok : Ok X p s g) (h1 : okTg s t tg = true) (h2 : okE s e v = true) (h3 : ((plainV v && noTT tg v) || (swapB s tg v && e.noBor) || noSwapB s tg v || (plainV v && noParB s tg v)) = true) : PS X (.Assign [tg] v pos) (tS p g.kp ((CS.asg t e).ev g)) := by
  have ie := sndE e v X p s g ok h2
  have hg := g_all ok g.kp t tg h1
  have as1 : (assignEach [tg] X.env).map (·.2) = [assign tg X.env] := by rw [assign1 (okTg_star h1)]; rfl
  simp only [Bool.or_eq_true, Bool.and_eq_true] at h3
  rcases h3 with ((⟨h3, h4⟩ | ⟨h3, hnb⟩) | h3) | ⟨h3, h4⟩
  · exact PS.imp (ps_asg ie.v hg (by show swapsWith v (some tg) pos.line X.env = _; exact plain_swap h3) (noTT_swap h4) as1) fun D σ H q => t_asg q
  · unfold swapB at h3
    split at h3 <;> try contradiction
    rename_i y py elt gs scope lp
    simp only [Bool.and_eq_true, decide_eq_true_eq, Bool.not_eq_true'] at h3
    obtain ⟨⟨h3, h4⟩, h5⟩ := h3
    cases t with
    | tup ts => simp [okTg] at h1
    | nm i =>
      simp only [okTg, Bool.and_eq_true] at h1
      have lcK : ∀ (own : List Nat) (tg' : Tg) (it : CI) (cs : CL) (e' : CE), okE s (.lc own tg' it cs e') (.ListComp elt gs scope lp) = true → (∀ (D : Ends) (σ : St) (H : Hp), tS p g.kp ((CS.asg (.nm i) e).ev g) D σ H → tE p (CE.lc own tg' it cs e').quiet ((CE.lc own tg' it cs e').ev g false) σ H fun v H1 => gName i v σ H1 D.nx) →
          PS X (.Assign [.Name y py] (.ListComp elt gs scope lp) pos) (tS p g.kp ((CS.asg (.nm i) e).ev g)) := by
        intro own tg' it cs e' h2 hq
        simp only [okE] at h2
        split at h2 <;> try contradiction
        rename_i elt t iter ifs scope lp hv
        cases hv
        simp only [Bool.and_eq_true] at h2
        obtain ⟨⟨⟨⟨⟨⟨k1, k2⟩, k3⟩, k4⟩, k5⟩, k6⟩, k7⟩ := h2
        have bl := fun s1 H C cl fp => ok.blk k1 s1 H C cl fp
        have hyl := ok.lc y h3
        have z := ps_setLc (own := ownN s.N own) (pos := lp) (spos := pos) (py := py) ok.calm (by rw [ok.N]; exact ok.nd) (ok.has h1.1) hyl (sw_true ok.kind hyl h4 h5) (sndI it iter t X p s g ok k3) (blk_ok ok k1) (fun s1 H C cl fp => g_all (bl s1 H C cl fp) [] tg' t k5)
          (fun s1 H C cl fp => (sndL cs ifs _ _ _ g (bl s1 H C cl fp) k6).ifs) (fun s1 H C cl fp => (sndE e' elt _ _ _ g (bl s1 H C cl fp) k7).v) (noFold k4)
        rw [ownN_snd] at z
        exact PS.imp z fun D σ H q => t_lc (p := p) (fun j hj => by
          have := (List.all_eq_true.mp k2) j hj
          simpa using this) (hq D σ H q)
      have sto : ∀ {D : Ends} {d : PD.D} {ρ1 : Ev} {v : V} {H1 : Hp} {Z1 : AS} {w1 : Ws} {P1 P2 : AS} {σ : St}, S p.K Z1 w1 σ ρ1 H1 → Tn H1 Z1 w1 P1 → Rep p.K H1 Z1 P1 v d → (∀ a, P1 a → P2 a) →
          RSP p g.kp D P2 H1 Z1 w1 σ (match (Tg.nm i).st g.kp d ρ1 with | some ρ2 => .nx ρ2 | none => .stuck) → gName i v σ H1 D.nx := by
        intro D d ρ1 v H1 Z1 w1 P1 P2 σ s1 t1 r1 i1 h1
        simp only [Tg.st] at h1
        split at h1 <;> try exact h1.elim
        rename_i ρ2 hc
        split at hc <;> try contradiction
        rename_i hc2
        simp only [Bool.and_eq_true, decide_eq_true_eq, Bool.not_eq_true'] at hc2
        cases hc
        refine h1 _ H1 Z1 _ (s1.store hc2.2 r1 hc2.1.1 t1) ⟨fun _ _ e _ _ => e, fun _ z => z, fun _ z => .inl z, fun a z => (wput_own z).imp id fun y => .inr (i1 a y)⟩ ⟨by simp, fun j hj => List.getElem?_set_ne fun e => ?_⟩
        subst e
        rw [hc2.1.2] at hj; cases hj
      cases e <;> simp only [okE] at h2 <;> try contradiction
      · rename_i own tg' it cs e
        refine lcK own tg' it cs e (by simpa only [okE] using h2) fun D σ H q => ?_
        obtain ⟨ρ, Z, w, st, q⟩ := q
        exact ⟨ρ, Z, w, st, RP.seqS Tn.zero q fun d ρ1 v H1 Z1 w1 P1 m1 r1 h1 => sto (P2 := fun a => A0 a ∨ P1 a) m1.s m1.tn r1 (fun _ z => .inr z) h1⟩
      · rename_i a
        simp only [Bool.and_eq_true] at h2
        obtain ⟨⟨h2, h6⟩, h7⟩ := h2
        have h8 := h7
        cases a <;> simp only [okE] at h7 <;> try contradiction
        · rename_i own tg' it cs e
          refine lcK own tg' it cs e h8 fun D σ H q => ?_
          obtain ⟨ρ, Z, w, st, q⟩ := q
          have q : RSP p g.kp D A0 H Z w σ (((CE.lc own tg' it cs e).ev g false ρ).thenS fun d ρ1 => if d.ret then (match (Tg.nm i).st g.kp d.freeze ρ1 with | some ρ2 => .nx ρ2 | none => .stuck) else .stuck) := by
            have e1 : (CS.asg (.nm i) (.fz (.lc own tg' it cs e))).ev g ρ = (((CE.lc own tg' it cs e).ev g false ρ).bind fun x ρ1 => if x.ret then .ok x.freeze ρ1 else .stuck).thenS fun d ρ1 => (match (Tg.nm i).st g.kp d ρ1 with | some ρ2 => .nx ρ2 | none => .stuck) := rfl
            rw [e1] at q
            revert q
            cases (CE.lc own tg' it cs e).ev g false ρ with
            | ok d ρ1 =>
              by_cases hr : d.ret = true
              · simp only [R.bind, R.thenS, hr, if_true]
                exact fun q => q
              · simp only [R.bind, R.thenS, hr]
                exact fun q => q
            | _ => exact fun q => q
          refine ⟨ρ, Z, w, st, RP.seqS Tn.zero q fun d ρ1 v H1 Z1 w1 P1 m1 r1 h1 => ?_⟩
          split at h1 <;> try exact h1.elim
          rename_i hr
          exact sto (P1 := A0) (P2 := A0) (m1.s.grow m1.tn) Tn.zero (Rep.freeze d P1 A0 v hr (fun a h => .inr h) (fun a h => .inl h) r1) (fun _ z => z) (RSP.zgrow (O := P1) h1 fun _ z => .inr z)
  · unfold noSwapB at h3
    split at h3 <;> try contradiction
    rename_i y py elt gs scope lp
    have hsw : swapsWith (.ListComp elt gs scope lp) (some (.Name y py)) pos.line X.env = pure false := by
      have bk : X.env.blockKind = .function := by unfold Env.blockKind; rw [ok.kind]; rfl
      simp only [Bool.or_eq_true, Bool.and_eq_true, decide_eq_true_eq, Bool.not_eq_true'] at h3
      rcases h3 with h3 | ⟨h3, h4⟩
      · have ne : (X.env.kindOf y == some .local) = false := by
          rcases ok.cf y (.inl h3) with z | z
          · show (X.env.scope.names.lookup y == some .local) = false
            rw [z]; rfl
          · show (X.env.scope.names.lookup y == some .local) = false
            rw [z]; rfl
        unfold swapsWith
        simp only [bk, ne, Expr.pos]
        simp
      · unfold swapsWith
        simp only [bk, Expr.pos, h4]
        simp
    exact PS.imp (ps_asg ie.v hg (show swapsWithSole [.Name y py] (.ListComp elt gs scope lp) pos.line X.env = pure false from hsw) (noTT_swap rfl) as1) fun D σ H q => t_asg q
  · exact PS.imp (ps_asg ie.v hg (by show swapsWith v (some tg) pos.line X.env = _; exact plain_swap h3) (noPar_swap ok h4) as1) fun D σ H q => t_asg q
end
end PD
set_option Elab.async false
set_option linter.all false
set_option maxRecDepth 100000
set_option maxHeartbeats 8000000
/-! PdU: statements, further; blocks. -/
namespace PD
open PySem L2
section
variable {X : Cx} {p : Wd} {s : Sx} {g : Gs} {pos : Pos}
theorem RepL.setAt : ∀ {ds : List D} {K : PySem.W.Frag} {H : Hp} {Z O P : AS} {vs : List V} {k : Nat} {d : D} {v : V}, (∀ a, O a → ¬ P a) → RepL K H Z O vs ds → Rep K H Z P v d → RepL K H Z (fun a => O a ∨ P a) (vs.set k v) (ds.set k d)
  | [], _, _, _, _, _, _, k, _, _, _, .nil, _ => by cases k <;> exact .nil
  | d0 :: ds, _, _, _, O, P, _, 0, d, v, hd, .cons (O1 := O1) (O2 := O2) h1 h2 h3 ra rb, r => .cons (O1 := P) (O2 := O2) (fun _ z => .inr z) (fun a z => .inl (h2 a z)) (fun a z y => hd a (h2 a y) z) r rb
  | d0 :: ds, _, _, _, O, P, _, k + 1, d, v, hd, .cons (O1 := O1) (O2 := O2) h1 h2 h3 ra rb, r =>
    .cons (O1 := O1) (O2 := fun a => O2 a ∨ P a) (fun a z => .inl (h1 a z)) (fun a z => z.imp (h2 a) id) (fun a z y => y.elim (h3 a z) (hd a (h1 a z))) ra (RepL.setAt (fun a z => hd a (h2 a z)) rb r)
theorem retL_set : ∀ (xs : List D) (n : Nat) (d : D), D.retL xs = true → d.ret = true → D.retL (xs.set n d) = true
  | [], n, _, _, _ => by simp [D.retL]
  | x :: xs, 0, d, h, hd => by
    simp only [D.retL, Bool.and_eq_true] at h
    simp only [List.set_cons_zero, D.retL, Bool.and_eq_true]
    exact ⟨hd, h.2⟩
  | x :: xs, n + 1, d, h, hd => by
    simp only [D.retL, Bool.and_eq_true] at h
    simp only [List.set_cons_succ, D.retL, Bool.and_eq_true]
    exact ⟨h.1, retL_set xs n d h.2 hd⟩
theorem s_set {i : Nat} {ix e : CE} {n : Str} {pn ps' : Pos} {k v : Expr} (ok : Ok X p s g) (h1 : decide (s.N[i]? = some n) = true) (h2 : visB s.sc n = true) (h3 : dbg n = true) (h4 : okE s ix k = true) (h5 : okE s e v = true) (h6 : noSlice k = true) (h7 : plainV v = true) :
    PS X (.Assign [.Subscript (.Name n pn) k ps'] v pos) (tS p g.kp ((CS.set i ix e).ev g)) := by
  have pn' := pe_var (X := X) (pos := pn) (ok.has h1) (ok.vis n h2) (dbg1 h3).1 (dbg1 h3).2.1
  have as : ∀ u, assign (.Subscript (.Name n pn) k ps') X.env u = (do
      let ov ← holding [u] (eval (.Name n pn) X.env)
      let iv ← holding [u, ov] (eval k X.env)
      standAt ps'
      holding [u, ov, iv] (setItem ov iv u)
      release [u, ov, iv] []) := fun u => by cases k <;> first | rfl | simp [noSlice] at h6
  have sw : swappedStores [.Subscript (.Name n pn) k ps'] v X.env = pure none := by cases v <;> rfl
  refine PS.imp (ps_asg (sndE e v X p s g ok h5).v (pg_sub pn' (sndE ix k X p s g ok h4).v set_list as) (by show swapsWith v (some (.Subscript (.Name n pn) k ps')) pos.line X.env = _; exact plain_swap h7) sw rfl) fun De σ H q => ?_
  obtain ⟨ρ, Z, w, st, q⟩ := q
  refine ⟨ρ, Z, w, st, RP.seqS Tn.zero q fun d ρ1 v H1 Z1 w1 P1 m1 r1 h1 => ?_⟩
  split at h1 <;> try exact h1.elim
  rename_i hg
  simp only [Bool.and_eq_true] at hg
  unfold isOwn at hg
  have hg1 := hg.1
  split at hg1 <;> try contradiction
  rename_i xs0 hi0
  obtain ⟨_, va, hva, _⟩ := m1.s.rep i _ hi0
  refine ⟨va, hva, ρ1, Z1, w1, m1.s, RP.seqS m1.all h1 fun kd ρ2 u H2 Z2 w2 P2 m2 r2 h2 => ?_⟩
  unfold setAt at h2
  split at h2 <;> try exact h2.elim
  rename_i xs kk hi2
  split at h2 <;> try exact h2.elim
  rename_i j hj
  split at h2 <;> try exact h2.elim
  cases r2
  obtain ⟨hr0, va', hva', r0⟩ := m2.s.rep i _ hi2
  rw [hva] at hva'
  obtain rfl := Option.some.inj (Option.some.inj hva')
  have r1' := Rep.mid m1.s m2 (fun _ z => .inr z) m1.all (by rw [hg.2]; rfl) r1
  obtain ⟨a, us, O', rfl, e1, nz, wa, sub, na, rl⟩ := r0.openOwn'
  · have wa : w2 a = some i := wa
    have hrx : D.retL xs = true := by simpa only [D.ret] using hr0
    have tP : Tn H2 Z2 w2 P1 := m2.a.sub fun _ z => .inr z
    have nP : ¬ P1 a := fun z => by
      have y := tP.free a z
      rw [wa] at y; cases y
    refine ⟨a, us, kk, j, rfl, rfl, e1, by rw [rl.len]; exact hj, ?_⟩
    have dO : ∀ b, O' b → ¬ P1 b := fun b z y => by
      have x : w2 b = some i := sub b z
      rw [tP.free b y] at x; cases x
    have ry := RepL.setAt (k := j) dO (rl.mut (o := .lst (us.set j v)) e1 nz na hrx) (r1'.mut e1 nz nP hg.2)
    have hOy : ∀ b, (O' b ∨ P1 b) → (w2 b = some i ∧ b ≠ a) ∨ P1 b := fun b z => z.imp (fun y => ⟨sub b y, fun e => by subst e; exact na y⟩) id
    exact h2 σ _ Z2 _ (m2.s.mut hi2 hva e1 wa ry (retL_set _ _ _ hrx hg.2) hOy tP) ((Nx.mut wa hOy).more fun b z => .inl (.inr z)) .refl
theorem s_aug {i : Nat} {neg : Bool} {e : CE} {op : Operator} {n : Str} {pn : Pos} {v : Expr} (ok : Ok X p s g) (h1 : decide (s.N[i]? = some n) = true) (h2 : stoB s.sc n = true) (h3 : okBin (if neg then .sub else .add) op = true) (h4 : okE s e v = true) :
    PS X (.AugAssign (.Name n pn) op v pos) (tS p g.kp ((CS.aug i neg e).ev g)) := by
  obtain ⟨hl, hf⟩ := ok.sto n h2
  have nd : X.N.Nodup := by rw [ok.N]; exact ok.nd
  have ie := (sndE e v X p s g ok h4).v
  have key : ∀ (D : Ends) (σ : St) (H : Hp), tS p g.kp ((CS.aug i neg e).ev g) D σ H → tAug i (tE p e.quiet (e.ev g false)) (ipI fun x y => if neg then x - y else x + y) D σ H := fun D σ H q => by
    obtain ⟨ρ, Z, w, st, q⟩ := q
    simp only [CS.ev] at q
    split at q <;> try exact q.elim
    rename_i x hi
    obtain ⟨_, v, hv, r⟩ := st.rep i _ hi
    cases r
    refine ⟨_, hv, ρ, Z, w, st, RP.seqS Tn.zero q fun d ρ1 u H1 Z1 w1 P1 m1 r1 h1 => ?_⟩
    cases d <;> try exact h1.elim
    cases r1
    dsimp only at h1
    split at h1 <;> try exact h1.elim
    rename_i hc
    refine ⟨_, _, rfl, rfl, ?_⟩
    have hlt : i < ρ1.length := by
      rw [← m1.s.len]
      exact (List.getElem?_eq_some_iff.mp hv).1
    refine h1 _ H1 Z1 _ (m1.s.store (O := A0) hlt .int rfl Tn.zero) ⟨fun _ _ e _ _ => e, fun _ z => z, fun _ z => .inl z, fun a z => (wput_own z).elim .inl fun y => y.elim⟩ ⟨by simp, fun j hj => List.getElem?_set_ne fun e => ?_⟩
    subst e
    exact hc hj
  cases neg
  · cases op <;> simp only [okBin, if_false, Bool.false_eq_true] at h3 <;> try contradiction
    exact PS.imp (ps_aug nd (ok.has h1) hl ie ip_add hf) fun D σ H q => key D σ H q
  · cases op <;> simp only [okBin, if_true] at h3 <;> try contradiction
    exact PS.imp (ps_aug nd (ok.has h1) hl ie ip_sub hf) fun D σ H q => key D σ H q
theorem s_par {i j : Nat} {a b : CE} {tg v : Expr} (ok : Ok X p s g) (h1 : parB s i j tg v = true) (h2 : parV s a b v = true) : PS X (.Assign [tg] v pos) (tS p g.kp ((CS.par i j a b).ev g)) := by
  unfold parB at h1
  split at h1 <;> try contradiction
  rename_i x px y py k1 q1 ea eb k2 q2
  simp only [parV, Bool.and_eq_true, decide_eq_true_eq, Bool.not_eq_true'] at h1 h2
  obtain ⟨⟨⟨⟨⟨⟨⟨⟨⟨⟨⟨⟨n1, n2⟩, nij⟩, l1⟩, l2⟩, ln⟩, sa⟩, sb⟩, f1⟩, f2⟩, nyx⟩, p1⟩, p2⟩ := h1
  have hx := ok.lc x l1
  have hy := ok.lc y l2
  have ia := (sndE a ea X p s g ok h2.1).v
  have ib := (sndE b eb X p s g ok h2.2).v
  have kx : (X.env.kindOf x == some .local) = true := by show (X.env.scope.names.lookup x == some .local) = true; rw [hx]; rfl
  have ky : (X.env.kindOf y == some .local) = true := by show (X.env.scope.names.lookup y == some .local) = true; rw [hy]; rfl
  have bk : X.env.blockKind = .function := by unfold Env.blockKind; rw [ok.kind]; rfl
  have hw : swappedStores [.Tuple [.Name x px, .Name y py] k1 q1] (.Tuple [ea, eb] k2 q2) X.env = pure (some [x, y]) := by
    unfold swappedStores
    simp only [bk, f1, f2, kx, ky, ln, Expr.pos, List.head?_cons, Option.map_some, Option.getD_some, List.filterMap_cons, List.filterMap_nil, beq_self_eq_true, Bool.and_self, Bool.and_true, if_true]
    simp [List.eraseDups_cons, nyx]
    intro h
    exfalso
    rcases h with h | h
    · cases ea <;> first | contradiction | (simp [noStar] at sa; done)
    · cases eb <;> first | contradiction | (simp [noStar] at sb; done)
  refine PS.imp (ps_par ok.calm (by rw [ok.N]; exact ok.nd) (by rw [ok.N]; exact n1) (by rw [ok.N]; exact n2) nij hx hy (pa_cons ia (pa_cons ib pa_nil (star1 sb)) (star1 sa)) hw rfl) fun D σ H q => ?_
  obtain ⟨ρ, Z, w, st, q⟩ := q
  refine ⟨ρ, Z, w, st, RP.seqS Tn.zero q fun d ρ1 v H1 Z1 w1 P1 m1 r1 h1 => ?_⟩
  refine ⟨ρ1, Z1, w1, m1.s, RP.seqS m1.all h1 fun e ρ2 u H2 Z2 w2 P2 m2 r2 h2 => ?_⟩
  show ∃ v' w', [v, u] = [v', w'] ∧ _
  refine ⟨v, u, rfl, ?_⟩
  split at h2 <;> try exact h2.elim
  rename_i hg
  simp only [Bool.and_eq_true, decide_eq_true_eq, Bool.not_eq_true'] at hg
  obtain ⟨⟨⟨⟨⟨g1, g2⟩, g3⟩, g4⟩, g5⟩, g6⟩ := hg
  have r1' := Rep.mid m1.s m2 (fun _ z => .inr z) m1.all (by rw [g1]; rfl) r1
  have t1 : Tn H2 Z2 w2 P1 := m2.a.sub fun _ z => .inr z
  have s1 := m2.s.store g5 r1' g1 t1
  have t2 : Tn H2 Z2 (wput w2 i P1) P2 := by
    refine ⟨fun b z => ?_, m2.tn.nz, m2.tn.lst⟩
    have n1 : ¬ P1 b := fun y => m2.d b (.inr y) z
    unfold wput
    simp [n1, m2.tn.free b z]
  have s2 := s1.store (i := j) (by rw [List.length_set]; exact g6) r2 g2 t2
  refine h2 _ H2 Z2 _ s2 ⟨fun _ _ e _ _ => e, fun _ z => z, fun _ z => .inl z, fun b z => ?_⟩ ⟨by simp, fun k hk => ?_⟩
  · rcases wput_own z with y | y
    · rcases wput_own y with x | x
      · exact .inl x
      · exact .inr (.inr (.inl (.inr x)))
    · exact .inr (.inr (.inr y))
  · rw [List.getElem?_set_ne fun e => ?_, List.getElem?_set_ne fun e => ?_]
    · subst e; rw [g3] at hk; cases hk
    · subst e; rw [g4] at hk; cases hk
theorem S.wipD {K : PySem.W.Frag} {Z : AS} {σ : St} {H : Hp} : ∀ (is : List Nat) {w : Ws} {ρ : Ev}, S K Z w σ ρ H → ∃ w', S K Z w' σ (wipeD ρ is) H ∧ ∀ a, w' a ≠ none → w a ≠ none
  | [], w, ρ, st => ⟨w, st, fun _ z => z⟩
  | i :: is, w, ρ, st => by
    obtain ⟨w', s', h'⟩ := S.wipD is st
    refine ⟨wput w' i A0, s'.drop (fun _ _ => rfl) rfl, fun a z => h' a ((wput_own z).elim id fun y => y.elim)⟩
theorem ps3 {i j k : Nat} {a b c : CE} {tg v : Expr} (ok : Ok X p s g) (h1 : par3B s i j k tg v = true) (h2 : par3V s a b c v = true) : PS X (.Assign [tg] v pos) (tS p g.kp ((CS.par3 i j k a b c).ev g)) := by
  unfold par3B at h1
  split at h1 <;> try contradiction
  rename_i x px y py z pz k1 q1 ea eb ec k2 q2
  simp only [par3V, Bool.and_eq_true, decide_eq_true_eq, Bool.not_eq_true'] at h1 h2
  obtain ⟨⟨⟨⟨⟨⟨⟨⟨⟨⟨⟨⟨⟨⟨⟨⟨⟨⟨⟨⟨⟨ln1, ln2⟩, f1⟩, f2⟩, nyx⟩, nzx⟩, nzy⟩, n1⟩, n2⟩, n3⟩, nij⟩, nik⟩, njk⟩, l1⟩, l2⟩, l3⟩, sa⟩, sb⟩, sc⟩, p1⟩, p2⟩, p3⟩ := h1
  have hx := ok.lc x l1
  have hy := ok.lc y l2
  have hz := ok.lc z l3
  have ia := (sndE a ea X p s g ok h2.1.1).v
  have ib := (sndE b eb X p s g ok h2.1.2).v
  have ic := (sndE c ec X p s g ok h2.2).v
  have kx : (X.env.kindOf x == some .local) = true := by show (X.env.scope.names.lookup x == some .local) = true; rw [hx]; rfl
  have ky : (X.env.kindOf y == some .local) = true := by show (X.env.scope.names.lookup y == some .local) = true; rw [hy]; rfl
  have kz : (X.env.kindOf z == some .local) = true := by show (X.env.scope.names.lookup z == some .local) = true; rw [hz]; rfl
  have bk : X.env.blockKind = .function := by unfold Env.blockKind; rw [ok.kind]; rfl
  have hw : swappedStores [.Tuple [.Name x px, .Name y py, .Name z pz] k1 q1] (.Tuple [ea, eb, ec] k2 q2) X.env = pure (some [x, y, z]) := by
    unfold swappedStores
    simp only [bk, f1, f2, kx, ky, kz, ln1, ln2, Expr.pos, List.head?_cons, Option.map_some, Option.getD_some, List.filterMap_cons, List.filterMap_nil, beq_self_eq_true, Bool.and_self, Bool.and_true, if_true]
    simp [List.eraseDups_cons, nyx, nzx, nzy]
    intro h
    exfalso
    rcases h with h | h | h
    · cases ea <;> first | contradiction | (simp [noStar] at sa; done)
    · cases eb <;> first | contradiction | (simp [noStar] at sb; done)
    · cases ec <;> first | contradiction | (simp [noStar] at sc; done)
  refine PS.imp (ps_par3 ok.calm (by rw [ok.N]; exact ok.nd) (by rw [ok.N]; exact n1) (by rw [ok.N]; exact n2) (by rw [ok.N]; exact n3) nij nik njk hx hy hz (pa_cons ia (pa_cons ib (pa_cons ic pa_nil (star1 sc)) (star1 sb)) (star1 sa)) hw rfl) fun D σ H q => ?_
  obtain ⟨ρ, Z, w, st, q⟩ := q
  refine ⟨ρ, Z, w, st, RP.seqS Tn.zero q fun d ρ1 v H1 Z1 w1 P1 m1 r1 h1 => ?_⟩
  refine ⟨ρ1, Z1, w1, m1.s, RP.seqS m1.all h1 fun e ρ2 u H2 Z2 w2 P2 m2 r2 h2 => ?_⟩
  refine ⟨ρ2, Z2, w2, m2.s, RP.seqS m2.all h2 fun f ρ3 t H3 Z3 w3 P3 m3 r3 h3 => ?_⟩
  show ∃ v' u' t', [v, u, t] = [v', u', t'] ∧ _
  refine ⟨v, u, t, rfl, ?_⟩
  split at h3 <;> try exact h3.elim
  rename_i hg
  simp only [Bool.and_eq_true, decide_eq_true_eq, Bool.not_eq_true'] at hg
  obtain ⟨⟨⟨⟨⟨⟨⟨⟨z1, z2⟩, z3⟩, g3⟩, g4⟩, g5⟩, g6⟩, g7⟩, g8⟩ := hg
  have r1' := Rep.mid m1.s m2 (fun _ z => .inr z) m1.all (fz_quiet z1) r1
  have r1'' := Rep.noO _ _ A0 _ z1 (Rep.mid m2.s m3 (fun _ z => .inl (.inr z)) m2.all (fz_quiet z1) r1')
  have r2' := Rep.noO _ _ A0 _ z2 (Rep.mid m2.s m3 (fun _ z => .inr z) m2.all (fz_quiet z2) r2)
  have r3' := Rep.noO _ _ A0 _ z3 r3
  have s1 := m3.s.store (O := A0) g6 r1'' (fz_ret _ z1) Tn.zero
  have s2 := s1.store (O := A0) (i := j) (by rw [List.length_set]; exact g7) r2' (fz_ret _ z2) Tn.zero
  have s3 := s2.store (O := A0) (i := k) (by rw [List.length_set, List.length_set]; exact g8) r3' (fz_ret _ z3) Tn.zero
  refine h3 _ H3 Z3 _ s3 ⟨fun _ _ e _ _ => e, fun _ z => z, fun _ z => .inl z, fun b z => ?_⟩ ⟨by simp, fun m hm => ?_⟩
  · rcases wput_own z with y | y
    · rcases wput_own y with x | x
      · rcases wput_own x with y | y
        · exact .inl y
        · exact y.elim
      · exact x.elim
    · exact y.elim
  · rw [List.getElem?_set_ne fun e => ?_, List.getElem?_set_ne fun e => ?_, List.getElem?_set_ne fun e => ?_]
    · subst e; rw [g3] at hm; cases hm
    · subst e; rw [g4] at hm; cases hm
    · subst e; rw [g5] at hm; cases hm
end
end PD
set_option Elab.async false
set_option linter.all false
set_option maxRecDepth 100000
set_option maxHeartbeats 8000000
/-! PdV: all statements, blocks. -/
namespace PD
open PySem L2
section
variable {X : Cx} {p : Wd} {s : Sx} {g : Gs} {pos : Pos}
theorem t_for {t : Tg} {it : CI} {fb : Ev → RS} {D : Ends} {σ : St} {H : Hp} (h : tS p g.kp (fun ρ => (it.ev g ρ).thenS fun xs ρ1 => forLoop (t.st g.kp) fb xs ρ1) D σ H) :
    tFor (tI p it.quiet (it.ev g)) (tG p g.kp t.slots (t.st g.kp)) (tS p g.kp fb) D σ H := by
  obtain ⟨ρ, Z, w, st, h⟩ := h
  refine ⟨ρ, Z, w, st, RPI.seqS h fun xs ρ1 J H1 Z1 w1 s1 n1 itok h1 => ?_⟩
  refine ⟨fun i m σc Hc => m = xs.length - i ∧ i ≤ xs.length ∧ ∃ ρc Zc wc, S p.K Zc wc σc ρc Hc ∧ Later H1 Z1 Hc Zc ∧ RSP p g.kp D A0 Hc Zc wc σc (forLoop (t.st g.kp) fb (xs.drop i) ρc), ⟨xs.length, by simp, Nat.zero_le _, ρ1, Z1, w1, s1, .refl, h1⟩, ?_⟩
  rintro i m σc Hc ⟨rfl, hi, ρc, Zc, wc, sc, lat, hl⟩
  obtain ⟨stop, go⟩ := itok.2 Hc Zc lat
  by_cases hlt : i < xs.length
  · have hx : xs[i]? = some xs[i] := List.getElem?_eq_getElem hlt
    obtain ⟨hgo, yld⟩ := go i _ hx
    rw [List.drop_eq_getElem_cons hlt] at hl
    simp only [forLoop] at hl
    let N : St → Hp → Prop := fun σ' H' => ∃ ρc Zc wc, S p.K Zc wc σ' ρc H' ∧ Later H1 Z1 H' Zc ∧ RSP p g.kp D A0 H' Zc wc σ' (forLoop (t.st g.kp) fb (xs.drop (i + 1)) ρc)
    refine .inr ⟨hgo, N, fun σ' H' z => ⟨xs.length - (i + 1), by omega, rfl, hlt, z⟩, fun x H' hy => ?_⟩
    obtain ⟨sm, rx⟩ := yld x H' hy
    cases e2 : t.st g.kp xs[i] ρc with
    | none => rw [e2] at hl; exact hl.elim
    | some ρa =>
      rw [e2] at hl
      have hl : RSP p g.kp D A0 Hc Zc wc σc ((fb ρa).turn (forLoop (t.st g.kp) fb (xs.drop (i + 1)))) := hl
      have hl := hl.step (Nx.same (q := true) (A := A0) (w := wc) sm) .refl
      refine ⟨xs[i], ρc, Zc, wc, A0, sc.same sm, Tn.zero, rx, ρa, e2, fun σ2 w2 s2 o2 k2 => ⟨ρa, Zc, w2, s2, ?_⟩⟩
      have n2 : Nx true A0 H' Zc wc H' Zc w2 := ⟨fun a o eo _ _ => eo, fun _ z => z, fun _ z => .inl z, fun a z => (o2 a z).imp id fun y => y.elim⟩
      have hl := hl.step n2 k2.kps
      have l2 : Later H1 Z1 H' Zc := lat.trans (Later.same sm)
      have again : ∀ {ρ'} {σ' H' Z' w'} (h : RSP p g.kp D A0 H' Z' w' σ' (forLoop (t.st g.kp) fb (xs.drop (i + 1)) ρ')), S p.K Z' w' σ' ρ' H' → Later H1 Z1 H' Z' → N σ' H' := fun h s' l' => ⟨_, _, _, s', l', h⟩
      cases e3 : fb ρa with
      | nx ρ' =>
        rw [e3] at hl
        exact fun σ' H3 Z3 w3 s3 n3 k3 => again (RSP.step n3 k3 hl) s3 (l2.trans (n3.lat s2 Tn.zero))
      | cnt ρ' =>
        rw [e3] at hl
        exact fun σ' H3 Z3 w3 s3 n3 k3 => again (RSP.step n3 k3 hl) s3 (l2.trans (n3.lat s2 Tn.zero))
      | brk ρ' =>
        rw [e3] at hl
        exact fun σ' H3 Z3 w3 s3 n3 k3 => hl σ' H3 Z3 w3 s3 n3 k3
      | ret d ρ' => rw [e3] at hl; exact hl
      | exc c fs ρ' => rw [e3] at hl; exact hl
      | stuck => rw [e3] at hl; exact hl
  · have hi' : i = xs.length := by omega
    subst hi'
    refine .inl ⟨stop _ (Nat.le_refl _), ?_⟩
    rw [List.drop_length] at hl
    exact hl σc Hc Zc wc sc .refl .refl
theorem t_whl {n : Nat} {qc : Bool} {fc : Ev → R} {fb : Ev → RS} {D : Ends} {σ : St} {H : Hp} (h : tS p g.kp (whLoop fc fb n) D σ H) : tWhile (tT p qc fc) (tS p g.kp fb) D σ H := by
  let W : Nat → St → Hp → Prop := fun m σc Hc => ∃ ρc Zc wc, S p.K Zc wc σc ρc Hc ∧ RSP p g.kp D A0 Hc Zc wc σc (whLoop fc fb m ρc)
  refine ⟨W, ⟨n, h⟩, fun m σc Hc hw => ?_⟩
  obtain ⟨ρc, Zc, wc, sc, hl⟩ := hw
  cases m with
  | zero => exact hl.elim
  | succ m =>
    simp only [whLoop] at hl
    refine ⟨ρc, Zc, wc, sc, RPT.seqS hl Tn.zero fun b ρ1 H1 Z1 w1 m1 h1 => ?_⟩
    have h1 := h1.sub (A2 := A0) fun _ z => z.elim
    cases b with
    | false => exact h1 σc H1 Z1 w1 m1.s .refl .refl
    | true =>
      simp only [if_true] at h1 ⊢
      refine ⟨W m, fun σ' H' z => ⟨m, Nat.lt_succ_self m, z⟩, ρ1, Z1, w1, m1.s, ?_⟩
      cases e3 : fb ρ1 with
      | nx ρ' =>
        rw [e3] at h1
        exact fun σ' H3 Z3 w3 s3 n3 k3 => ⟨ρ', Z3, w3, s3, RSP.step n3 k3 h1⟩
      | cnt ρ' =>
        rw [e3] at h1
        exact fun σ' H3 Z3 w3 s3 n3 k3 => ⟨ρ', Z3, w3, s3, RSP.step n3 k3 h1⟩
      | brk ρ' =>
        rw [e3] at h1
        exact fun σ' H3 Z3 w3 s3 n3 k3 => h1 σ' H3 Z3 w3 s3 n3 k3
      | ret d ρ' => rw [e3] at h1; exact h1
      | exc c fs ρ' => rw [e3] at h1; exact h1
      | stuck => rw [e3] at h1; exact h1
theorem t_seq {f : Ev → RS} {h : Ev → RS} {D : Ends} {σ : St} {H : Hp} (q : tS p g.kp (fun ρ => (f ρ).then h) D σ H) : tSeq (tS p g.kp f) (tS p g.kp h) D σ H := by
  obtain ⟨ρ, Z, w, st, q⟩ := q
  refine ⟨ρ, Z, w, st, ?_⟩
  cases e : f ρ with
  | nx ρ' =>
    simp only [e, RS.then] at q
    exact fun σ' H' Z' w' s' n k => ⟨ρ', Z', w', s', RSP.step n k q⟩
  | brk ρ' => simp only [e, RS.then] at q; exact q
  | cnt ρ' => simp only [e, RS.then] at q; exact q
  | ret d ρ' => simp only [e, RS.then] at q; exact q
  | exc c fs ρ' => simp only [e, RS.then] at q; exact q
  | stuck => simp only [e, RS.then] at q; exact q
theorem S.mutD {K : PySem.W.Frag} {H : Hp} {Z : AS} {w : Ws} {σ : St} {ρ : Ev} {a : Addr} {kvs kvs' : List (Key × V)} (st : S K Z w σ ρ H) (ha : H a = some (.dK kvs)) : S K Z w σ ρ (upd H a (.dK kvs')) := by
  have nz : ∀ b xs, H b = some (.lst xs) → b ≠ a := fun b xs e z => by rw [z, ha] at e; cases e
  refine ⟨st.len, fun i d hd => ?_, fun b z => ?_, fun b h => ?_⟩
  · obtain ⟨hr, v, hv, r⟩ := st.rep i d hd
    refine ⟨hr, v, hv, Rep.goN (E := fun b => b = a) (M := fun b => b = a) ⟨fun b o e n => by rw [upd_ne n]; exact e, fun _ z => z, fun _ z => .inl z⟩ (fun _ z => z) (fun b z o => ?_) (fun b xs m e => ?_) d _ v (fun b h z => ?_) (.inl hr) r⟩
    · obtain ⟨xs, e⟩ := st.zok b z
      exact nz b xs e o
    · rw [m, ha] at e
      cases e
      trivial
    · obtain ⟨⟨xs, e⟩, _⟩ := st.wok b (by rw [h]; exact fun x => nomatch x)
      exact nz b xs e z
  · obtain ⟨xs, e⟩ := st.zok b z
    exact ⟨xs, by rw [upd_ne (nz b xs e)]; exact e⟩
  · obtain ⟨⟨xs, e⟩, n⟩ := st.wok b h
    exact ⟨⟨xs, by rw [upd_ne (nz b xs e)]; exact e⟩, n⟩
theorem rep_flat {K : PySem.W.Frag} {H : Hp} {Z : AS} {d : PD.D} (h : d.flat = true) : Rep K H Z A0 d.toV d := by
  cases d <;> simp only [D.flat] at h <;> first | contradiction | constructor
theorem flat_ret {d : PD.D} (h : d.flat = true) : d.ret = true := by
  cases d <;> simp only [D.flat] at h <;> first | contradiction | rfl
def trs (p : Wd) (g : Gs) : List Str → CL → List (TE × TE)
  | k :: ks, .cons e es => (tC (.str k), tE p e.quiet (e.ev g false)) :: trs p g ks es
  | _, _ => []
theorem kd_pps (ok : Ok X p s g) : ∀ (ks : List Str) (es : CL) (xs : List (Option Expr)) (ys : List Expr), okKD s ks es xs ys = true → PPs X pos xs ys (trs p g ks es) ∧ xs.all (·.isSome) = true ∧ xs.length = ks.length ∧ ys.length = ks.length
  | [], .nil, [], [], _ => ⟨pps_nil, rfl, rfl, rfl⟩
  | k :: ks, .cons e es, some (.Constant (.str z) _ _) :: xs, y :: ys, h => by
    simp only [okKD, Bool.and_eq_true, decide_eq_true_eq] at h
    obtain ⟨⟨rfl, h1⟩, h2⟩ := h
    obtain ⟨a, b, c, d⟩ := kd_pps ok ks es xs ys h2
    exact ⟨pps_cons pe_str (sndE e y X p s g ok h1).v a, by simpa using b, by simp [c], by simp [d]⟩
  | [], .cons _ _, _, _, h => by simp [okKD] at h
  | [], .nil, _ :: _, _, h => by simp [okKD] at h
  | [], .nil, [], _ :: _, h => by simp [okKD] at h
  | _ :: _, .nil, _, _, h => by simp [okKD] at h
  | _ :: _, .cons _ _, [], _, h => by simp [okKD] at h
  | _ :: _, .cons _ _, none :: _, _, h => by simp [okKD] at h
  | _ :: _, .cons _ _, some x :: _, [], h => by cases x <;> simp [okKD] at h
  | k :: ks, .cons e es, some (.Name a b) :: xs, y :: ys, h => by simp [okKD] at h
theorem kd_tp {σ : St} : ∀ (ks : List Str) (es : CL) (H : Hp) (Z : AS) (w : Ws) (ρ : Ev) (ds : List PD.D) (ρ1 : Ev) (Q : List (V × V) → Hp → Prop), S p.K Z w σ ρ H → es.evFlat g ρ = some (ds, ρ1) → ks.length = ds.length →
    (ds.all D.flat = true → ∀ H' Z' w', S p.K Z' w' σ ρ1 H' → Nx false A0 H Z w H' Z' w' → Q ((ks.zip ds).map fun q => (V.str q.1, q.2.toV)) H') → tPairs (trs p g ks es) σ H Q
  | [], .nil, H, Z, w, ρ, ds, ρ1, Q, st, he, hl, h => by
    simp only [CL.evFlat, Option.some.injEq, Prod.mk.injEq] at he
    obtain ⟨rfl, rfl⟩ := he
    exact h rfl H Z w st .refl
  | [], .cons e es, H, Z, w, ρ, ds, ρ1, Q, st, he, hl, h => by
    have : ds = [] := by simpa using hl.symm
    subst this
    simp only [CL.evFlat] at he
    split at he <;> try contradiction
    split at he <;> try contradiction
    split at he <;> simp at he
  | k :: ks, .nil, H, Z, w, ρ, ds, ρ1, Q, st, he, hl, h => by
    simp only [CL.evFlat, Option.some.injEq, Prod.mk.injEq] at he
    obtain ⟨rfl, rfl⟩ := he
    simp at hl
  | k :: ks, .cons e es, H, Z, w, ρ, ds, ρ1, Q, st, he, hl, h => by
    simp only [CL.evFlat] at he
    split at he <;> try contradiction
    rename_i d ρ' hev
    split at he <;> try contradiction
    rename_i hf
    split at he <;> try contradiction
    rename_i r hr
    simp only [Option.some.injEq, Prod.mk.injEq] at he
    obtain ⟨rfl, rfl⟩ := he
    refine ⟨ρ, Z, w, st, ?_⟩
    show RP p e.quiet A0 H Z w σ (e.ev g false ρ) _
    rw [hev]
    intro v H1 Z1 w1 O s1 n1 t1 r1
    have ev := Rep.toV hf r1
    subst ev
    have n1' : Nx false A0 H Z w H1 Z1 w1 := by
      have z := n1.wk (q2 := false)
      rwa [Bool.and_false] at z
    refine kd_tp ks es H1 Z1 w1 ρ' r.1 r.2 _ s1 hr (by simpa using hl) fun hfl H' Z' w' s' n' => ?_
    exact h (by simp [hf, hfl]) H' Z' w' s' (Nx.trans n1' n' fun _ z => z.elim)
theorem lk_merge : ∀ (ks : List Str) (ds : List PD.D) (acc : List (Key × V)) (z : Str), ks.Nodup → ks.length = ds.length →
    valV (mergeK acc ((ks.zip ds).map fun q => ((Sum.inr q.1 : Key), q.2.toV))) (.inr z) = match lk z ks ds with | some d => some d.toV | none => valV acc (.inr z)
  | [], [], acc, z, _, _ => rfl
  | [], _ :: _, _, _, _, h => by simp at h
  | _ :: _, [], _, _, _, h => by simp at h
  | k :: ks, d :: ds, acc, z, hn, hl => by
    rw [List.nodup_cons] at hn
    have ih := lk_merge ks ds (putK acc (.inr k) d.toV) z hn.2 (by simpa using hl)
    show valV (mergeK (putK acc (.inr k) d.toV) ((ks.zip ds).map fun q => ((Sum.inr q.1 : Key), q.2.toV))) (.inr z) = _
    rw [ih, valV_put]
    have hno : ∀ (ks : List Str) (ds : List PD.D), k ∉ ks → lk k ks ds = none := by
      intro ks
      induction ks with
      | nil => intro ds _; cases ds <;> rfl
      | cons a as ih =>
        intro ds h
        cases ds with
        | nil => rfl
        | cons b bs =>
          simp only [lk]
          rw [if_neg (fun e => h (by simp [e])), ih bs (fun m => h (by simp [m]))]
    by_cases e : k = z
    · subst e
      rw [hno ks ds hn.1]
      simp [lk]
    · simp only [lk]
      rw [if_neg e, if_neg (fun y => e (Sum.inr.inj y).symm)]
theorem noSl {e : Expr} (h : noSlice e = true) : NoSl e := by
  cases e <;> first | exact fun _ _ => rfl | simp [noSlice] at h
theorem s_dret {j : Nat} {ks : List Str} {es : CL} {k : CE} {n n2 : Str} {p1 p2 p3 p4 p5 p6 : Pos} {keys : List (Option Expr)} {vals : List Expr} {key : Expr} (ok : Ok X p s g)
    (h1 : decide (s.N[j]? = some n) = true) (h2 : decide (n2 = n) = true) (h3 : stoB s.sc n = true) (h4 : visB s.sc n = true) (h5 : dbg n = true) (h6 : okKD s ks es keys vals = true) (h7 : okE s k key = true) (h8 : noSlice key = true) :
    PSs X [.Assign [.Name n p1] (.Dict keys vals p2) p3, .Return (some (.Subscript (.Name n2 p4) key p5)) p6] (tS p g.kp ((CSs.dret j ks es k).ev g)) := by
  obtain rfl := of_decide_eq_true h2
  obtain ⟨hl, hf⟩ := ok.sto _ h3
  have pv := pe_var (X := X) (pos := p4) (ok.has h1) (ok.vis _ h4) (dbg1 h5).1 (dbg1 h5).2.1
  obtain ⟨kp1, kp2, kp3, kp4⟩ := kd_pps (pos := p2) ok ks es keys vals h6
  have hu := ok.hu
  by_cases hz : ks.isEmpty = false ∧ ks.length ≤ 15
  case neg =>
    refine ⟨fun pins s σ H D I h => ?_⟩
    obtain ⟨ρ, Z, w, st, q⟩ := h
    simp only [CSs.ev] at q
    split at q
    · rw [if_neg (fun y => ?_)] at q
      · exact q.elim
      · simp only [Bool.and_eq_true, decide_eq_true_eq, Bool.not_eq_true'] at y
        exact hz ⟨y.1.1.1.1.1, y.1.1.1.1.2⟩
    · exact q.elim
  have pdi := pe_disp (X := X) kp1 kp2 (by rw [kp3, kp4]) (by
    intro e
    rw [e] at kp3
    have : ks = [] := by simpa using kp3.symm
    rw [this] at hz
    simp at hz) (by rw [kp3]; exact hz.2)
  have as1 : (assignEach [Expr.Name n2 p1] X.env).map (·.2) = [assign (.Name n2 p1) X.env] := by rw [assign1 rfl]; rfl
  refine PSs.imp (pss_cons (ps_asg pdi (pg_name (by rw [ok.N]; exact ok.nd) (ok.has h1) hl hf) (by show swapsWith (.Dict keys vals p2) (some (.Name n2 p1)) p3.line X.env = pure false; exact plain_swap rfl) (noTT_swap rfl) as1) (pss_cons (ps_ret (pe_dget (by omega) pv (sndE k key X p s g ok h7).v (noSl h8))) pss_nil)) fun D σ H q => ?_
  obtain ⟨ρ, Z, w, st, q⟩ := q
  simp only [CSs.ev] at q
  split at q <;> try exact q.elim
  rename_i r hr
  split at q <;> try exact q.elim
  rename_i hc
  simp only [Bool.and_eq_true, decide_eq_true_eq, Bool.not_eq_true'] at hc
  obtain ⟨⟨⟨⟨⟨c1, c2⟩, c3⟩, c4⟩, c5⟩, c6⟩ := hc
  split at q <;> try exact q.elim
  rename_i z ρ2 hk
  split at q <;> try exact q.elim
  rename_i d hd
  intro pA hp
  have sm : Same H (upd H pA (.dK [])) := fun a o e => by rw [upd_ne (fun y => by rw [y, hp] at e; cases e)]; exact e
  refine kd_tp ks es _ Z w ρ r.1 r.2 _ (st.same sm) hr c3 fun hfl H2 Z2 w2 s2 n2 => ?_
  have e2 : H2 pA = some (.dK []) := n2.keep pA _ upd_same (fun y => y.elim) (.inr (st.nw hp))
  refine ⟨e2, (ks.zip r.1).map fun q => ((Sum.inr q.1 : Key), q.2.toV), by simp [kV], by simp; omega, ?_⟩
  have w2n : w2 pA = none := by
    cases e : w2 pA with
    | none => rfl
    | some i =>
      obtain ⟨⟨xs, y⟩, _⟩ := s2.wok pA (by rw [e]; exact fun x => nomatch x)
      rw [e2] at y
      cases y
  have hjl : j < σ.length := by rw [s2.len]; exact c6
  have s3 : S p.K Z2 (wput w2 j A0) (σ.set j (some (.ref pA))) (r.2.set j none) (upd H2 pA (.dK (mergeK [] ((ks.zip r.1).map fun q => ((Sum.inr q.1 : Key), q.2.toV))))) :=
    (s2.drop (fun i hi => List.getElem?_set_ne (Ne.symm hi)) (by simp)).mutD e2
  refine ⟨.ref pA, List.getElem?_set_self hjl, r.2.set j none, Z2, wput w2 j A0, s3, ?_⟩
  show RP p k.quiet A0 _ Z2 _ _ (k.ev g false (r.2.set j none)) _
  rw [hk]
  intro v H4 Z4 w4 O s4 n4 t4 r4
  cases r4
  have w3n : wput w2 j A0 pA = none := by
    cases e : wput w2 j A0 pA with
    | none => rfl
    | some i =>
      have hh : wput w2 j A0 pA ≠ none := by rw [e]; exact fun x => nomatch x
      rcases wput_own hh with y | y
      · exact absurd w2n y
      · exact y.elim
  have e4 := n4.keep pA _ upd_same (fun y => y.elim) (.inr w3n)
  have g4 := DGet.k (k := .inr z) e4
  rw [lk_merge ks r.1 [] z c4 c3, hd] at g4
  have hdf : d.flat = true := by
    have : ∀ (ks : List Str) (ds : List PD.D), ds.all PD.D.flat = true → lk z ks ds = some d → d.flat = true := by
      intro ks
      induction ks with
      | nil => intro ds _ e; cases ds <;> simp [lk] at e
      | cons a as ih =>
        intro ds ha e
        cases ds with
        | nil => simp [lk] at e
        | cons b bs =>
          simp only [List.all_cons, Bool.and_eq_true] at ha
          simp only [lk] at e
          split at e
          · cases e; exact ha.1
          · exact ih bs ha.2 e
    exact this ks r.1 hfl hd
  refine ⟨pA, d.toV, rfl, g4, ?_⟩
  have old : ∀ a o, H a = some o → w a = none → w2 a = none := fun a o e hw => by
    cases y : w2 a with
    | none => rfl
    | some i =>
      rcases n2.fresh a (by rw [y]; exact fun x => nomatch x) with u | u | u
      · exact absurd hw u
      · rw [sm a o e] at u; cases u
      · exact u.elim
  have wp : ∀ a, w2 a = none → wput w2 j A0 a = none := fun a hw => by
    cases y : wput w2 j A0 a with
    | none => rfl
    | some i =>
      have hh : wput w2 j A0 a ≠ none := by rw [y]; exact fun x => nomatch x
      rcases wput_own hh with u | u
      · exact absurd hw u
      · exact u.elim
  have up0 : ∀ a, upd H pA (.dK []) a = none → H a = none := fun a e => by
    by_cases y : a = pA
    · rw [y]; exact hp
    · rwa [upd_ne y] at e
  have fr : ∀ a, w2 a ≠ none → w a ≠ none ∨ H a = none ∨ A0 a := fun a u => (n2.fresh a u).imp id fun y => y.imp (up0 a) id
  refine q d.toV _ H4 Z4 w4 A0 s4 ⟨fun a o e _ hw => ?_, fun a y => n4.zin a (n2.zin a y), fun a y => ?_, fun a y => ?_⟩ ⟨by simp, fun i hi => ?_⟩ tm0 (rep_flat hdf) (flat_ret hdf)
  · have hw : w a = none := hw.elim (fun y => nomatch y) id
    have na : a ≠ pA := fun y => by rw [y, hp] at e; cases e
    have a2 := n2.keep a o (sm a o e) (fun y => y.elim) (.inr hw)
    exact n4.keep a o (by rw [upd_ne na]; exact a2) (fun y => y.elim) (.inr (wp a (old a o e hw)))
  · rcases n4.znew a y with u | u | u | u
    · rcases n2.znew a u with t | t | t | t
      · exact .inl t
      · exact .inr (.inl t)
      · exact .inr (.inr (.inl (up0 a t)))
      · exact t.elim
    · rcases wput_own u with t | t
      · exact .inr (fr a t)
      · exact t.elim
    · have na : a ≠ pA := fun t => by rw [t, upd_same] at u; cases u
      rw [upd_ne na] at u
      rcases n2.old u with t | t | t
      · exact .inr (.inl t)
      · exact .inr (.inr (.inl (up0 a t)))
      · exact t.elim
    · exact u.elim
  · rcases n4.fresh a y with u | u | u
    · rcases wput_own u with t | t
      · exact fr a t
      · exact t.elim
    · have na : a ≠ pA := fun t => by rw [t, upd_same] at u; cases u
      rw [upd_ne na] at u
      rcases n2.old u with t | t | t
      · exact .inl t
      · exact .inr (.inl (up0 a t))
      · exact t.elim
    · exact u.elim
  · refine List.getElem?_set_ne fun e => ?_
    subst e
    rw [c5] at hi; cases hi
mutual
theorem sndS (ok : Ok X p s g) : ∀ (c : CS) (x : Stmt), okS s c x = true → PS X x (tS p g.kp (c.ev g))
  | .asg t e, x, h => by
    unfold okS at h
    split at h <;> try contradiction
    simp only [Bool.and_eq_true] at h
    exact s_asg ok h.1.1 h.1.2 h.2
  | .set i ix e, x, h => by
    unfold okS at h
    split at h <;> try contradiction
    simp only [Bool.and_eq_true] at h
    obtain ⟨⟨⟨⟨⟨⟨h1, h2⟩, h3⟩, h4⟩, h5⟩, h6⟩, h7⟩ := h
    exact s_set ok h1 h2 h3 h4 h5 h6 h7
  | .par i j a b, x, h => by
    unfold okS at h
    split at h <;> try contradiction
    simp only [Bool.and_eq_true] at h
    exact s_par ok h.1 h.2
  | .aug i neg e, x, h => by
    unfold okS at h
    split at h <;> try contradiction
    simp only [Bool.and_eq_true] at h
    exact s_aug ok h.1.1.1 h.1.1.2 h.1.2 h.2
  | .exp e, x, h => by
    unfold okS at h
    split at h <;> try contradiction
    simp only [Bool.and_eq_true] at h
    refine PS.imp (ps_expr (sndE e _ X p s g ok h.1).v (plain_swap h.2)) fun D σ H q => ?_
    obtain ⟨ρ, Z, w, st, q⟩ := q
    exact ⟨ρ, Z, w, st, RP.seqS Tn.zero q fun d ρ1 v H1 Z1 w1 P1 m1 r1 h1 => h1 σ H1 Z1 w1 m1.s .refl .refl⟩
  | .ret e, x, h => by
    unfold okS at h
    split at h <;> try contradiction
    refine PS.imp (ps_ret (sndE e _ X p s g ok h).v) fun D σ H q => ?_
    obtain ⟨ρ, Z, w, st, q⟩ := q
    refine ⟨ρ, Z, w, st, RP.seqS Tn.zero q fun d ρ1 v H1 Z1 w1 P1 m1 r1 h1 => ?_⟩
    split at h1 <;> try exact h1.elim
    rename_i hr
    exact h1 v σ H1 Z1 w1 P1 m1.s .refl .refl ⟨m1.tn.free, m1.tn.nz, m1.tn.lst, fun a z => .inr (.inr (.inr z))⟩ r1 hr
  | .retN, x, h => by
    unfold okS at h
    split at h <;> try contradiction
    refine PS.imp ps_retN fun D σ H q => ?_
    obtain ⟨ρ, Z, w, st, q⟩ := q
    exact q .non σ H Z w A0 st .refl .refl tm0 .non rfl
  | .ifs c a b, x, h => by
    unfold okS at h
    split at h <;> try contradiction
    simp only [Bool.and_eq_true] at h
    refine PS.imp (ps_if (sndE c _ X p s g ok h.1.1).t (sndSs ok a _ h.1.2) (sndSs ok b _ h.2)) fun D σ H q => ?_
    obtain ⟨ρ, Z, w, st, q⟩ := q
    refine ⟨ρ, Z, w, st, RPT.seqS q Tn.zero fun k ρ1 H1 Z1 w1 m1 h1 => ?_⟩
    have h1 := h1.sub (A2 := A0) fun _ z => z.elim
    cases k with
    | true => exact ⟨ρ1, Z1, w1, m1.s, h1⟩
    | false => exact ⟨ρ1, Z1, w1, m1.s, h1⟩
  | .fors t it b, x, h => by
    unfold okS at h
    split at h <;> try contradiction
    simp only [Bool.and_eq_true] at h
    obtain ⟨⟨⟨h1, h2⟩, h3⟩, h4⟩ := h
    exact PS.imp (ps_for ok.po ok.calm (sndI it _ _ X p s g ok h2) (g_all ok g.kp t _ h1) (sndSs ok b _ h4) (noFold h3)) fun D σ H q => t_for q
  | .whl n c b, x, h => by
    unfold okS at h
    split at h <;> try contradiction
    simp only [Bool.and_eq_true] at h
    exact PS.imp (ps_while ok.po (sndE c _ X p s g ok h.1).t (sndSs ok b _ h.2)) fun D σ H q => t_whl q
  | .brk, x, h => by
    unfold okS at h
    split at h <;> try contradiction
    refine PS.imp ps_break fun D σ H q => ?_
    obtain ⟨ρ, Z, w, st, q⟩ := q
    exact q σ H Z w st .refl .refl
  | .cnt, x, h => by
    unfold okS at h
    split at h <;> try contradiction
    refine PS.imp ps_continue fun D σ H q => ?_
    obtain ⟨ρ, Z, w, st, q⟩ := q
    exact q σ H Z w st .refl .refl
  | .pass, x, h => by
    unfold okS at h
    split at h <;> try contradiction
    refine PS.imp ps_pass fun D σ H q => ?_
    obtain ⟨ρ, Z, w, st, q⟩ := q
    exact q σ H Z w st .refl .refl
  | .wip is, x, h => by simp [okS] at h
  | .par3 i j k a b c, x, h => by
    unfold okS at h
    split at h <;> try contradiction
    simp only [Bool.and_eq_true] at h
    exact ps3 ok h.1 h.2
  | .stk, x, h => PS.imp ps_never fun D σ H q => by
    obtain ⟨ρ, Z, w, st, q⟩ := q
    exact q
theorem sndSs (ok : Ok X p s g) : ∀ (c : CSs) (x : List Stmt), okSs s c x = true → PSs X x (tS p g.kp (c.ev g))
  | .dret j ks es k, x, h => by
    unfold okSs at h
    split at h <;> try contradiction
    simp only [Bool.and_eq_true] at h
    obtain ⟨⟨⟨⟨⟨⟨⟨h1, h2⟩, h3⟩, h4⟩, h5⟩, h6⟩, h7⟩, h8⟩ := h
    exact s_dret ok h1 h2 h3 h4 h5 h6 h7 h8
  | .nil, x, h => by
    unfold okSs at h
    cases x with
    | nil =>
      refine PSs.imp pss_nil fun D σ H q => ?_
      obtain ⟨ρ, Z, w, st, q⟩ := q
      exact q σ H Z w st .refl .refl
    | cons y ys => simp at h
  | .cons c r, x, h => by
    unfold okSs at h
    by_cases hw : c.isWip = true
    · rw [if_pos hw] at h
      refine PSs.imp (sndSs ok r x h) fun D σ H q => ?_
      cases c <;> simp only [CS.isWip] at hw <;> try contradiction
      rename_i is
      obtain ⟨ρ, Z, w, st, q⟩ := q
      obtain ⟨w', s', h'⟩ := st.wipD is
      exact ⟨wipeD ρ is, Z, w', s', RSP.step (q := true) ⟨fun _ _ e _ _ => e, fun _ z => z, fun _ z => .inl z, fun a z => .inl (h' a z)⟩ .refl (show RSP p g.kp D A0 H Z w σ (r.ev g (wipeD ρ is)) from q)⟩
    · rw [if_neg hw] at h
      cases x with
      | nil => simp at h
      | cons y ys =>
        simp only [Bool.and_eq_true] at h
        exact PSs.imp (pss_cons (sndS ok c y h.1) (sndSs ok r ys h.2)) fun D σ H q => t_seq q
end
end
end PD
set_option Elab.async false
set_option linter.all false
set_option maxRecDepth 100000
set_option maxHeartbeats 8000000
/-! PdW: a def of the text keeps the promise that its small-language body comes to. -/
namespace PD
open PySem L2
section
variable {K : PySem.W.Frag} {H : Hp} {Z : AS}
open Classical in
theorem RepL.split : ∀ {ds : List D} {O : AS} {vs : List V}, RepL K H Z O vs ds → ∃ w : Ws, (∀ a, w a ≠ none → O a) ∧ ∀ (i : Nat) d, ds[i]? = some d → ∃ v, vs[i]? = some v ∧ Rep K H Z (fun a => w a = some i) v d
  | [], O, _, .nil => ⟨fun _ => none, fun a h => absurd rfl h, fun i d e => by simp at e⟩
  | d :: ds, O, _, .cons (O1 := O1) (O2 := O2) h1 h2 h3 ra rb => by
    obtain ⟨w, hw, hr⟩ := RepL.split rb
    refine ⟨fun a => if O1 a then some 0 else (w a).map (· + 1), fun a h => ?_, fun i d' e => ?_⟩
    · by_cases z : O1 a
      · exact h1 a z
      · simp only [z, if_false] at h
        exact h2 a (hw a fun y => h (by rw [y]; rfl))
    · cases i with
      | zero =>
        simp at e; subst e
        exact ⟨_, rfl, ra.wide fun a z => by simp [z]⟩
      | succ i =>
        obtain ⟨v, e1, r⟩ := hr i d' (by simpa using e)
        refine ⟨v, by simpa using e1, r.wide fun a z => ?_⟩
        have n1 : ¬ O1 a := fun y => h3 a y (hw a (by rw [z]; exact fun x => nomatch x))
        simp [n1, z]
theorem outs_rep {σ : St} {ρ : Ev} {w : Ws} (st : S K Z w σ ρ H) : ∀ {kp : List Nat} {out : List D}, kp.Nodup → outs kp ρ = some out → RepL K H Z (fun a => ∃ j, j ∈ kp ∧ w a = some j) (kp.map fun j => ((σ[j]?).join).getD .non) out ∧ D.retL out = true ∧ out.length = kp.length
  | [], out, _, h => by
    simp only [outs, List.mapM_nil, Option.pure_def, Option.some.injEq] at h
    subst h
    exact ⟨.nil, rfl, rfl⟩
  | j :: kp, out, nd, h => by
    simp only [outs, List.mapM_cons, Option.bind_eq_bind, Option.pure_def] at h
    simp only [List.nodup_cons] at nd
    cases e : (ρ[j]?).join with
    | none => rw [e] at h; simp at h
    | some d =>
      rw [e] at h
      simp only [Option.bind_some] at h
      cases e2 : kp.mapM (fun j => (ρ[j]?).join) with
      | none => rw [e2] at h; simp at h
      | some rest =>
        rw [e2] at h
        simp only [Option.bind_some, Option.some.injEq] at h
        subst h
        obtain ⟨r1, r2, r3⟩ := outs_rep st (kp := kp) nd.2 e2
        have e3 : ρ[j]? = some (some d) := by
          cases e4 : ρ[j]? with
          | none => rw [e4] at e; cases e
          | some o =>
            rw [e4] at e
            cases o with
            | none => cases e
            | some d' => cases e; rfl
        obtain ⟨g1, v, g2, g3⟩ := st.rep j d e3
        refine ⟨?_, by simp only [D.retL, Bool.and_eq_true]; exact ⟨g1, r2⟩, by simp [r3]⟩
        simp only [List.map_cons]
        have ev : ((σ[j]?).join).getD V.non = v := by rw [g2]; rfl
        rw [ev]
        refine .cons (O1 := fun a => w a = some j) (O2 := fun a => ∃ j', j' ∈ kp ∧ w a = some j') (fun a z => ⟨j, by simp, z⟩) (fun a ⟨j', hj, z⟩ => ⟨j', by simp [hj], z⟩) (fun a z ⟨j', hj, y⟩ => ?_) g3 r1
        rw [z] at y; cases y
        exact nd.1 hj
end
/-- a callee, at a level -/
def Cal (P : Program) (w : World) (K : PySem.W.Frag) (mg : Str → Option Value) (base : Heap) (xc : XcT) (k : Nat) (x : Str) (φ : List D → RF) (fk : List Nat) : Prop :=
  ∃ (f : Addr) (fd : FuncData) (ps : List Str), FnOk P w K mg base (L2.CX P w) k f fd ps (spOf K xc fk φ) ∧ mg x = some (.ref f) ∧ PySem.W.keepIn K (.ref f) = true ∧ Binds K fd ps []
theorem Cal.mono {P : Program} {w : World} {K : PySem.W.Frag} {mg : Str → Option Value} {base : Heap} {xc : XcT} {j k : Nat} {x : Str} {φ : List D → RF} {fk : List Nat} (c : Cal P w K mg base xc j x φ fk) (h : j ≤ k) : Cal P w K mg base xc k x φ fk :=
  let ⟨f, fd, ps, F, m⟩ := c
  ⟨f, fd, ps, F.mono h, m⟩
/-- what the module brings to a def -/
structure Env1 (P : Program) (w : World) (K : PySem.W.Frag) (mg : Str → Option Value) (base : Heap) (xc : XcT) (k : Nat) (s : Sx) (g : Gs) : Prop where
  bn : ∀ x, s.bns.contains x = true → mg x = none
  gcd : s.gcd = true → mg "gcd" = some (.builtin "math.gcd")
  gls : ∀ i x, s.gls[i]? = some x → ∃ d v u, g.gl i = some d ∧ d.fz = true ∧ mg x = some u ∧ RelV v u ∧ ∀ H Z, Rep K H Z A0 v d
  fn : ∀ i x, s.fns[i]? = some x → Cal P w K mg base xc k x (g.fn i) (g.fk i)
section
variable {P : Program} {w : World} {K : PySem.W.Frag} {mg : Str → Option Value} {base : Heap} {xc : XcT} {k : Nat}
/-- the body of a def, its promise kept -/
theorem fn_body {qual : Str} {st : Stmt} {f : Addr} {N ps : List Str} {s : Sx} {g : Gs} {c : CD} (Sc : FnScope N ps (defScope st)) (eN : s.N = N) (es : s.sc = defScope st) (hb : okSs s c.body (defBody st) = true)
    (h1 : c.np = ps.length) (h2 : c.nn = N.length) (h3 : ps.length ≤ N.length) (hk : g.kp.Nodup) (hk2 : ∀ j ∈ g.kp, j < c.np) (E1 : Env1 P w K mg base xc k s g) {cdv : Value} {A : Around} {outer : List Env} {s0 : Shared} {H : Hp} {vs : List V} {Q : VK} {E : XK}
    (hgd : s.gd = true → A.guards = some []) (hr : Room k (A.deeper (PyProof.Rows.envOfC qual (defScope st) s0.heap.objs.size f cdv))) (h : spOf K xc g.kp (c.run g) vs H Q E) :
    ∃ t, PSs (cxOf (L2.CX P w) P w K mg base N qual (defScope st) f cdv A outer s0 H E) (defBody st) t ∧ t { nx := fun _ H' => Q .non H', rt := Q } (L2.start N vs) H := by
  subst eN
  let X := cxOf (L2.CX P w) P w K mg base s.N qual (defScope st) f cdv A outer s0 H E
  let p : Wd := ⟨K, fun cls d _ H => E cls d H, xc⟩
  have ok : Ok X p s g := {
    K := rfl
    calm := rfl
    N := rfl
    nd := Sc.nd
    vis := fun y hy => by rw [es] at hy; exact visB_cases hy
    gl := fun y hy => by rw [es] at hy; exact glB_cases hy
    sto := fun y hy => by rw [es] at hy; exact ⟨stoB_cases hy, .inl rfl⟩
    cf := fun y hy => by rw [es] at hy; exact hy
    lc := fun y hy => by rw [es] at hy; exact hy
    hu := (show (A.deeper (PyProof.Rows.envOfC qual (defScope st) s0.heap.objs.size f cdv)).units + 66 < cLine by have := hr.un; omega)
    bn := E1.bn
    gcd := E1.gcd
    gd := hgd
    gls := E1.gls
    fn := fun i y hy => by
      obtain ⟨f', fd', ps', F', m1, m2, m3⟩ := E1.fn i y hy
      exact ⟨k, f', fd', ps', F', hr, m1, m2, m3⟩
    tk := takes_of rfl rfl rfl rfl
    kind := Sc.kind
    po := passes_of rfl }
  refine ⟨_, sndSs ok c.body _ hb, ?_⟩
  obtain ⟨ds, Z, O, r, hret, hO, hZ, h⟩ := h
  unfold CD.run at h
  by_cases e : ds.length = c.np
  · rw [if_pos e] at h
    obtain ⟨w0, hw0, hr0⟩ := r.split
    have lv : vs.length = ds.length := r.len
    have s0' : S K Z w0 (start s.N vs) (ds.map some ++ List.replicate (c.nn - c.np) none) H := by
      refine ⟨?_, fun i d hd => ?_, hZ, fun a z => hO a (hw0 a z)⟩
      · unfold L2.start
        simp only [List.length_append, List.length_map, List.length_replicate]
        omega
      · by_cases hi : i < ds.length
        · rw [List.getElem?_append_left (by simpa using hi)] at hd
          have e0 : ds[i]? = some d := by
            rw [List.getElem?_map] at hd
            cases e1 : ds[i]? with
            | none => rw [e1] at hd; cases hd
            | some d' => rw [e1] at hd; cases hd; rfl
          obtain ⟨v, g2, g3⟩ := hr0 i d e0
          refine ⟨retL_get hret e0, v, ?_, g3⟩
          unfold L2.start
          rw [List.getElem?_append_left (by simp; omega), List.getElem?_map, g2]
          rfl
        · rw [List.getElem?_append_right (by simp; omega)] at hd
          simp only [List.getElem?_replicate] at hd
          split at hd <;> cases hd
    refine ⟨_, Z, w0, s0', ?_⟩
    have kept : ∀ {σ' : St}, Kps g.kp (start s.N vs) σ' → (g.kp.map fun j => ((σ'[j]?).join).getD V.non) = g.kp.map fun j => vs.getD j .non := fun {σ'} kk => by
      refine List.map_congr_left fun j hj => ?_
      rw [kk.kept j (by simpa using hj)]
      have hj2 : j < vs.length := by rw [lv, e]; exact hk2 j hj
      unfold L2.start
      rw [List.getElem?_append_left (by simpa using hj2), List.getElem?_map, List.getElem?_eq_getElem hj2, List.getD_eq_getElem?_getD, List.getElem?_eq_getElem hj2]
      rfl
    have nO : ∀ a, ¬ O a → w0 a = none := fun a z => by
      cases e1 : w0 a with
      | none => rfl
      | some i => exact absurd (hw0 a (by rw [e1]; exact fun y => nomatch y)) z
    -- the way out with a value
    have fin : ∀ (d : D) (ρ' : Ev) (v : V) (σ' : St) (H' : Hp) (Z' : AS) (w' : Ws) (O' : AS), S K Z' w' σ' ρ' H' → Nx false A0 H Z w0 H' Z' w' → Kps g.kp (start s.N vs) σ' → Tm false A0 H w0 H' Z' w' O' → Rep K H' Z' O' v d → d.ret = true →
        (match (match outs g.kp ρ' with | some out => RF.ok d out | none => RF.stuck) with
          | .ok d out => ∀ v us H' Z' O1 O2, Rep K H' Z' O1 v d → RepL K H' Z' O2 us out → d.ret = true → D.retL out = true → us = g.kp.map (fun i => vs.getD i .non) → out.length = g.kp.length → (∀ a, O1 a → ¬ O2 a) →
              (∀ a, O1 a ∨ O2 a → (O a ∨ H a = none) ∧ (∃ xs, H' a = some (.lst xs)) ∧ ¬ Z' a) → (∀ a, Z' a → ∃ xs, H' a = some (.lst xs)) →
              (∀ a o, H a = some o → ¬ O a → H' a = some o) → (∀ a, Z a → Z' a) → (∀ a, Z' a → Z a ∨ O a ∨ H a = none) → Q v H'
          | .exc c fs => ∀ (cls : Value) (dx : Option Addr) (H' : Hp) (Z' : AS), xc c fs cls dx H' → (∀ a, Z' a → ∃ xs, H' a = some (.lst xs)) → (∀ a o, H a = some o → ¬ O a → H' a = some o) → (∀ a, Z a → Z' a) → (∀ a, Z' a → Z a ∨ O a ∨ H a = none) → E cls dx H'
          | .stuck => False) → Q v H' := fun d ρ' v σ' H' Z' w' O' s' n kk tm rv hd hh => by
      cases e1 : outs g.kp ρ' with
      | none => rw [e1] at hh; exact hh.elim
      | some out =>
        rw [e1] at hh
        obtain ⟨r1, r2, r3⟩ := outs_rep s' hk e1
        rw [kept kk] at r1
        have wO : ∀ a, w0 a ≠ none → O a := hw0
        refine hh v _ H' Z' O' _ rv r1 hd r2 rfl r3 (fun a z ⟨j, hj, y⟩ => ?_) (fun a z => ?_) s'.zok (fun a o ho no => n.keep a o ho id (.inr (nO a no))) n.zin (fun a z => ?_)
        · rw [tm.free a z] at y; cases y
        · rcases z with z | ⟨j, hj, y⟩
          · refine ⟨?_, tm.lst a z, tm.nz a z⟩
            rcases tm.new a z with x | x | x
            · exact .inl (wO a x.2)
            · exact .inr x
            · exact x.elim
          · have hn : w' a ≠ none := by rw [y]; exact fun x => nomatch x
            refine ⟨?_, s'.wok a hn⟩
            rcases n.fresh a hn with x | x | x
            · exact .inl (wO a x)
            · exact .inr x
            · exact x.elim
        · rcases n.znew a z with y | y | y | y
          · exact .inl y
          · exact .inr (.inl (wO a y))
          · exact .inr (.inr y)
          · exact y.elim
    cases e2 : c.body.ev g (ds.map some ++ List.replicate (c.nn - c.np) none) with
    | ret d ρ' =>
      rw [e2] at h
      exact fun v σ' H' Z' w' O' s' n kk tm rv hd => fin d ρ' v σ' H' Z' w' O' s' n kk tm rv hd h
    | nx ρ' =>
      rw [e2] at h
      exact fun σ' H' Z' w' s' n kk => fin .non ρ' .non σ' H' Z' w' A0 s' n kk tm0 .non rfl h
    | exc cc fs ρ' =>
      rw [e2] at h
      intro cls dx σ' H' Z' w' hx s' n kk
      refine h cls dx H' Z' hx s'.zok (fun a o ho no => n.keep a o ho id (.inr (nO a no))) n.zin fun a z => ?_
      rcases n.znew a z with y | y | y | y
      · exact .inl y
      · exact .inr (.inl (hw0 a y))
      · exact .inr (.inr y)
      · exact y.elim
    | brk ρ' => rw [e2] at h; exact h.elim
    | cnt ρ' => rw [e2] at h; exact h.elim
    | stuck => rw [e2] at h; exact h.elim
  · rw [if_neg e] at h
    exact h.elim
theorem sp_len {ps : List Str} {g : Gs} {c : CD} (h1 : c.np = ps.length) {vs : List V} {H : Hp} {Q : VK} {E : XK} (h : spOf K xc g.kp (c.run g) vs H Q E) : vs.length = ps.length := by
  obtain ⟨ds, Z, O, r, _, _, _, h⟩ := h
  rw [r.len, ← h1]
  unfold CD.run at h
  by_cases e : ds.length = c.np
  · exact e
  · rw [if_neg e] at h
    exact h.elim
theorem fn_run {x qual : Str} {st : Stmt} {f : Addr} {fd : FuncData} {N ps : List Str} {s : Sx} {g : Gs} {c : CD} (F : Fun K x qual st f fd) (Sc : FnScope N ps (defScope st)) (eN : s.N = N) (es : s.sc = defScope st) (hb : okSs s c.body (defBody st) = true)
    (h1 : c.np = ps.length) (h2 : c.nn = N.length) (h3 : ps.length ≤ N.length) (hk : g.kp.Nodup) (hk2 : ∀ j ∈ g.kp, j < c.np) (hg : s.gd = false) (E1 : Env1 P w K mg base xc k s g) : FnOk P w K mg base (L2.CX P w) (k + 1) f fd ps (spOf K xc g.kp (c.run g)) :=
  F.okX Sc (fun vs H Q E h => sp_len h1 h) fun cdv A outer s0 H vs Q E hr h => fn_body Sc eN es hb h1 h2 h3 hk hk2 E1 (fun z => by rw [hg] at z; cases z) hr h
/-- a def's promise where nothing is being shown (repr) around -/
structure FnG (P : Program) (w : World) (K : PySem.W.Frag) (mg : Str → Option Value) (base : Heap) (k : Nat) (f : Addr) (fd : FuncData) (ps : List Str) (sp : Sp) : Prop where
  run : ∀ (Ar : Around) (oe : List Env) (sh : Shared) (Hh : Hp) (ar : Args) (uu : List Value) (vv : List V) (Qq : VK) (Ee : XK), Ar.guards = some [] → Room k Ar → Env0 P w K mg base Ar oe sh Hh → BindsTo sh fd ar (ps.zip uu) → Vals vv uu → sp vv Hh Qq Ee →
    codeAny (model P w) Ar (.call (.ref f) ar) (CR (L2.CX P w) oe P w Hh sh Qq Ee) sh
theorem fnG_run {x qual : Str} {st : Stmt} {f : Addr} {fd : FuncData} {N ps : List Str} {s : Sx} {g : Gs} {c : CD} (F : Fun K x qual st f fd) (Sc : FnScope N ps (defScope st)) (eN : s.N = N) (es : s.sc = defScope st) (hb : okSs s c.body (defBody st) = true)
    (h1 : c.np = ps.length) (h2 : c.nn = N.length) (h3 : ps.length ≤ N.length) (hk : g.kp.Nodup) (hk2 : ∀ j ∈ g.kp, j < c.np) (E1 : Env1 P w K mg base xc k s g) : FnG P w K mg base (k + 1) f fd ps (spOf K xc g.kp (c.run g)) := by
  obtain ⟨oc, od, kV, doc, pm, an, cdv, ct, osl, rfl, lk, hcd⟩ := F.ex
  refine ⟨fun Ar oe sh Hh ar uu vv Qq Ee hgu hrm en bt rv hp => ?_⟩
  have inK : K.In sh.heap := en.mod.kin.keeps fun b o q => (en.bs b o q).1
  have noL : sh.heap.NoLimit := en.mod.nolimit.keeps fun b o q => (en.bs b o q).1
  refine codeAny_call_function hrm.depth (inK _ _ lk) rfl Sc.co Sc.gen rfl (PySem.W.codeRec_of inK hcd) (bt _ _ _ _ (wpAny_newFunctionEnv_cells Sc.kind (fun y hy => ?_) fun ev hev sh1 inx => ?_))
  · rcases Sc.par y.1 (List.of_mem_zip hy).1 with z | z
    · exact .inl z
    · exact .inr ⟨z, PySem.W.cellsFrom_some _ _ _ (.inl z)⟩
  subst hev
  obtain ⟨t, ht, hq⟩ := fn_body (cdv := cdv) (A := Ar) (outer := oe) (s0 := sh) (f := f) (qual := qual) Sc eN es hb h1 h2 h3 hk hk2 E1 (fun _ => hgu) (hrm.deeper _) hp
  have I0 := inv_start (CX := L2.CX P w) (E := Ee) Sc hrm.hd en (sp_len h1 hp) rv inx
  refine ⟨noL.keeps inx.toInCall.keep, codeAny_func (wpAny_mono (ht.run [] sh1 (L2.start N vv) Hh _ I0 hq) (fun fl sh2 hs => ?_) fun _ _ hs => hs)⟩
  cases fl with
  | ret u => exact let ⟨v, _, H', J, rr, q⟩ := hs; ⟨v, H', J.os, J.bare, J.base, J.hok, rr, q⟩
  | next => exact let ⟨_, H', J, q⟩ := hs; ⟨V.non, H', J.os, J.bare, J.base, J.hok, rfl, q⟩
  | brk => exact let ⟨_, _, _, q⟩ := hs; False.elim q
  | cont => exact let ⟨_, _, _, q⟩ := hs; False.elim q
end
end PD
set_option Elab.async false
set_option linter.all false
set_option maxRecDepth 100000
set_option maxHeartbeats 8000000
/-! PdX: the end of a law's row. -/
namespace PD
open PySem L2
section
variable {P : Program} {w : World} {K : PySem.W.Frag} {mg : Str → Option Value} {base : Heap} {xc : XcT} {k : Nat}
/-- the script at a: tracked, unless it is the module's own -/
def scrH (K : PySem.W.Frag) (a : Addr) (vs : List Value) (ns : List Int) : Hp := fun b => if b = a ∧ K.lookup a = none then some (.frz { cls := .type "list", data := .seq vs.toArray } (.lst (ns.map V.int))) else none
theorem scrH_some {K : PySem.W.Frag} {a b : Addr} {vs : List Value} {ns : List Int} {u : HO} (h : scrH K a vs ns b = some u) : b = a ∧ K.lookup a = none ∧ u = .frz { cls := .type "list", data := .seq vs.toArray } (.lst (ns.map V.int)) := by
  unfold scrH at h
  split at h
  · rename_i hc
    exact ⟨hc.1, hc.2, (Option.some.inj h).symm⟩
  · cases h
/-- the law's call, where nothing is being shown around it -/
theorem goG {P : Program} {w : World} {K : PySem.W.Frag} {mg mb : Str → Option Value} {k : Nat} {fa a : Addr} {fd : FuncData} {x : Str} {sp : Sp} {s1 : Shared} {vs : List Value} {ns : List Int} (inK : K.In s1.heap) (hn : s1.heap.Ns mainGlobals mg) (hb : s1.heap.Ns builtinsNs mb)
    (hbb : ∀ y : Str, y ≠ "__name__" → mb y = bootBuiltins y) (noL : s1.heap.NoLimit) (hg : s1.gens = #[]) (ha : s1.heap.get? a = some { cls := .type "list", data := .seq vs.toArray }) (hi : PyProof.Rows.IntsAre vs ns) (hl : ns.length ≤ sizeLine) (hr : Room k callerA)
    (F : ∀ base : Heap, K.In base → base.Ns mainGlobals mg → FnG P w K mg base k fa fd [x] sp) (bt : ∀ (s : Shared) (u : Value), BindsTo s fd ⟨[u], []⟩ [(x, u)])
    (hsp : ∀ H : Hp, Only H → SqL K H a (ns.map V.int) → sp [.ref a] H (fun v _ => v = .bl true) fun _ _ _ => False) (hx : ∀ H e s', L2.CX P w [] H s1 (fun _ _ _ => False) e s' → False) :
    codeAny (model P w) callerA (.call (.ref fa) ⟨[.ref a], []⟩) (fun r s' => r = .ok (.ret (.bool true)) ∧ OldK s1.heap s'.heap ∧ s'.os = s1.os ∧ PyProof.Rows.AllBare s'.gens) s1 := by
  have rv := L2.vals_ints hi
  have lv := hi.length
  let H := scrH K a vs ns
  have only : Only H := fun b => by
    cases e : H b with
    | none => exact .inl rfl
    | some u => exact .inr ⟨_, _, by rw [(scrH_some e).2.2]⟩
  have stands : SqL K H a (ns.map V.int) := by
    cases e : K.lookup a with
    | none => exact .inl (.inr ⟨_, if_pos ⟨rfl, e⟩⟩)
    | some o =>
      have e2 := inK a o e
      rw [ha] at e2; cases e2
      exact .inr ⟨_, vs.toArray, _, e, rfl, rfl, rfl, by rw [List.size_toArray, lv]; exact hl, by simpa using rv⟩
  have hok : HOk P w H s1.heap := fun b u e => by
    obtain ⟨rfl, _, rfl⟩ := scrH_some e
    exact ⟨ha, by rw [List.length_map]; exact hl, vs, _, rv, ha⟩
  have up : ∀ {b : Addr} {o : Obj}, s1.heap.get? b = some o → H b = none → (hidT s1.heap H).get? b = some o := fun e n => hidT_get e n
  have upNs : ∀ {b : Addr} {m : Str → Option Value}, s1.heap.Ns b m → (hidT s1.heap H).Ns b m := fun {b m} ⟨o, es, ep, e, d, r⟩ => ⟨o, es, ep, up e (by
    cases q : H b with
    | none => rfl
    | some u =>
      obtain ⟨rfl, _, _⟩ := scrH_some q
      rw [ha] at e; cases e
      have d' : Data.seq vs.toArray _ = Data.dict es ep := d
      cases d'), d, r⟩
  have upK : K.In (hidT s1.heap H) := fun b o e => up (inK b o e) (by
    cases q : H b with
    | none => rfl
    | some u =>
      obtain ⟨rfl, z, _⟩ := scrH_some q
      rw [z] at e; cases e)
  have md : Mod K mg (hidT s1.heap H) := ⟨upK, upNs hn, ⟨mb, upNs hb, hbb⟩, let ⟨mc, z1, z2⟩ := noL; ⟨mc, upNs z1, z2⟩⟩
  have en : Env0 P w K mg (hidT s1.heap H) callerA [] s1 H := ⟨rfl, md, fun b o e => of_hidT e, Nat.le_of_eq (hidT_size _ _), trivial, fun b z => absurd (show b ∈ ([] : List Addr) from z) (by simp), hok, .of_eq hg⟩
  refine codeAny_mono ((F _ upK (upNs hn)).run callerA [] s1 H ⟨[.ref a], []⟩ [.ref a] [.ref a] _ _ rfl hr en (bt s1 (.ref a)) (.cons rfl .nil) (hsp H only stands)) fun r s' h => ?_
  cases r with
  | error e => exact (hx H e s' h).elim
  | ok fl =>
    cases fl with
    | ret u =>
      obtain ⟨v, H', os, bare, un, hok', rr, q⟩ := h
      obtain rfl : v = .bl true := q
      obtain rfl : u = Value.bool true := rr
      refine ⟨rfl, OldK.of_keep fun b o e => ?_, os, bare⟩
      cases q : H b with
      | none => exact un.keep b o e q (by intro z; exact absurd (show b ∈ ([] : List Addr) from z) (by simp)) (by simp)
      | some u =>
        obtain ⟨rfl, _, rfl⟩ := scrH_some q
        have z2 := un.frzs _ _ _ q
        obtain ⟨e1, _⟩ := hok _ _ q
        obtain ⟨e2, _⟩ := hok' _ _ z2
        rw [e] at e1; cases e1
        exact e2
    | next => exact False.elim h
    | brk => exact False.elim h
    | cont => exact False.elim h
theorem walkG {l : PySem.W.OpenLaw} {n k : Nat} {q : Program} {loose : List Str} {XP : (Str → Option Value) → Heap → Prop} {YP : World → Heap → Prop} {d : DefRec} {K : Params → PySem.W.Frag} {sp : World → Sp} {x : Str} (hn : l.most = some n) (hn2 : n ≤ sizeLine) (hdf : d.params.defaults = []) (hr : Room k callerA)
    (hY : ∀ (w : World) (h : Heap), YP w h → (K w.params).In h)
    (F : ∀ (w : World) (mg : Str → Option Value) (fa : Addr) (h : Heap), (K w.params).In h → h.Ns mainGlobals mg → mg d.name = some (.ref fa) → ∃ fd : FuncData, (∀ (s : Shared) (u : Value), BindsTo s fd ⟨[u], []⟩ [(x, u)]) ∧ ∀ base : Heap, (K w.params).In base → base.Ns mainGlobals mg → FnG l.prog w (K w.params) mg base k fa fd [x] (sp w))
    (hsp : ∀ (w : World) (H : Hp) (a : Addr) (ns : List Int), ns.length ≤ n → (∀ k ∈ ns, Builtin.Int.intBits k ≤ 1048576) → Only H → SqL (K w.params) H a (ns.map V.int) → sp w [.ref a] H (fun v _ => v = .bl true) fun _ _ _ => False)
    (hx : ∀ (w : World) (H : Hp) (s : Shared) (e : Value) (s' : Shared), L2.CX l.prog w [] H s (fun _ _ _ => False) e s' → False) : PySem.W.WalkO q loose XP YP l.row.toRowW d [] (fun f vs => PySem.call f vs) := by
  refine Att.attach_callB hn hdf fun w s0 s1 mg mb fa o pm cd doc a vs ns G Y ho hd hcd hmg hobj hints hlen hbits hg => ?_
  have inK := hY w _ Y
  obtain ⟨fd, hb, hF⟩ := F w mg fa _ inK G.T.g hmg
  exact goG inK G.T.g G.T.b G.T.builtins G.T.nolimit hg hobj hints (Nat.le_trans hlen hn2) hr hF hb (fun H hO hS => hsp w H a ns hlen hbits hO hS) fun H e s' => hx w H s1 e s'
theorem cal_mk {x qual : Str} {st : Stmt} {f : Addr} {fd : FuncData} {N ps : List Str} {s : Sx} {g : Gs} {c : CD} (F : Fun K x qual st f fd) (hm : mg x = some (.ref f)) (hbi : Binds K fd ps []) (Sc : FnScope N ps (defScope st)) (eN : s.N = N) (es : s.sc = defScope st) (hb : okSs s c.body (defBody st) = true)
    (h1 : c.np = ps.length) (h2 : c.nn = N.length) (h3 : ps.length ≤ N.length) (hk : g.kp.Nodup) (hk2 : ∀ j ∈ g.kp, j < c.np) (hg : s.gd = false) (E1 : Env1 P w K mg base xc k s g) : Cal P w K mg base xc (k + 1) x (c.run g) g.kp :=
  ⟨f, fd, ps, fn_run F Sc eN es hb h1 h2 h3 hk hk2 hg E1, hm, F.kp, hbi⟩
/-- the law's promise from the plain law -/
theorem law_sp1 {φ : List D → RF} {ns : List Int} (hφ : φ [.lst .frz (ns.map D.int)] = .ok (.bl true) []) (H : Hp) (a : Addr) (hO : Only H) (hS : SqL K H a (ns.map V.int)) :
    spOf K xc [] φ [.ref a] H (fun v _ => v = .bl true) fun _ _ _ => False := by
  have fz : ∀ l : List Int, D.fzL (l.map D.int) = true := fun l => by
    induction l with
    | nil => rfl
    | cons x l ih => simp only [List.map_cons, D.fzL, Bool.and_eq_true]; exact ⟨rfl, ih⟩
  have rl : ∀ l : List Int, RepL K H (fun _ => False) A0 (l.map V.int) (l.map D.int) := fun l => by
    induction l with
    | nil => exact .nil
    | cons x l ih => exact .cons (O1 := A0) (O2 := A0) (fun _ z => z) (fun _ z => z) (fun _ z => z.elim) .int ih
  have sf : SqF K H (fun _ => False) a (ns.map V.int) := by
    rcases hS with (h | h) | h
    · rcases hO a with z | ⟨o, xs, z⟩
      · rw [z] at h; cases h
      · rw [z] at h; cases h
    · exact .inr (.inl h)
    · exact .inr (.inr h)
  refine ⟨[.lst .frz (ns.map D.int)], fun _ => False, A0, .cons (O1 := A0) (O2 := A0) (fun _ z => z) (fun _ z => z) (fun _ z => z.elim) (.frz sf (rl ns) (fz ns)) .nil, ?_, fun _ z => z.elim, fun _ z => z.elim, ?_⟩
  · simp only [D.retL, D.ret, fz ns, Bool.and_self]
  · rw [hφ]
    intro v us H' Z' O1 O2 r _ _ _ _ _ _ _ _ _ _ _
    cases r
    rfl
theorem no_CX {P : Program} {w : World} (H : Hp) (s : Shared) (e : Value) (s' : Shared) (h : L2.CX P w [] H s (fun _ _ _ => False) e s') : False := by
  obtain ⟨_, _, _, _, _, _, _, _, _, _, _, _, z⟩ := h
  exact z
/-- an int constant of the module -/
theorem gl_int {x : Str} {i : Int} {t : Tok} (h : mg x = some (.int i t)) : ∃ d v u, (some (D.int i)) = some d ∧ d.fz = true ∧ mg x = some u ∧ RelV v u ∧ ∀ H Z, Rep K H Z A0 v d :=
  ⟨_, .int i, _, rfl, rfl, h, ⟨t, rfl⟩, fun _ _ => .int⟩
theorem gl_str {x : Str} {i : Str} {t : Tok} (h : mg x = some (.str i t)) : ∃ d v u, (some (D.str i)) = some d ∧ d.fz = true ∧ mg x = some u ∧ RelV v u ∧ ∀ H Z, Rep K H Z A0 v d :=
  ⟨_, .str i, _, rfl, rfl, h, ⟨t, rfl⟩, fun _ _ => .str⟩
end
/-! constants of the module that are tuples of flat values -/
inductive KFl : Value → D → Prop
  | non : KFl .none .non
  | bl {b : Bool} : KFl (.bool b) (.bl b)
  | int {i : Int} {t : Tok} : KFl (.int i t) (.int i)
  | str {i : Str} {t : Tok} : KFl (.str i t) (.str i)
inductive KFlL : List Value → List D → Prop
  | nil : KFlL [] []
  | cons {v : Value} {vs : List Value} {d : D} {ds : List D} : KFl v d → KFlL vs ds → KFlL (v :: vs) (d :: ds)
theorem KFl.rel {u : Value} {d : D} (h : KFl u d) : RelV d.toV u ∧ d.fz = true ∧ ∀ (K : PySem.W.Frag) (H : Hp) (Z : AS), Rep K H Z A0 d.toV d := by
  cases h with
  | non => exact ⟨rfl, rfl, fun _ _ _ => .non⟩
  | bl => exact ⟨rfl, rfl, fun _ _ _ => .bl⟩
  | int => exact ⟨⟨_, rfl⟩, rfl, fun _ _ _ => .int⟩
  | str => exact ⟨⟨_, rfl⟩, rfl, fun _ _ _ => .str⟩
theorem KFlL.rel : ∀ {us : List Value} {ds : List D}, KFlL us ds → Vals (ds.map D.toV) us ∧ D.fzL ds = true ∧ ∀ (K : PySem.W.Frag) (H : Hp) (Z : AS), RepL K H Z A0 (ds.map D.toV) ds
  | _, _, .nil => ⟨.nil, rfl, fun _ _ _ => .nil⟩
  | _, _, .cons h t => by
    obtain ⟨a1, a2, a3⟩ := h.rel
    obtain ⟨b1, b2, b3⟩ := KFlL.rel t
    exact ⟨.cons a1 b1, by simp only [D.fzL, a2, b2, Bool.and_self], fun K H Z => .cons (O1 := A0) (O2 := A0) (fun _ z => z) (fun _ z => z) (fun _ z => z.elim) (a3 K H Z) (b3 K H Z)⟩
theorem gl_tup {K : PySem.W.Frag} {mg : Str → Option Value} {x : Str} {a : Addr} {od : Option Addr} {its : Array Value} {n : Nat} {sl : Array (Option Value)} {ds : List D} (h : mg x = some (.ref a)) (l : K.lookup a = some ⟨.type "tuple", od, .seq its n, sl⟩) (hs : its.size ≤ sizeLine) (r : KFlL its.toList ds) :
    ∃ d v u, (some (D.tup ds)) = some d ∧ d.fz = true ∧ mg x = some u ∧ RelV v u ∧ ∀ H Z, Rep K H Z A0 v d := by
  obtain ⟨a1, a2, a3⟩ := r.rel
  exact ⟨_, .ref a, _, rfl, by simpa only [D.fz] using a2, h, rfl, fun H Z => .tup (.inr ⟨_, its, n, l, rfl, rfl, hs, a1⟩) (a3 K H Z)⟩
end PD
set_option Elab.async false
set_option linter.all false
set_option maxRecDepth 100000
set_option maxHeartbeats 8000000
/-! PdY: reckoning with the evaluator, by instances. -/
namespace PD
open PySem L2
/-! ### slots -/
class Sl (ρ : Ev) (i : Nat) (v : Option D) (ρ' : outParam Ev) : Prop where
  h : ρ.set i v = ρ'
  lt : i < ρ.length
instance Sl.z {a v : Option D} {ρ : Ev} : Sl (a :: ρ) 0 v (v :: ρ) := ⟨rfl, by simp⟩
instance Sl.s {a v : Option D} {i : Nat} {ρ ρ' : Ev} [h : Sl ρ i v ρ'] : Sl (a :: ρ) (i + 1) v (a :: ρ') := ⟨by simp [h.h], by simp [h.lt]⟩
class Gt (ρ : Ev) (i : Nat) (d : outParam D) : Prop where
  h : ρ[i]? = some (some d)
instance Gt.z {d : D} {ρ : Ev} : Gt (some d :: ρ) 0 d := ⟨rfl⟩
instance Gt.s {a : Option D} {d : D} {i : Nat} {ρ : Ev} [h : Gt ρ i d] : Gt (a :: ρ) (i + 1) d := ⟨by simpa using h.h⟩
/-! ### who owns what -/
class Fzn (d : D) : Prop where
  h : d.fz = true
class FznL (ds : List D) : Prop where
  h : D.fzL ds = true
class Rt (d : D) : Prop where
  h : d.ret = true
class RtL (ds : List D) : Prop where
  h : D.retL ds = true
instance {i : Int} : Fzn (.int i) := ⟨rfl⟩
instance {i : Bool} : Fzn (.bl i) := ⟨rfl⟩
instance {i : Str} : Fzn (.str i) := ⟨rfl⟩
instance : Fzn .non := ⟨rfl⟩
instance {ds : List D} [h : FznL ds] : Fzn (.tup ds) := ⟨by simpa [D.fz] using h.h⟩
instance {ds : List D} [h : FznL ds] : Fzn (.lst .frz ds) := ⟨by simpa [D.fz] using h.h⟩
instance : FznL [] := ⟨rfl⟩
instance {d : D} {ds : List D} [h : Fzn d] [h2 : FznL ds] : FznL (d :: ds) := ⟨by simp [D.fzL, h.h, h2.h]⟩
theorem fzL_map {α : Type} (f : α → D) (h : ∀ a, (f a).fz = true) : ∀ xs : List α, D.fzL (xs.map f) = true
  | [] => rfl
  | x :: xs => by simp [D.fzL, h x, fzL_map f h xs]
theorem retL_map {α : Type} (f : α → D) (h : ∀ a, (f a).ret = true) : ∀ xs : List α, D.retL (xs.map f) = true
  | [] => rfl
  | x :: xs => by simp [D.retL, h x, retL_map f h xs]
instance {ns : List Int} : FznL (ns.map D.int) := ⟨fzL_map _ (fun _ => rfl) _⟩
instance {α : Type} {f : α → D} {ns : List α} [h : ∀ a, Fzn (f a)] : FznL (ns.map f) := ⟨fzL_map _ (fun a => (h a).h) _⟩
instance {i : Int} : Rt (.int i) := ⟨rfl⟩
instance {i : Bool} : Rt (.bl i) := ⟨rfl⟩
instance {i : Str} : Rt (.str i) := ⟨rfl⟩
instance : Rt .non := ⟨rfl⟩
instance {ds : List D} [h : RtL ds] : Rt (.tup ds) := ⟨by simpa [D.ret] using h.h⟩
instance {ds : List D} [h : FznL ds] : Rt (.lst .frz ds) := ⟨by simpa [D.ret] using h.h⟩
instance {ds : List D} [h : RtL ds] : Rt (.lst .own ds) := ⟨by simpa [D.ret] using h.h⟩
instance : RtL [] := ⟨rfl⟩
instance {d : D} {ds : List D} [h : Rt d] [h2 : RtL ds] : RtL (d :: ds) := ⟨by simp [D.retL, h.h, h2.h]⟩
instance {ns : List Int} : RtL (ns.map D.int) := ⟨retL_map _ (fun _ => rfl) _⟩
instance {α : Type} {f : α → D} {ns : List α} [h : ∀ a, Rt (f a)] : RtL (ns.map f) := ⟨retL_map _ (fun a => (h a).h) _⟩
theorem y_retL_get {ds : List D} (h : D.retL ds = true) {i : Nat} {d : D} (e : ds[i]? = some d) : d.ret = true := by
  induction ds generalizing i with
  | nil => simp at e
  | cons x xs ih =>
    simp only [D.retL, Bool.and_eq_true] at h
    cases i with
    | zero => simp at e; rw [← e]; exact h.1
    | succ i => exact ih h.2 (by simpa using e)
theorem y_retL_append {xs ys : List D} (h : D.retL xs = true) (h2 : D.retL ys = true) : D.retL (xs ++ ys) = true := by
  induction xs with
  | nil => simpa using h2
  | cons x xs ih =>
    simp only [D.retL, Bool.and_eq_true] at h
    simp [D.retL, h.1, ih h.2]
theorem fzL_append {xs ys : List D} (h : D.fzL xs = true) (h2 : D.fzL ys = true) : D.fzL (xs ++ ys) = true := by
  induction xs with
  | nil => simpa using h2
  | cons x xs ih =>
    simp only [D.fzL, Bool.and_eq_true] at h
    simp [D.fzL, h.1, ih h.2]
instance {xs ys : List D} [h : RtL xs] [h2 : RtL ys] : RtL (xs ++ ys) := ⟨y_retL_append h.h h2.h⟩
instance {xs ys : List D} [h : FznL xs] [h2 : FznL ys] : FznL (xs ++ ys) := ⟨fzL_append h.h h2.h⟩
mutual
theorem y_fz_ret : ∀ d : D, d.fz = true → d.ret = true
  | .tup ds, h => by simp only [D.fz] at h; simp only [D.ret]; exact y_fzL_ret ds h
  | .lst o ds, h => by
    cases o with
    | frz => simpa only [D.fz, D.ret] using h
    | own => simp [D.fz] at h
    | brw => simp [D.fz] at h
  | .non, _ => rfl
  | .bl _, _ => rfl
  | .int _, _ => rfl
  | .str _, _ => rfl
theorem y_fzL_ret : ∀ ds : List D, D.fzL ds = true → D.retL ds = true
  | [], _ => rfl
  | d :: ds, h => by
    simp only [D.fzL, Bool.and_eq_true] at h
    simp [D.retL, y_fz_ret d h.1, y_fzL_ret ds h.2]
end
instance (priority := low) {d : D} [h : Fzn d] : Rt d := ⟨y_fz_ret d h.h⟩
instance (priority := low) {d : List D} [h : FznL d] : RtL d := ⟨y_fzL_ret d h.h⟩
/-- an item, by a place within -/
def atD (ds : List D) (i : Int) : D := (ds[i.toNat]?).getD .non
instance {ds : List D} {i : Int} [h : RtL ds] : Rt (atD ds i) := ⟨by
  unfold atD
  cases e : ds[i.toNat]? with
  | none => rfl
  | some d => exact y_retL_get h.h e⟩
/-! ### frozen and borrowed -/
class Fz (d : D) (d' : outParam D) : Prop where
  h : d.freeze = d'
class FzL (ds : List D) (ds' : outParam (List D)) : Prop where
  h : D.freezeL ds = ds'
class Bw (d : D) (d' : outParam D) : Prop where
  h : d.borrow = d'
class BwL (ds : List D) (ds' : outParam (List D)) : Prop where
  h : D.borrowL ds = ds'
mutual
theorem y_freeze : ∀ d : D, d.fz = true → d.freeze = d
  | .tup ds, h => by simp only [D.fz] at h; simp [D.freeze, y_freezeL ds h]
  | .lst o ds, h => by
    cases o with
    | frz => simp only [D.fz] at h; simp [D.freeze, y_freezeL ds h]
    | own => simp [D.fz] at h
    | brw => simp [D.fz] at h
  | .non, _ => rfl
  | .bl _, _ => rfl
  | .int _, _ => rfl
  | .str _, _ => rfl
theorem y_freezeL : ∀ ds : List D, D.fzL ds = true → D.freezeL ds = ds
  | [], _ => rfl
  | d :: ds, h => by
    simp only [D.fzL, Bool.and_eq_true] at h
    simp [D.freezeL, y_freeze d h.1, y_freezeL ds h.2]
end
mutual
theorem borrow_fz : ∀ d : D, d.fz = true → d.borrow = d
  | .tup ds, h => by simp only [D.fz] at h; simp [D.borrow, borrowL_fz ds h]
  | .lst o ds, h => by
    cases o with
    | frz => simp [D.borrow]
    | own => simp [D.fz] at h
    | brw => simp [D.fz] at h
  | .non, _ => rfl
  | .bl _, _ => rfl
  | .int _, _ => rfl
  | .str _, _ => rfl
theorem borrowL_fz : ∀ ds : List D, D.fzL ds = true → D.borrowL ds = ds
  | [], _ => rfl
  | d :: ds, h => by
    simp only [D.fzL, Bool.and_eq_true] at h
    simp [D.borrowL, borrow_fz d h.1, borrowL_fz ds h.2]
end
instance (priority := low) {d : D} [h : Fzn d] : Fz d d := ⟨y_freeze d h.h⟩
instance {i : Int} : Fz (.int i) (.int i) := ⟨rfl⟩
instance {i : Bool} : Fz (.bl i) (.bl i) := ⟨rfl⟩
instance {i : Str} : Fz (.str i) (.str i) := ⟨rfl⟩
instance : Fz .non .non := ⟨rfl⟩
instance {ds es : List D} [h : FzL ds es] : Fz (.tup ds) (.tup es) := ⟨by simp [D.freeze, h.h]⟩
instance {o : Ow} {ds es : List D} [h : FzL ds es] : Fz (.lst o ds) (.lst .frz es) := ⟨by simp [D.freeze, h.h]⟩
instance : FzL [] [] := ⟨rfl⟩
instance {d e : D} {ds es : List D} [h : Fz d e] [h2 : FzL ds es] : FzL (d :: ds) (e :: es) := ⟨by simp [D.freezeL, h.h, h2.h]⟩
instance (priority := low) {ds : List D} [h : FznL ds] : FzL ds ds := ⟨y_freezeL ds h.h⟩
instance (priority := low) {d : D} [h : Fzn d] : Bw d d := ⟨borrow_fz d h.h⟩
instance {i : Int} : Bw (.int i) (.int i) := ⟨rfl⟩
instance {i : Bool} : Bw (.bl i) (.bl i) := ⟨rfl⟩
instance {i : Str} : Bw (.str i) (.str i) := ⟨rfl⟩
instance : Bw .non .non := ⟨rfl⟩
instance {ds es : List D} [h : BwL ds es] : Bw (.tup ds) (.tup es) := ⟨by simp [D.borrow, h.h]⟩
instance {ds : List D} : Bw (.lst .frz ds) (.lst .frz ds) := ⟨by simp [D.borrow]⟩
instance {ds es : List D} [h : BwL ds es] : Bw (.lst .own ds) (.lst .brw es) := ⟨by simp [D.borrow, h.h]⟩
instance {ds es : List D} [h : BwL ds es] : Bw (.lst .brw ds) (.lst .brw es) := ⟨by simp [D.borrow, h.h]⟩
instance : BwL [] [] := ⟨rfl⟩
instance {d e : D} {ds es : List D} [h : Bw d e] [h2 : BwL ds es] : BwL (d :: ds) (e :: es) := ⟨by simp [D.borrowL, h.h, h2.h]⟩
instance (priority := low) {ds : List D} [h : FznL ds] : BwL ds ds := ⟨borrowL_fz ds h.h⟩
/-! ### operators, built-ins -/
class Op (o : O2) (x y : D) (C : outParam Prop) (z : outParam D) : Prop where
  h : C → o.ev x y = some z
class Eq2 (x y : D) (C : outParam Prop) (k : outParam Bool) : Prop where
  h : C → eqD x y = some k
class Bl (b : B1) (ds : List D) (C : outParam Prop) (z : outParam D) : Prop where
  h : C → b.ev ds = some z
class Mt (m : M1) (xs ds : List D) (C : outParam Prop) (z : outParam D) (ys : outParam (List D)) : Prop where
  h : C → m.ev xs ds = some (z, ys)
class Tr (d : D) (C : outParam Prop) (k : outParam Bool) : Prop where
  h : C → truth d = some k
class Ln (ds : List D) (n : outParam Nat) : Prop where
  h : ds.length = n
instance : Ln [] 0 := ⟨rfl⟩
instance {d : D} {ds : List D} {n : Nat} [h : Ln ds n] : Ln (d :: ds) (n + 1) := ⟨by simp [h.h]⟩
instance {α : Type} {f : α → D} {ns : List α} : Ln (ns.map f) ns.length := ⟨by simp⟩
instance (priority := low) {ds : List D} : Ln ds ds.length := ⟨rfl⟩
instance op_add {i j : Int} : Op .add (.int i) (.int j) True (.int (i + j)) := ⟨fun _ => rfl⟩
instance op_sub {i j : Int} : Op .sub (.int i) (.int j) True (.int (i - j)) := ⟨fun _ => rfl⟩
instance op_mul {i j : Int} : Op .mul (.int i) (.int j) (mulOk i j = true) (.int (i * j)) := ⟨fun h => by simp [O2.ev, h]⟩
/-- below a power of two -/
structure Bt (n : Nat) (i : Int) : Prop where
  h : i.natAbs < 2 ^ n
theorem Bt.mono {n m : Nat} {i : Int} (h : Bt n i) (hm : n ≤ m) : Bt m i := ⟨Nat.lt_of_lt_of_le h.h (Nat.pow_le_pow_right (by decide) hm)⟩
theorem Bt.le {n : Nat} {i j : Int} (h : Bt n i) (hj : j.natAbs ≤ i.natAbs) : Bt n j := ⟨Nat.lt_of_le_of_lt hj h.h⟩
theorem Bt.mul {n m : Nat} {i j : Int} (h : Bt n i) (h2 : Bt m j) : Bt (n + m) (i * j) := ⟨by
  rw [Int.natAbs_mul, Nat.pow_add]
  exact Nat.mul_lt_mul'' h.h h2.h⟩
theorem Bt.add {n : Nat} {i j : Int} (h : Bt n i) (h2 : Bt n j) : Bt (n + 1) (i + j) := ⟨by
  have h3 := h.h
  have h4 := h2.h
  rw [Nat.pow_succ]
  omega⟩
theorem Bt.sub {n : Nat} {i j : Int} (h : Bt n i) (h2 : Bt n j) : Bt (n + 1) (i - j) := ⟨by
  have h3 := h.h
  have h4 := h2.h
  rw [Nat.pow_succ]
  omega⟩
theorem Bt.neg {n : Nat} {i : Int} (h : Bt n i) : Bt n (-i) := h.le (by omega)
theorem Bt.of64 {n : Nat} {i : Int} (h : i.natAbs < 18446744073709551616) (hn : 64 ≤ n) : Bt n i := Bt.mono (n := 64) ⟨by
  have e : (2 : Nat) ^ 64 = 18446744073709551616 := by decide
  rw [e]; exact h⟩ hn
theorem Bt.of200 {n : Nat} {i : Int} (h : i.natAbs < 1606938044258990275541962092341162602522202993782792835301376) (hn : 200 ≤ n) : Bt n i := Bt.mono (n := 200) ⟨by
  have e : (2 : Nat) ^ 200 = 1606938044258990275541962092341162602522202993782792835301376 := by decide
  rw [e]; exact h⟩ hn
theorem Bt.lg {n : Nat} {i : Int} (h : Bt n i) : i.natAbs.log2 ≤ n := by
  rcases Nat.eq_zero_or_pos n with z | z
  · subst z
    have h2 := h.h
    have : i.natAbs = 0 := by simpa using h2
    rw [this]; decide
  · exact Nat.le_of_lt (PySem.Flt.log2_lt_of z h.h)
theorem Bt.mulOk {n m : Nat} {i j : Int} (h : Bt n i) (h2 : Bt m j) (hn : n + m ≤ 100000000) : mulOk i j = true := by
  have h3 := h.lg
  have h4 := h2.lg
  unfold PD.mulOk
  rw [decide_eq_true (show i.natAbs.log2 + j.natAbs.log2 ≤ 100000000 by omega), Bool.or_true]
theorem dv_ok {j : Int} (h : 0 < j ∧ (j < 1606938044258990275541962092341162602522202993782792835301376 ∨ Bt 8000 j)) : (decide (0 < j) && decide (j.natAbs.log2 < 9000)) = true := by
  have h1 := h.1
  have h2 : Bt 8000 j := h.2.elim (fun h => Bt.of200 (by omega) (by decide)) fun h => h
  have h3 := h2.lg
  rw [decide_eq_true h1, decide_eq_true (show j.natAbs.log2 < 9000 by omega)]; rfl
instance op_fdiv {i j : Int} : Op .fdiv (.int i) (.int j) (0 < j ∧ (j < 1606938044258990275541962092341162602522202993782792835301376 ∨ Bt 8000 j)) (.int (i / j)) := ⟨fun h => by simp only [O2.ev, dv_ok h, if_true]⟩
instance op_mod {i j : Int} : Op .mod (.int i) (.int j) (0 < j) (.int (i % j)) := ⟨fun h => by simp [O2.ev, h]⟩
instance op_pow {i j : Int} : Op .pow (.int i) (.int j) (0 ≤ j ∧ j ≤ 1000000 ∧ i.natAbs < 2 ^ 64) (.int (i ^ j.toNat)) := ⟨fun h => by
  have h1 := h.1
  have h2 := h.2.1
  have h3 := h.2.2
  have e : (decide (0 ≤ j) && decide (j ≤ 1000000) && decide (i.natAbs < 2 ^ 64)) = true := by
    rw [decide_eq_true h1, decide_eq_true h2, decide_eq_true h3]; rfl
  simp only [O2.ev, e, if_true]⟩
instance op_lt {i j : Int} : Op .lt (.int i) (.int j) True (.bl (decide (i < j))) := ⟨fun _ => rfl⟩
instance op_le {i j : Int} : Op .le (.int i) (.int j) True (.bl (decide (i ≤ j))) := ⟨fun _ => rfl⟩
instance op_gt {i j : Int} : Op .gt (.int i) (.int j) True (.bl (decide (j < i))) := ⟨fun _ => rfl⟩
instance op_ge {i j : Int} : Op .ge (.int i) (.int j) True (.bl (decide (j ≤ i))) := ⟨fun _ => rfl⟩
instance op_eq {x y : D} {C : Prop} {k : Bool} [h : Eq2 x y C k] : Op .eq x y C (.bl k) := ⟨fun c => by simp [O2.ev, h.h c]⟩
instance op_ne {x y : D} {C : Prop} {k : Bool} [h : Eq2 x y C k] : Op .ne x y C (.bl (!k)) := ⟨fun c => by simp [O2.ev, h.h c]⟩
instance op_isb {i j : Bool} : Op .is (.bl i) (.bl j) True (.bl (decide (i = j))) := ⟨fun _ => rfl⟩
instance op_isnb {i j : Bool} : Op .isnot (.bl i) (.bl j) True (.bl (!decide (i = j))) := ⟨fun _ => rfl⟩
instance op_is0 : Op .is .non .non True (.bl true) := ⟨fun _ => rfl⟩
instance op_is1 {i : Int} : Op .is (.int i) .non True (.bl false) := ⟨fun _ => rfl⟩
instance op_is2 {i : Str} : Op .is (.str i) .non True (.bl false) := ⟨fun _ => rfl⟩
instance op_is3 {i : Bool} : Op .is (.bl i) .non True (.bl false) := ⟨fun _ => rfl⟩
instance op_is4 {o : Ow} {ds : List D} : Op .is (.lst o ds) .non True (.bl false) := ⟨fun _ => rfl⟩
instance op_is5 {ds : List D} : Op .is (.tup ds) .non True (.bl false) := ⟨fun _ => rfl⟩
instance op_isn0 : Op .isnot .non .non True (.bl false) := ⟨fun _ => rfl⟩
instance op_isn1 {i : Int} : Op .isnot (.int i) .non True (.bl true) := ⟨fun _ => rfl⟩
instance op_isn2 {i : Str} : Op .isnot (.str i) .non True (.bl true) := ⟨fun _ => rfl⟩
instance op_isn3 {i : Bool} : Op .isnot (.bl i) .non True (.bl true) := ⟨fun _ => rfl⟩
instance op_isn4 {o : Ow} {ds : List D} : Op .isnot (.lst o ds) .non True (.bl true) := ⟨fun _ => rfl⟩
instance op_isn5 {ds : List D} : Op .isnot (.tup ds) .non True (.bl true) := ⟨fun _ => rfl⟩
instance op_addS {i j : Str} : Op .add (.str i) (.str j) (szOk (i.length + j.length) = true) (.str (i ++ j)) := ⟨fun h => by simp [O2.ev, h]⟩
instance op_addL {o o' : Ow} {xs ys : List D} [h1 : RtL xs] [h2 : RtL ys] : Op .add (.lst o xs) (.lst o' ys) (szOk (xs.length + ys.length) = true) (.lst .own (xs ++ ys)) := ⟨fun h => by simp [O2.ev, h, h1.h, h2.h]⟩
instance op_mulL {xs : List D} {k : Int} [h1 : FznL xs] : Op .mul (.lst .own xs) (.int k) (-(2 ^ 63) ≤ k ∧ k < 2 ^ 63 ∧ szOk (xs.length * k.toNat) = true) (.lst .own (List.replicate k.toNat xs).flatten) := ⟨fun h => by
  have e1 := h.1
  have e2 := h.2.1
  simp only [O2.ev, h1.h, e1, e2, h.2.2, decide_true, Bool.and_self, if_true]⟩
instance op_addT {xs ys : List D} [h1 : RtL xs] [h2 : RtL ys] : Op .add (.tup xs) (.tup ys) (szOk (xs.length + ys.length) = true) (.tup (xs ++ ys)) := ⟨fun h => by simp [O2.ev, h, h1.h, h2.h]⟩
/-! equality -/
instance eq_int {i j : Int} : Eq2 (.int i) (.int j) True (decide (i = j)) := ⟨fun _ => rfl⟩
instance eq_bl {i j : Bool} : Eq2 (.bl i) (.bl j) True (decide (i = j)) := ⟨fun _ => rfl⟩
instance eq_str {i j : Str} : Eq2 (.str i) (.str j) True (decide (i = j)) := ⟨fun _ => rfl⟩
instance eq_non : Eq2 .non .non True true := ⟨fun _ => rfl⟩
instance eq_non1 {i : Int} : Eq2 .non (.int i) True false := ⟨fun _ => rfl⟩
instance eq_non2 {i : Bool} : Eq2 .non (.bl i) True false := ⟨fun _ => rfl⟩
instance eq_non3 {i : Str} : Eq2 .non (.str i) True false := ⟨fun _ => rfl⟩
instance eq_non4 {i : Int} : Eq2 (.int i) .non True false := ⟨fun _ => rfl⟩
instance eq_non5 {i : Bool} : Eq2 (.bl i) .non True false := ⟨fun _ => rfl⟩
instance eq_non6 {i : Str} : Eq2 (.str i) .non True false := ⟨fun _ => rfl⟩
instance eq_x1 {i : Int} {j : Str} : Eq2 (.int i) (.str j) True false := ⟨fun _ => rfl⟩
instance eq_x2 {i : Int} {j : Str} : Eq2 (.str j) (.int i) True false := ⟨fun _ => rfl⟩
instance eq_x3 {i : Bool} {j : Str} : Eq2 (.bl i) (.str j) True false := ⟨fun _ => rfl⟩
instance eq_x4 {i : Bool} {j : Str} : Eq2 (.str j) (.bl i) True false := ⟨fun _ => rfl⟩
/-- data compared: by shape -/
class Dq (x y : D) (k : outParam Bool) : Prop where
  h : PyData.eqv x.strip y.strip = k
class DqL (x y : List D) (k : outParam Bool) : Prop where
  h : PyData.eqvAll (D.stripL x) (D.stripL y) = k
instance dq_int {i j : Int} : Dq (.int i) (.int j) (decide (i = j)) := ⟨by simp [D.strip, PyData.eqv]; rfl⟩
instance dq_bl {i j : Bool} : Dq (.bl i) (.bl j) (decide (i = j)) := ⟨by simp only [D.strip, PyData.eqv]; cases i <;> cases j <;> rfl⟩
instance dq_str {i j : Str} : Dq (.str i) (.str j) (decide (i = j)) := ⟨by simp only [D.strip, PyData.eqv]; rw [Bool.eq_iff_iff]; simp⟩
instance dq_non : Dq .non .non true := ⟨by simp [D.strip, PyData.eqv]⟩
instance dq_tup {xs ys : List D} {k : Bool} [h : DqL xs ys k] : Dq (.tup xs) (.tup ys) k := ⟨by simp [D.strip, PyData.eqv, h.h]⟩
instance dq_lst {o o' : Ow} {xs ys : List D} {k : Bool} [h : DqL xs ys k] : Dq (.lst o xs) (.lst o' ys) k := ⟨by simp [D.strip, PyData.eqv, h.h]⟩
instance dq_nil : DqL [] [] true := ⟨by simp [D.stripL, PyData.eqvAll]⟩
instance dq_one {x y : D} {k : Bool} [h : Dq x y k] : DqL [x] [y] k := ⟨by simp [D.stripL, PyData.eqvAll, h.h]⟩
instance (priority := low) dq_cons {x y : D} {xs ys : List D} {k k' : Bool} [h : Dq x y k] [h' : DqL xs ys k'] : DqL (x :: xs) (y :: ys) (k && k') := ⟨by simp [D.stripL, PyData.eqvAll, h.h, h'.h]⟩
instance dq_nc {y : D} {ys : List D} : DqL [] (y :: ys) false := ⟨by simp [D.stripL, PyData.eqvAll]⟩
instance dq_cn {y : D} {ys : List D} : DqL (y :: ys) [] false := ⟨by simp [D.stripL, PyData.eqvAll]⟩
theorem dq_ints : ∀ ns ms : List Int, PyData.eqvAll (D.stripL (ns.map D.int)) (D.stripL (ms.map D.int)) = decide (ns = ms)
  | [], [] => by simp [D.stripL, PyData.eqvAll]
  | [], _ :: _ => by simp [D.stripL, PyData.eqvAll]
  | _ :: _, [] => by simp [D.stripL, PyData.eqvAll]
  | n :: ns, m :: ms => by
    simp only [List.map_cons, D.stripL, D.strip, PyData.eqvAll, PyData.eqv, dq_ints ns ms]
    rw [Bool.eq_iff_iff]
    simp
instance dq_map {ns ms : List Int} : DqL (ns.map D.int) (ms.map D.int) (decide (ns = ms)) := ⟨dq_ints ns ms⟩
/-! of images: an encoding that tells its things apart -/
class Ij {α : Type} [DecidableEq α] (f : α → D) : Prop where
  h : ∀ a b, PyData.eqv (f a).strip (f b).strip = decide (a = b)
instance : Ij D.int := ⟨fun i j => by simp [D.strip, PyData.eqv]; rfl⟩
theorem dq_maps {α : Type} [DecidableEq α] {f : α → D} [h : Ij f] : ∀ ns ms : List α, PyData.eqvAll (D.stripL (ns.map f)) (D.stripL (ms.map f)) = decide (ns = ms)
  | [], [] => by simp [D.stripL, PyData.eqvAll]
  | [], _ :: _ => by simp [D.stripL, PyData.eqvAll]
  | _ :: _, [] => by simp [D.stripL, PyData.eqvAll]
  | n :: ns, m :: ms => by
    simp only [List.map_cons, D.stripL, PyData.eqvAll, h.h, dq_maps ns ms]
    rw [Bool.eq_iff_iff]
    simp
instance (priority := low) dq_mapF {α : Type} [DecidableEq α] {f : α → D} [h : Ij f] {ns ms : List α} : DqL (ns.map f) (ms.map f) (decide (ns = ms)) := ⟨dq_maps ns ms⟩
/-- shaped: laid flat, not deep -/
class Sh (d : D) (C : outParam Prop) (n : outParam Nat) : Prop where
  h : C → d.strip.canLay0 = true ∧ d.strip.depth ≤ n
class ShL (ds : List D) (C : outParam Prop) (n : outParam Nat) : Prop where
  h : C → PyData.canLayAll0 (D.stripL ds) = true ∧ PyData.depthAll (D.stripL ds) ≤ n
instance {i : Int} : Sh (.int i) True 0 := ⟨fun _ => by simp [D.strip, PyData.canLay0, PyData.depth]⟩
instance {i : Bool} : Sh (.bl i) True 0 := ⟨fun _ => by simp [D.strip, PyData.canLay0, PyData.depth]⟩
instance : Sh .non True 0 := ⟨fun _ => by simp [D.strip, PyData.canLay0, PyData.depth]⟩
instance {i : Str} : Sh (.str i) (PyData.strOk i = true) 0 := ⟨fun h => by simp [D.strip, PyData.canLay0, PyData.depth, h]⟩
instance {ds : List D} {C : Prop} {n : Nat} [h : ShL ds C n] : Sh (.tup ds) C (n + 1) := ⟨fun c => by
  have := h.h c
  simp only [D.strip, PyData.canLay0, PyData.depth]
  exact ⟨this.1, by omega⟩⟩
instance {o : Ow} {ds : List D} {C : Prop} {n : Nat} [h : ShL ds C n] : Sh (.lst o ds) C (n + 1) := ⟨fun c => by
  have := h.h c
  simp only [D.strip, PyData.canLay0, PyData.depth]
  exact ⟨this.1, by omega⟩⟩
instance : ShL [] True 0 := ⟨fun _ => by simp [D.stripL, PyData.canLayAll0, PyData.depthAll]⟩
instance {d : D} {ds : List D} {C C2 : Prop} {n m : Nat} [h : Sh d C n] [h2 : ShL ds C2 m] : ShL (d :: ds) (C ∧ C2) (max n m) := ⟨fun c => by
  have h1 := h.h c.1
  have h2 := h2.h c.2
  simp only [D.stripL, PyData.canLayAll0, PyData.depthAll, h1.1, h2.1, Bool.and_self, true_and]
  omega⟩
theorem shL_map {α : Type} {f : α → D} {C : α → Prop} {n : Nat} (h : ∀ a, C a → (f a).strip.canLay0 = true ∧ (f a).strip.depth ≤ n) : ∀ xs : List α, (∀ a ∈ xs, C a) → PyData.canLayAll0 (D.stripL (xs.map f)) = true ∧ PyData.depthAll (D.stripL (xs.map f)) ≤ n
  | [], _ => by simp [D.stripL, PyData.canLayAll0, PyData.depthAll]
  | x :: xs, c => by
    have h1 := h x (c x (by simp))
    have h2 := shL_map h xs fun a ha => c a (by simp [ha])
    simp only [List.map_cons, D.stripL, PyData.canLayAll0, PyData.depthAll, h1.1, h2.1, Bool.and_self, true_and]
    omega
instance (priority := low) {α : Type} {f : α → D} {xs : List α} {C : α → Prop} {n : Nat} [h : ∀ a, Sh (f a) (C a) n] : ShL (xs.map f) (∀ a ∈ xs, C a) n := ⟨fun c => shL_map (fun a => (h a).h) xs c⟩
instance {xs : List Int} : ShL (xs.map D.int) True 0 := ⟨fun _ => shL_map (C := fun _ => True) (fun a _ => by simp [D.strip, PyData.canLay0, PyData.depth]) xs fun _ _ => trivial⟩
theorem shp_of {d : D} {C : Prop} {n : Nat} [h : Sh d C n] (c : C) (hn : n ≤ 64) : d.shp = true := by
  have := h.h c
  unfold D.shp
  show (d.strip.canLay0 && decide (d.strip.depth ≤ 64)) = true
  rw [this.1, decide_eq_true (by omega)]; rfl
instance eq_tt {xs ys : List D} {k : Bool} {C C2 : Prop} {n m : Nat} [h : DqL xs ys k] [s1 : Sh (.tup xs) C n] [s2 : Sh (.tup ys) C2 m] : Eq2 (.tup xs) (.tup ys) (C ∧ C2 ∧ n ≤ 64 ∧ m ≤ 64) k := ⟨fun c => by
  have e1 := shp_of (d := .tup xs) c.1 c.2.2.1
  have e2 := shp_of (d := .tup ys) c.2.1 c.2.2.2
  simp only [eqD, e1, e2, D.strip, PyData.eqv, h.h]; rfl⟩
instance eq_ll {o o' : Ow} {xs ys : List D} {k : Bool} {C C2 : Prop} {n m : Nat} [h : DqL xs ys k] [s1 : Sh (.lst o xs) C n] [s2 : Sh (.lst o' ys) C2 m] : Eq2 (.lst o xs) (.lst o' ys) (C ∧ C2 ∧ n ≤ 64 ∧ m ≤ 64) k := ⟨fun c => by
  have e1 := shp_of (d := .lst o xs) c.1 c.2.2.1
  have e2 := shp_of (d := .lst o' ys) c.2.1 c.2.2.2
  simp only [eqD, e1, e2, D.strip, PyData.eqv, h.h]; rfl⟩
/-! built-ins -/
instance bl_lenL {o : Ow} {ds : List D} {n : Nat} [h : Ln ds n] : Bl .len [.lst o ds] True (.int ((n : Nat) : Int)) := ⟨fun _ => by simp [B1.ev, h.h]⟩
instance bl_lenT {ds : List D} {n : Nat} [h : Ln ds n] : Bl .len [.tup ds] True (.int ((n : Nat) : Int)) := ⟨fun _ => by simp [B1.ev, h.h]⟩
instance bl_lenS {z : Str} : Bl .len [.str z] (szOk z.length = true) (.int ((z.length : Nat) : Int)) := ⟨fun h => by simp [B1.ev, h]⟩
instance bl_int {i : Int} : Bl .int [.int i] True (.int i) := ⟨fun _ => rfl⟩
instance bl_intB {i : Bool} : Bl .int [.bl i] True (.int (if i then 1 else 0)) := ⟨fun _ => rfl⟩
instance bl_abs {i : Int} : Bl .abs [.int i] True (.int ((i.natAbs : Nat) : Int)) := ⟨fun _ => by simp only [B1.ev]; congr 2; split <;> omega⟩
class AB (ds : List D) (bs : outParam (List Bool)) : Prop where
  h : allB ds = some bs
instance : AB [] [] := ⟨rfl⟩
instance {b : Bool} {ds : List D} {bs : List Bool} [h : AB ds bs] : AB (.bl b :: ds) (b :: bs) := ⟨by simp [allB, h.h]⟩
theorem allB_map {α : Type} (f : α → Bool) : ∀ xs : List α, allB (xs.map fun a => D.bl (f a)) = some (xs.map f)
  | [] => rfl
  | x :: xs => by simp [allB, allB_map f xs]
instance {α : Type} {f : α → Bool} {xs : List α} : AB (xs.map fun a => D.bl (f a)) (xs.map f) := ⟨allB_map f xs⟩
instance bl_all {o : Ow} {ds : List D} {bs : List Bool} [h : AB ds bs] : Bl .all [.lst o ds] True (.bl (bs.all id)) := ⟨fun _ => by simp [B1.ev, h.h]⟩
instance bl_any {o : Ow} {ds : List D} {bs : List Bool} [h : AB ds bs] : Bl .any [.lst o ds] True (.bl (bs.any id)) := ⟨fun _ => by simp [B1.ev, h.h]⟩
instance bl_listL {o : Ow} {ds : List D} [h : RtL ds] : Bl .list [.lst o ds] True (.lst .own ds) := ⟨fun _ => by simp [B1.ev, h.h]⟩
instance bl_listT {ds : List D} [h : RtL ds] : Bl .list [.tup ds] True (.lst .own ds) := ⟨fun _ => by simp [B1.ev, h.h]⟩
instance bl_tupleL {o : Ow} {ds : List D} [h : RtL ds] : Bl .tuple [.lst o ds] True (.tup ds) := ⟨fun _ => by simp [B1.ev, h.h]⟩
instance bl_tupleT {ds : List D} : Bl .tuple [.tup ds] True (.tup ds) := ⟨fun _ => by simp [B1.ev]⟩
instance bl_str {i : Int} : Bl .str [.int i] (i.natAbs.log2 < 1920) (.str (toString i)) := ⟨fun h => by simp [B1.ev, h]⟩
class AI (ds : List D) (bs : outParam (List Int)) : Prop where
  h : allI ds = some bs
instance : AI [] [] := ⟨rfl⟩
instance {b : Int} {ds : List D} {bs : List Int} [h : AI ds bs] : AI (.int b :: ds) (b :: bs) := ⟨by simp [allI, h.h]⟩
theorem allI_map {α : Type} (f : α → Int) : ∀ xs : List α, allI (xs.map fun a => D.int (f a)) = some (xs.map f)
  | [] => rfl
  | x :: xs => by simp [allI, allI_map f xs]
instance {α : Type} {f : α → Int} {xs : List α} : AI (xs.map fun a => D.int (f a)) (xs.map f) := ⟨allI_map f xs⟩
instance {xs : List Int} : AI (xs.map D.int) xs := ⟨by simpa using allI_map (fun a => a) xs⟩
instance bl_sum {o : Ow} {ds : List D} {bs : List Int} [h : AI ds bs] : Bl .sum [.lst o ds] True (.int bs.sum) := ⟨fun _ => by simp [B1.ev, h.h]⟩
instance bl_repL {o : Ow} {ds : List D} : Bl .repr [.lst o ds] (repOk (D.lst o ds).strip = true) (.str (D.lst o ds).strip.shown) := ⟨fun c => by simp only [B1.ev, c, if_true]⟩
instance bl_repT {ds : List D} : Bl .repr [.tup ds] (repOk (D.tup ds).strip = true) (.str (D.tup ds).strip.shown) := ⟨fun c => by simp only [B1.ev, c, if_true]⟩
instance bl_min2 {i j : Int} : Bl .min [.int i, .int j] True (.int (min i j)) := ⟨fun _ => by
  simp only [B1.ev]
  congr 2
  split <;> omega⟩
instance bl_max2 {i j : Int} : Bl .max [.int i, .int j] True (.int (max i j)) := ⟨fun _ => by
  simp only [B1.ev]
  congr 2
  split <;> omega⟩
instance bl_minL {o : Ow} {ds : List D} {ns : List Int} [h : AI ds ns] : Bl .min [.lst o ds] (ns.isEmpty = false) (.int (minI ns)) := ⟨fun c => by simp only [B1.ev, h.h, Option.bind_some, c]; rfl⟩
instance bl_maxL {o : Ow} {ds : List D} {ns : List Int} [h : AI ds ns] : Bl .max [.lst o ds] (ns.isEmpty = false) (.int (maxI ns)) := ⟨fun c => by simp only [B1.ev, h.h, Option.bind_some, c]; rfl⟩
instance bl_gcd {i j : Int} : Bl .gcd [.int i, .int j] True (.int ((Nat.gcd i.natAbs j.natAbs : Nat) : Int)) := ⟨fun _ => rfl⟩
instance isi_int_non : Bl (.isi .int) [.non] True (.bl false) := ⟨fun _ => rfl⟩
instance isi_int_bl {b : Bool} : Bl (.isi .int) [.bl b] True (.bl true) := ⟨fun _ => rfl⟩
instance isi_int_int {i : Int} : Bl (.isi .int) [.int i] True (.bl true) := ⟨fun _ => rfl⟩
instance isi_int_str {x : Str} : Bl (.isi .int) [.str x] True (.bl false) := ⟨fun _ => rfl⟩
instance isi_int_tup {ds : List D} : Bl (.isi .int) [.tup ds] True (.bl false) := ⟨fun _ => rfl⟩
instance isi_int_lst {o : Ow} {ds : List D} : Bl (.isi .int) [.lst o ds] True (.bl false) := ⟨fun _ => rfl⟩
instance isi_bool_non : Bl (.isi .bool) [.non] True (.bl false) := ⟨fun _ => rfl⟩
instance isi_bool_bl {b : Bool} : Bl (.isi .bool) [.bl b] True (.bl true) := ⟨fun _ => rfl⟩
instance isi_bool_int {i : Int} : Bl (.isi .bool) [.int i] True (.bl false) := ⟨fun _ => rfl⟩
instance isi_bool_str {x : Str} : Bl (.isi .bool) [.str x] True (.bl false) := ⟨fun _ => rfl⟩
instance isi_bool_tup {ds : List D} : Bl (.isi .bool) [.tup ds] True (.bl false) := ⟨fun _ => rfl⟩
instance isi_bool_lst {o : Ow} {ds : List D} : Bl (.isi .bool) [.lst o ds] True (.bl false) := ⟨fun _ => rfl⟩
instance isi_str_non : Bl (.isi .str) [.non] True (.bl false) := ⟨fun _ => rfl⟩
instance isi_str_bl {b : Bool} : Bl (.isi .str) [.bl b] True (.bl false) := ⟨fun _ => rfl⟩
instance isi_str_int {i : Int} : Bl (.isi .str) [.int i] True (.bl false) := ⟨fun _ => rfl⟩
instance isi_str_str {x : Str} : Bl (.isi .str) [.str x] True (.bl true) := ⟨fun _ => rfl⟩
instance isi_str_tup {ds : List D} : Bl (.isi .str) [.tup ds] True (.bl false) := ⟨fun _ => rfl⟩
instance isi_str_lst {o : Ow} {ds : List D} : Bl (.isi .str) [.lst o ds] True (.bl false) := ⟨fun _ => rfl⟩
instance isi_list_non : Bl (.isi .list) [.non] True (.bl false) := ⟨fun _ => rfl⟩
instance isi_list_bl {b : Bool} : Bl (.isi .list) [.bl b] True (.bl false) := ⟨fun _ => rfl⟩
instance isi_list_int {i : Int} : Bl (.isi .list) [.int i] True (.bl false) := ⟨fun _ => rfl⟩
instance isi_list_str {x : Str} : Bl (.isi .list) [.str x] True (.bl false) := ⟨fun _ => rfl⟩
instance isi_list_tup {ds : List D} : Bl (.isi .list) [.tup ds] True (.bl false) := ⟨fun _ => rfl⟩
instance isi_list_lst {o : Ow} {ds : List D} : Bl (.isi .list) [.lst o ds] True (.bl true) := ⟨fun _ => rfl⟩
instance isi_tuple_non : Bl (.isi .tuple) [.non] True (.bl false) := ⟨fun _ => rfl⟩
instance isi_tuple_bl {b : Bool} : Bl (.isi .tuple) [.bl b] True (.bl false) := ⟨fun _ => rfl⟩
instance isi_tuple_int {i : Int} : Bl (.isi .tuple) [.int i] True (.bl false) := ⟨fun _ => rfl⟩
instance isi_tuple_str {x : Str} : Bl (.isi .tuple) [.str x] True (.bl false) := ⟨fun _ => rfl⟩
instance isi_tuple_tup {ds : List D} : Bl (.isi .tuple) [.tup ds] True (.bl true) := ⟨fun _ => rfl⟩
instance isi_tuple_lst {o : Ow} {ds : List D} : Bl (.isi .tuple) [.lst o ds] True (.bl false) := ⟨fun _ => rfl⟩
/-! methods -/
instance (priority := high) mt_appendN {ns : List Int} {n : Int} : Mt .append (ns.map D.int) [.int n] (ns.length < sizeLine) .non ((ns ++ [n]).map D.int) := ⟨fun c => by simp [M1.ev, D.ret, c]⟩
instance mt_append {xs : List D} {d : D} [h : Rt d] : Mt .append xs [d] (xs.length < sizeLine) .non (xs ++ [d]) := ⟨fun c => by simp [M1.ev, h.h, c]⟩
instance mt_extend {xs ys : List D} [h : RtL ys] : Mt .extend xs [.lst .own ys] (szOk (xs.length + ys.length) = true) .non (xs ++ ys) := ⟨fun c => by simp [M1.ev, h.h, c]⟩
instance mt_insert {xs : List D} {i : Int} {d : D} [h : Rt d] : Mt .insert xs [.int i, d] (xs.length < sizeLine ∧ 0 ≤ i ∧ i < 2 ^ 63) .non (xs.take i.toNat ++ [d] ++ xs.drop i.toNat) := ⟨fun c => by simp only [M1.ev, h.h, c.1, c.2.1, c.2.2, decide_true, Bool.and_self, if_true]⟩
instance mt_clear {xs : List D} : Mt .clear xs [] True .non [] := ⟨fun _ => rfl⟩
/-! truth -/
instance tr_bl {k : Bool} : Tr (.bl k) True k := ⟨fun _ => rfl⟩
instance tr_int {i : Int} : Tr (.int i) True (i != 0) := ⟨fun _ => rfl⟩
instance tr_non : Tr .non True false := ⟨fun _ => rfl⟩
instance tr_lst {o : Ow} {ds : List D} : Tr (.lst o ds) True (!ds.isEmpty) := ⟨fun _ => rfl⟩
instance tr_tup {ds : List D} : Tr (.tup ds) True (!ds.isEmpty) := ⟨fun _ => rfl⟩
instance tr_str {x : Str} : Tr (.str x) (szOk x.length = true) ((x.length : Int) != 0) := ⟨fun h => by simp [truth, h]⟩
/-! items -/
class At (ds : List D) (n : Nat) (d : outParam D) : Prop where
  h : ds[n]? = some d
instance {d : D} {ds : List D} : At (d :: ds) 0 d := ⟨rfl⟩
instance {d e : D} {ds : List D} {n : Nat} [h : At ds n d] : At (e :: ds) (n + 1) d := ⟨by simpa using h.h⟩
class Ix (x y : D) (C : outParam Prop) (z : outParam D) : Prop where
  h : C → ixD x y = some z
theorem atI_nat {ds : List D} {n : Nat} {d : D} (h : ds[n]? = some d) : atI ds (n : Int) = some d := by
  have hl : n < ds.length := by
    rcases Nat.lt_or_ge n ds.length with g | g
    · exact g
    · rw [List.getElem?_eq_none g] at h; cases h
  unfold atI ixN
  rw [if_pos (by omega), if_pos (by omega)]
  simpa using h
theorem atI_in {α : Type} {ds : List α} {i : Int} (h0 : 0 ≤ i) (h : i < ds.length) : atI ds i = ds[i.toNat]? := by
  unfold atI ixN
  rw [if_pos h0, if_pos h]
  rfl
/-- a written whole number -/
class LN (i : Int) (n : outParam Nat) : Prop where
  h : i = n
instance : LN 0 0 := ⟨rfl⟩
instance : LN 1 1 := ⟨rfl⟩
instance : LN 2 2 := ⟨rfl⟩
instance : LN 3 3 := ⟨rfl⟩
instance : LN 4 4 := ⟨rfl⟩
instance : LN 5 5 := ⟨rfl⟩
instance : LN 6 6 := ⟨rfl⟩
instance : LN 7 7 := ⟨rfl⟩
instance : LN 8 8 := ⟨rfl⟩
instance : LN 9 9 := ⟨rfl⟩
instance : LN 10 10 := ⟨rfl⟩
instance : LN 11 11 := ⟨rfl⟩
instance : LN 12 12 := ⟨rfl⟩
instance : LN 13 13 := ⟨rfl⟩
instance : LN 14 14 := ⟨rfl⟩
instance : LN 15 15 := ⟨rfl⟩
instance : LN 16 16 := ⟨rfl⟩
instance : LN 17 17 := ⟨rfl⟩
instance : LN 18 18 := ⟨rfl⟩
instance : LN 19 19 := ⟨rfl⟩
instance : LN 20 20 := ⟨rfl⟩
instance : LN 21 21 := ⟨rfl⟩
instance : LN 22 22 := ⟨rfl⟩
instance : LN 23 23 := ⟨rfl⟩
instance : LN 24 24 := ⟨rfl⟩
instance : LN 25 25 := ⟨rfl⟩
instance : LN 26 26 := ⟨rfl⟩
instance : LN 27 27 := ⟨rfl⟩
instance : LN 28 28 := ⟨rfl⟩
instance : LN 29 29 := ⟨rfl⟩
instance : LN 30 30 := ⟨rfl⟩
instance : LN 31 31 := ⟨rfl⟩
instance : LN 32 32 := ⟨rfl⟩
instance : LN 33 33 := ⟨rfl⟩
instance : LN 34 34 := ⟨rfl⟩
instance : LN 35 35 := ⟨rfl⟩
instance : LN 36 36 := ⟨rfl⟩
instance : LN 37 37 := ⟨rfl⟩
instance : LN 38 38 := ⟨rfl⟩
instance : LN 39 39 := ⟨rfl⟩
instance : LN 40 40 := ⟨rfl⟩
instance : LN 41 41 := ⟨rfl⟩
instance : LN 42 42 := ⟨rfl⟩
instance : LN 43 43 := ⟨rfl⟩
instance : LN 44 44 := ⟨rfl⟩
instance : LN 45 45 := ⟨rfl⟩
instance : LN 46 46 := ⟨rfl⟩
instance : LN 47 47 := ⟨rfl⟩
instance : LN 48 48 := ⟨rfl⟩
instance : LN 49 49 := ⟨rfl⟩
instance : LN 50 50 := ⟨rfl⟩
instance : LN 51 51 := ⟨rfl⟩
instance : LN 52 52 := ⟨rfl⟩
instance : LN 53 53 := ⟨rfl⟩
instance : LN 54 54 := ⟨rfl⟩
instance : LN 55 55 := ⟨rfl⟩
instance : LN 56 56 := ⟨rfl⟩
instance : LN 57 57 := ⟨rfl⟩
instance : LN 58 58 := ⟨rfl⟩
instance : LN 59 59 := ⟨rfl⟩
instance : LN 60 60 := ⟨rfl⟩
instance : LN 61 61 := ⟨rfl⟩
instance : LN 62 62 := ⟨rfl⟩
instance : LN 63 63 := ⟨rfl⟩
instance : LN 64 64 := ⟨rfl⟩
instance : LN 65 65 := ⟨rfl⟩
instance : LN 66 66 := ⟨rfl⟩
instance : LN 67 67 := ⟨rfl⟩
instance : LN 68 68 := ⟨rfl⟩
instance : LN 69 69 := ⟨rfl⟩
instance : LN 70 70 := ⟨rfl⟩
instance : LN 71 71 := ⟨rfl⟩
instance : LN 72 72 := ⟨rfl⟩
instance : LN 73 73 := ⟨rfl⟩
instance : LN 74 74 := ⟨rfl⟩
instance : LN 75 75 := ⟨rfl⟩
instance : LN 76 76 := ⟨rfl⟩
instance : LN 77 77 := ⟨rfl⟩
instance : LN 78 78 := ⟨rfl⟩
instance : LN 79 79 := ⟨rfl⟩
instance : LN 80 80 := ⟨rfl⟩
instance : LN 81 81 := ⟨rfl⟩
instance : LN 82 82 := ⟨rfl⟩
instance : LN 83 83 := ⟨rfl⟩
instance : LN 84 84 := ⟨rfl⟩
instance : LN 85 85 := ⟨rfl⟩
instance : LN 86 86 := ⟨rfl⟩
instance : LN 87 87 := ⟨rfl⟩
instance : LN 88 88 := ⟨rfl⟩
instance : LN 89 89 := ⟨rfl⟩
instance : LN 90 90 := ⟨rfl⟩
instance : LN 91 91 := ⟨rfl⟩
instance : LN 92 92 := ⟨rfl⟩
instance : LN 93 93 := ⟨rfl⟩
instance : LN 94 94 := ⟨rfl⟩
instance : LN 95 95 := ⟨rfl⟩
instance : LN 96 96 := ⟨rfl⟩
instance : LN 97 97 := ⟨rfl⟩
instance : LN 98 98 := ⟨rfl⟩
instance : LN 99 99 := ⟨rfl⟩
instance : LN 100 100 := ⟨rfl⟩
instance : LN 101 101 := ⟨rfl⟩
instance : LN 102 102 := ⟨rfl⟩
instance : LN 103 103 := ⟨rfl⟩
instance : LN 104 104 := ⟨rfl⟩
instance : LN 105 105 := ⟨rfl⟩
instance : LN 106 106 := ⟨rfl⟩
instance : LN 107 107 := ⟨rfl⟩
instance : LN 108 108 := ⟨rfl⟩
instance : LN 109 109 := ⟨rfl⟩
instance : LN 110 110 := ⟨rfl⟩
instance : LN 111 111 := ⟨rfl⟩
instance : LN 112 112 := ⟨rfl⟩
instance : LN 113 113 := ⟨rfl⟩
instance : LN 114 114 := ⟨rfl⟩
instance : LN 115 115 := ⟨rfl⟩
instance : LN 116 116 := ⟨rfl⟩
instance : LN 117 117 := ⟨rfl⟩
instance : LN 118 118 := ⟨rfl⟩
instance : LN 119 119 := ⟨rfl⟩
instance : LN 120 120 := ⟨rfl⟩
instance : LN 121 121 := ⟨rfl⟩
instance : LN 122 122 := ⟨rfl⟩
instance : LN 123 123 := ⟨rfl⟩
instance : LN 124 124 := ⟨rfl⟩
instance : LN 125 125 := ⟨rfl⟩
instance : LN 126 126 := ⟨rfl⟩
instance : LN 127 127 := ⟨rfl⟩
instance : LN 128 128 := ⟨rfl⟩
instance : LN 129 129 := ⟨rfl⟩
instance ix_t {ds : List D} {i : Int} {n : Nat} {d : D} [l : LN i n] [h : At ds n d] : Ix (.tup ds) (.int i) True d := ⟨fun _ => by rw [l.h]; exact atI_nat h.h⟩
instance ix_l {o : Ow} {ds : List D} {i : Int} {n : Nat} {d : D} [l : LN i n] [h : At ds n d] : Ix (.lst o ds) (.int i) True d := ⟨fun _ => by rw [l.h]; exact atI_nat h.h⟩
/-- a number of a list of numbers -/
def atZ (ns : List Int) (i : Int) : Int := (ns[i.toNat]?).getD 0
theorem y_atI_map {α : Type} (f : α → D) {ns : List α} {i : Int} (h : 0 ≤ i ∧ i < ns.length) : atI (ns.map f) i = (ns[i.toNat]?).map f := by
  rw [atI_in h.1 (by simpa using h.2), List.getElem?_map]
theorem atI_ints {ns : List Int} {i : Int} (h : 0 ≤ i ∧ i < ns.length) : atI (ns.map D.int) i = some (.int (atZ ns i)) := by
  rw [y_atI_map D.int h]
  unfold atZ
  have : i.toNat < ns.length := by omega
  rw [List.getElem?_eq_getElem this]
  rfl
instance ix_ln {o : Ow} {ns : List Int} {i : Int} : Ix (.lst o (ns.map D.int)) (.int i) (0 ≤ i ∧ i < ns.length) (.int (atZ ns i)) := ⟨fun h => atI_ints h⟩
instance ix_tn {ns : List Int} {i : Int} : Ix (.tup (ns.map D.int)) (.int i) (0 ≤ i ∧ i < ns.length) (.int (atZ ns i)) := ⟨fun h => atI_ints h⟩
/-- an item of an image -/
def atE {α : Type} [Inhabited α] (ns : List α) (i : Int) : α := (ns[i.toNat]?).getD default
theorem atI_maps {α : Type} [Inhabited α] {f : α → D} {ns : List α} {i : Int} (h : 0 ≤ i ∧ i < ns.length) : atI (ns.map f) i = some (f (atE ns i)) := by
  rw [y_atI_map f h]
  unfold atE
  have : i.toNat < ns.length := by omega
  rw [List.getElem?_eq_getElem this]
  rfl
instance (priority := low + 1) ix_lm {α : Type} [Inhabited α] {f : α → D} {o : Ow} {ns : List α} {i : Int} : Ix (.lst o (ns.map f)) (.int i) (0 ≤ i ∧ i < ns.length) (f (atE ns i)) := ⟨fun h => atI_maps h⟩
instance (priority := low + 1) ix_tm {α : Type} [Inhabited α] {f : α → D} {ns : List α} {i : Int} : Ix (.tup (ns.map f)) (.int i) (0 ≤ i ∧ i < ns.length) (f (atE ns i)) := ⟨fun h => atI_maps h⟩
theorem atI_atD {ds : List D} {i : Int} (h : 0 ≤ i ∧ i < ds.length) : atI ds i = some (atD ds i) := by
  rw [atI_in h.1 h.2]
  unfold atD
  have : i.toNat < ds.length := by omega
  rw [List.getElem?_eq_getElem this]
  rfl
instance (priority := low) ix_lg {o : Ow} {ds : List D} {i : Int} : Ix (.lst o ds) (.int i) (0 ≤ i ∧ i < ds.length) (atD ds i) := ⟨fun h => atI_atD h⟩
instance (priority := low) ix_tg {ds : List D} {i : Int} : Ix (.tup ds) (.int i) (0 ≤ i ∧ i < ds.length) (atD ds i) := ⟨fun h => atI_atD h⟩
/-! cuts -/
def cutA {α : Type} (ds : List α) (lo hi : Option Int) : List α := (ds.drop (HT.sIx ds.length 0 lo)).take (HT.sIx ds.length ds.length hi - HT.sIx ds.length 0 lo)
theorem cutD_map {α : Type} (f : α → D) (ns : List α) (lo hi : Option Int) : cutD (ns.map f) lo hi = (cutA ns lo hi).map f := by
  unfold cutD cutA
  simp [List.map_drop, List.map_take]
theorem y_retL_drop : ∀ (n : Nat) (ds : List D), D.retL ds = true → D.retL (ds.drop n) = true
  | 0, ds, h => by simpa using h
  | n + 1, [], h => by simpa using h
  | n + 1, d :: ds, h => by
    simp only [D.retL, Bool.and_eq_true] at h
    simpa using y_retL_drop n ds h.2
theorem y_retL_take : ∀ (n : Nat) (ds : List D), D.retL ds = true → D.retL (ds.take n) = true
  | 0, ds, h => by simp [D.retL]
  | n + 1, [], h => by simp [D.retL]
  | n + 1, d :: ds, h => by
    simp only [D.retL, Bool.and_eq_true] at h
    simp [D.retL, h.1, y_retL_take n ds h.2]
instance {ds : List D} {lo hi : Option Int} [h : RtL ds] : RtL (cutD ds lo hi) := ⟨y_retL_take _ _ (y_retL_drop _ _ h.h)⟩
class Sc (x : D) (lo hi : Option Int) (C : outParam Prop) (z : outParam D) : Prop where
  h : C → slD x lo hi = some z
instance {o : Ow} {ns : List Int} {lo hi : Option Int} : Sc (.lst o (ns.map D.int)) lo hi True (.lst .own ((cutA ns lo hi).map D.int)) := ⟨fun _ => by
  simp only [slD, retL_map D.int (fun _ => rfl), if_true, cutD_map]⟩
instance (priority := low) sc_map {α : Type} {f : α → D} {o : Ow} {ns : List α} {lo hi : Option Int} [h : ∀ a, Rt (f a)] : Sc (.lst o (ns.map f)) lo hi True (.lst .own ((cutA ns lo hi).map f)) := ⟨fun _ => by
  simp only [slD, retL_map f (fun a => (h a).h), if_true, cutD_map]⟩
instance {x : Str} {lo hi : Option Int} : Sc (.str x) lo hi (szOk x.length = true) (.str (cutS x lo hi)) := ⟨fun h => by simp only [slD, h, if_true]⟩
instance (priority := low - 1) {o : Ow} {ds : List D} {lo hi : Option Int} [h : RtL ds] : Sc (.lst o ds) lo hi True (.lst .own (cutD ds lo hi)) := ⟨fun _ => by simp [slD, h.h]⟩
instance (priority := low) {ds : List D} {lo hi : Option Int} [h : RtL ds] : Sc (.tup ds) lo hi True (.tup (cutD ds lo hi)) := ⟨fun _ => by simp [slD, h.h]⟩
/-! methods of values, join, reverse -/
class Pm (m : PM) (x : D) (ds : List D) (C : outParam Prop) (z : outParam D) : Prop where
  h : C → m.onD x = true ∧ m.ev x ds = some z
class Jn (x : Str) (d : D) (C : outParam Prop) (z : outParam D) : Prop where
  h : C → joinD x d = some z
class AS' (ds : List D) (bs : outParam (List Str)) : Prop where
  h : allS ds = some bs
instance : AS' [] [] := ⟨rfl⟩
instance {b : Str} {ds : List D} {bs : List Str} [h : AS' ds bs] : AS' (.str b :: ds) (b :: bs) := ⟨by simp [allS, h.h]⟩
theorem allS_map {α : Type} (f : α → Str) : ∀ xs : List α, allS (xs.map fun a => D.str (f a)) = some (xs.map f)
  | [] => rfl
  | x :: xs => by simp [allS, allS_map f xs]
instance {α : Type} {f : α → Str} {xs : List α} : AS' (xs.map fun a => D.str (f a)) (xs.map f) := ⟨allS_map f xs⟩
instance {xs : List Str} : AS' (xs.map D.str) xs := ⟨by simpa using allS_map (fun a => a) xs⟩
instance {x : Str} {o : Ow} {ds : List D} {ys : List Str} [h : AS' ds ys] : Jn x (.lst o ds) ((ys.map (·.length)).sum + ys.length * x.length ≤ 16777216) (.str (Txt.join x ys)) := ⟨fun c => by simp only [joinD, h.h, Option.bind_some, decide_eq_true c, if_true]⟩
class Rv (x : D) (z : outParam D) : Prop where
  h : revD x = some z
instance {o : Ow} {α : Type} {f : α → D} {ns : List α} [h : ∀ a, Rt (f a)] : Rv (.lst o (ns.map f)) (.lst .own (ns.reverse.map f)) := ⟨by
  simp only [revD, retL_map f (fun a => (h a).h), if_true, List.map_reverse]⟩
instance {o : Ow} {ns : List Int} : Rv (.lst o (ns.map D.int)) (.lst .own (ns.reverse.map D.int)) := ⟨by
  simp only [revD, retL_map D.int (fun _ => rfl), if_true, List.map_reverse]⟩
instance pm_cnt {o : Ow} {ds : List D} {ns : List Int} {k : Int} [h : AI ds ns] : Pm .count (.lst o ds) [.int k] True (.int (ns.count k : Nat)) := ⟨fun _ => ⟨rfl, by simp only [PM.ev, h.h, Option.map_some]⟩⟩
instance pm_sw {a b : Str} : Pm .startswith (.str a) [.str b] True (.bl (Txt.startswith a b)) := ⟨fun _ => ⟨rfl, rfl⟩⟩
instance pm_rp {a b : Str} : Pm .removeprefix (.str a) [.str b] (szOk a.length = true) (.str (Txt.removeprefix a b)) := ⟨fun c => ⟨rfl, by simp only [PM.ev, c, if_true]⟩⟩
instance pm_split {a b : Str} : Pm .split (.str a) [.str b] ((b.length == 0) = false ∧ a.length + 2 ≤ sizeLine) (.lst .own ((Txt.split a b).map D.str)) := ⟨fun c => ⟨rfl, by simp only [PM.ev, c.1, decide_eq_true c.2, Bool.not_false, Bool.and_self, if_true]⟩⟩
theorem fiS : ∀ (xs : List Str) (x : Str), ((xs.map D.str).findIdx? fun z => eqV z.toV (D.str x).toV) = xs.findIdx? (fun z => z == x)
  | [], _ => rfl
  | y :: ys, x => by
    simp only [List.map_cons, List.findIdx?_cons, fiS ys x]
    have e : eqV (D.str y).toV (D.str x).toV = (y == x) := by
      simp only [D.toV, eqV]
    rw [e]
instance pm_ixS {o : Ow} {xs : List Str} {x : Str} : Pm .index (.lst o (xs.map D.str)) [.str x] (x ∈ xs) (.int (xs.idxOf x : Nat)) := ⟨fun c => ⟨rfl, by
  have e1 : (xs.map D.str).all D.flat = true := by simp [List.all_map, D.flat]
  have e2 : (D.str x).flat = true := rfl
  simp only [PM.ev, e1, e2, Bool.and_self, if_true, fiS]
  have e3 := List.idxOf_lt_length_of_mem c
  rw [List.idxOf] at e3 ⊢
  rw [(List.findIdx?_eq_some_iff_findIdx_eq (i := List.findIdx (fun x_1 => x_1 == x) xs)).mpr ⟨e3, rfl⟩]
  rfl⟩⟩
end PD
set_option Elab.async false
set_option linter.all false
set_option maxRecDepth 100000
set_option maxHeartbeats 8000000
/-! PdZ: what expressions come to, by instances; statements by rules. -/
namespace PD
open PySem L2
/-- e is evaluated as a test like as a value, its truth behind -/
class Trm (e : CE) : Prop where
  h : ∀ (g : Gs) (ρ : Ev), e.ev g true ρ = R.tr true (e.ev g false ρ)
instance Trm.idx {a : CE} {b : CE} : Trm (.idx a b) := ⟨fun g ρ => by simp only [CE.ev]; rfl⟩
instance Trm.op2 {o : O2} {a : CE} {b : CE} : Trm (.op2 o a b) := ⟨fun g ρ => by simp only [CE.ev]; rfl⟩
instance Trm.sl {a : CE} {lo : CO} {hi : CO} : Trm (.sl a lo hi) := ⟨fun g ρ => by simp only [CE.ev]; rfl⟩
instance Trm.tup {es : CL} : Trm (.tup es) := ⟨fun g ρ => by simp only [CE.ev]; rfl⟩
instance Trm.lst {es : CL} : Trm (.lst es) := ⟨fun g ρ => by simp only [CE.ev]; rfl⟩
instance Trm.cal {i : Nat} {es : CL} : Trm (.cal i es) := ⟨fun g ρ => by simp only [CE.ev]; rfl⟩
instance Trm.blt {b' : B1} {es : CL} : Trm (.blt b' es) := ⟨fun g ρ => by simp only [CE.ev]; rfl⟩
instance Trm.lc {own : List Nat} {tg : Tg} {it : CI} {cs : CL} {a : CE} : Trm (.lc own tg it cs a) := ⟨fun g ρ => by simp only [CE.ev]; rfl⟩
instance Trm.mth {m : M1} {i : Nat} {es : CL} : Trm (.mth m i es) := ⟨fun g ρ => by simp only [CE.ev]; rfl⟩
instance Trm.mti {m : M1} {i : Nat} {j : Nat} {es : CL} : Trm (.mti m i j es) := ⟨fun g ρ => by simp only [CE.ev]; rfl⟩
instance Trm.fst {es : CL} : Trm (.fst es) := ⟨fun g ρ => by simp only [CE.ev]; rfl⟩
instance Trm.lit {d : D} : Trm (.lit d) := ⟨fun g ρ => by simp only [CE.ev]; rfl⟩
instance Trm.glb {i : Nat} : Trm (.glb i) := ⟨fun g ρ => by simp only [CE.ev]; rfl⟩
instance Trm.chn {o : O2} {o' : O2} {a : CE} {b : CE} {c : CE} : Trm (.chn o o' a b c) := ⟨fun g ρ => by simp only [CE.ev]; rfl⟩
instance Trm.var {m : Md} {i : Nat} : Trm (.var m i) := ⟨fun g ρ => by cases m <;> (simp only [CE.ev]; rfl)⟩
instance Trm.fz {a : CE} : Trm (.fz a) := ⟨fun g ρ => by simp only [CE.ev]; rfl⟩
instance Trm.rev {a : CE} : Trm (.rev a) := ⟨fun g ρ => by simp only [CE.ev]; rfl⟩
instance Trm.jn {z : Str} {a : CE} : Trm (.jn z a) := ⟨fun g ρ => by simp only [CE.ev]; rfl⟩
instance Trm.pm {pm : PM} {a : CE} {es : CL} : Trm (.pm pm a es) := ⟨fun g ρ => by simp only [CE.ev]; rfl⟩
class Qt (e : CE) : Prop where
  h : e.quiet = true
class QtL (es : CL) : Prop where
  h : es.quiet = true
instance {d : D} : Qt (.lit d) := ⟨rfl⟩
instance {i : Nat} : Qt (.var .frz i) := ⟨rfl⟩
instance {i : Nat} : Qt (.var .brw i) := ⟨rfl⟩
instance {i : Nat} : Qt (.glb i) := ⟨rfl⟩
instance {o : O2} {a b : CE} [h : Qt a] [h2 : Qt b] : Qt (.op2 o a b) := ⟨by simp [CE.quiet, h.h, h2.h]⟩
instance {o : O1} {a : CE} [h : Qt a] : Qt (.op1 o a) := ⟨by simp [CE.quiet, h.h]⟩
instance {a b : CE} [h : Qt a] [h2 : Qt b] : Qt (.idx a b) := ⟨by simp [CE.quiet, h.h, h2.h]⟩
instance {a b c : CE} [h : Qt a] [h2 : Qt b] [h3 : Qt c] : Qt (.ite a b c) := ⟨by simp [CE.quiet, h.h, h2.h, h3.h]⟩
instance {o o' : O2} {a b c : CE} [h : Qt a] [h2 : Qt b] [h3 : Qt c] : Qt (.chn o o' a b c) := ⟨by simp [CE.quiet, h.h, h2.h, h3.h]⟩
instance {a : CE} [h : Qt a] : Qt (.fz a) := ⟨by simp [CE.quiet, h.h]⟩
instance {a : CE} [h : Qt a] : Qt (.rev a) := ⟨by simp [CE.quiet, h.h]⟩
instance {z : Str} {a : CE} [h : Qt a] : Qt (.jn z a) := ⟨by simp [CE.quiet, h.h]⟩
instance {is : List Nat} {a : CE} [h : Qt a] : Qt (.bor is a) := ⟨by simp [CE.quiet, h.h]⟩
instance : QtL .nil := ⟨rfl⟩
instance {a : CE} {es : CL} [h : Qt a] [h2 : QtL es] : QtL (.cons a es) := ⟨by simp [CL.quiet, h.h, h2.h]⟩
instance {es : CL} [h : QtL es] : Qt (.con es) := ⟨by simp [CE.quiet, h.h]⟩
instance {es : CL} [h : QtL es] : Qt (.dis es) := ⟨by simp [CE.quiet, h.h]⟩
instance {es : CL} [h : QtL es] : Qt (.tup es) := ⟨by simp [CE.quiet, h.h]⟩
instance {es : CL} [h : QtL es] : Qt (.lst es) := ⟨by simp [CE.quiet, h.h]⟩
instance {i : Nat} {es : CL} [h : QtL es] : Qt (.cal i es) := ⟨by simp [CE.quiet, h.h]⟩
instance {b : B1} {es : CL} [h : QtL es] : Qt (.blt b es) := ⟨by simp [CE.quiet, h.h]⟩
class RQ (d : D) (e : CE) : Prop where
  h : (d.ret || e.quiet) = true
instance {d : D} {e : CE} [h : Rt d] : RQ d e := ⟨by simp [h.h]⟩
instance {d : D} {e : CE} [h : Qt e] : RQ d e := ⟨by simp [h.h]⟩
class RQL (d : D) (es : CL) : Prop where
  h : (d.ret || es.quiet) = true
instance {d : D} {e : CL} [h : Rt d] : RQL d e := ⟨by simp [h.h]⟩
instance {d : D} {e : CL} [h : QtL e] : RQL d e := ⟨by simp [h.h]⟩
class RQM (ds : List D) (es : CL) : Prop where
  h : (D.retL ds || es.quiet) = true
instance {d : List D} {e : CL} [h : RtL d] : RQM d e := ⟨by simp [h.h]⟩
instance {d : List D} {e : CL} [h : QtL e] : RQM d e := ⟨by simp [h.h]⟩
class RO (d : D) (lo hi : CO) : Prop where
  h : (d.ret || (lo.quiet && hi.quiet)) = true
instance {d : D} {lo hi : CO} [h : Rt d] : RO d lo hi := ⟨by simp [h.h]⟩
/-! the def's surroundings -/
class Kpt (g : Gs) (i : Nat) : Prop where
  h : g.kp.contains i = false
class GF (g : Gs) (i : Nat) (f : outParam (List D → RF)) (fk : outParam (List Nat)) : Prop where
  hf : g.fn i = f
  hk : g.fk i = fk
class GL (g : Gs) (i : Nat) (d : outParam D) : Prop where
  h : g.gl i = some d
/-- what a def answers -/
class Sp (f : List D → RF) (ds : List D) (C : outParam Prop) (d : outParam D) (out : outParam (List D)) : Prop where
  h : C → f ds = .ok d out
class LA (es : CL) (p : Nat) (o : outParam (Option Nat)) : Prop where
  h : es.lndAt p = o
instance {i : Nat} {es : CL} : LA (.cons (.lnd i) es) 0 (some i) := ⟨rfl⟩
instance {e : CE} {es : CL} {p : Nat} {o : Option Nat} [h : LA es p o] : LA (.cons e es) (p + 1) o := ⟨by rw [CL.lndAt]; exact h.h; all_goals (intros; simp_all)⟩
class GB (es : CL) (fk : List Nat) (out : List D) (ρ : Ev) (ρ' : outParam Ev) : Prop where
  h : giveBack es fk out ρ = some ρ'
instance {es : CL} {ρ : Ev} : GB es [] [] ρ ρ := ⟨rfl⟩
instance {es : CL} {p i : Nat} {ps : List Nat} {d : D} {ds : List D} {ρ ρ1 ρ2 : Ev} [h : LA es p (some i)] [h1 : Sl ρ i (some d) ρ1] [h2 : GB es ps ds ρ1 ρ2] : GB es (p :: ps) (d :: ds) ρ ρ2 := ⟨by
  simp only [giveBack, h.h, h1.h, h2.h]⟩
/-! ### expressions -/
class To (g : Gs) (e : CE) (t : Bool) (ρ : Ev) (C : outParam Prop) (d : outParam D) (ρ' : outParam Ev) : Prop where
  h : C → e.ev g t ρ = .ok d ρ'
class ToL (g : Gs) (es : CL) (ρ : Ev) (C : outParam Prop) (ds : outParam (List D)) (ρ' : outParam Ev) : Prop where
  h : C → es.ev g ρ = .ok ds ρ'
class ToO (g : Gs) (e : CO) (ρ : Ev) (C : outParam Prop) (d : outParam (Option Int)) (ρ' : outParam Ev) : Prop where
  h : C → ∃ x, e.ev g ρ = .ok x ρ' ∧ x.asInt = d
class ToI (g : Gs) (it : CI) (ρ : Ev) (C : outParam Prop) (ds : outParam (List D)) (ρ' : outParam Ev) : Prop where
  h : C → it.ev g ρ = .ok ds ρ'
section
variable {g : Gs} {ρ ρ1 ρ2 ρ3 : Ev} {a b c e : CE} {es : CL} {x y z : D} {C C1 C2 C3 C4 : Prop} {i : Nat} {t : Bool} {ds xs ys : List D} {k k' : Bool}
instance to_lit : To g (.lit x) false ρ True x ρ := ⟨fun _ => by simp only [CE.ev]; rfl⟩
instance to_frz [h : Gt ρ i x] [h1 : Fz x y] [h2 : Sl ρ i (some y) ρ1] : To g (.var .frz i) false ρ True y ρ1 := ⟨fun _ => by
  simp only [CE.ev, h.h, h1.h, h2.h]; rfl⟩
instance to_mov [h : Gt ρ i x] [h1 : Kpt g i] [h2 : Sl ρ i none ρ1] : To g (.var .mov i) false ρ True x ρ1 := ⟨fun _ => by
  simp only [CE.ev, h.h, h1.h, h2.h]; rfl⟩
instance to_brw [h : Gt ρ i x] [h1 : Bw x y] : To g (.var .brw i) false ρ True y ρ := ⟨fun _ => by
  simp only [CE.ev, h.h, h1.h]; rfl⟩
instance to_glb [h : GL g i x] : To g (.glb i) false ρ True x ρ := ⟨fun _ => by simp only [CE.ev, h.h]; rfl⟩
instance (priority := low) to_true [m : Trm e] [h : To g e false ρ C x ρ1] [h2 : Tr x C2 k] : To g e true ρ (C ∧ C2) (.bl k) ρ1 := ⟨fun q => by
  rw [m.h, h.h q.1]
  simp only [R.tr, if_true, R.bind, h2.h q.2]
  rfl⟩
instance to_op2 {o : O2} [h : To g a false ρ C1 x ρ1] [h2 : To g b false ρ1 C2 y ρ2] [h3 : RQ x b] [h4 : Op o x y C3 z] : To g (.op2 o a b) false ρ (C1 ∧ C2 ∧ C3) z ρ2 := ⟨fun q => by
  simp only [CE.ev, h.h q.1, R.bind, h2.h q.2.1, h3.h, if_true, h4.h q.2.2]; rfl⟩
instance to_notT [h : To g a true ρ C (.bl k) ρ1] : To g (.op1 .not a) true ρ C (.bl (!k)) ρ1 := ⟨fun q => by
  simp only [CE.ev, h.h q, R.bind]⟩
instance to_notF [h : To g a false ρ C x ρ1] [h2 : Tr x C2 k] : To g (.op1 .not a) false ρ (C ∧ C2) (.bl (!k)) ρ1 := ⟨fun q => by
  simp only [CE.ev, h.h q.1, R.bind, O1.ev, h2.h q.2]; rfl⟩
instance to_neg {n : Int} [h : To g a false ρ C (.int n) ρ1] : To g (.op1 .neg a) false ρ C (.int (-n)) ρ1 := ⟨fun q => by
  simp only [CE.ev, h.h q, R.bind, O1.ev]; rfl⟩
instance to_idx [h : To g a false ρ C1 x ρ1] [h2 : To g b false ρ1 C2 y ρ2] [h3 : RQ x b] [h4 : Ix x y C3 z] : To g (.idx a b) false ρ (C1 ∧ C2 ∧ C3) z ρ2 := ⟨fun q => by
  simp only [CE.ev, h.h q.1, R.bind, h2.h q.2.1, h3.h, if_true, h4.h q.2.2]; rfl⟩
instance toO_none : ToO g .none ρ True none ρ := ⟨fun _ => ⟨.non, by simp only [CO.ev], rfl⟩⟩
instance toO_some {n : Int} [h : To g a false ρ C (.int n) ρ1] : ToO g (.some a) ρ C (some n) ρ1 := ⟨fun q => ⟨.int n, by simp only [CO.ev, h.h q, R.bind], rfl⟩⟩
instance to_sl {lo hi : CO} {u v : Option Int} [h : To g a false ρ C1 x ρ1] [h2 : ToO g lo ρ1 C2 u ρ2] [h3 : ToO g hi ρ2 C3 v ρ3] [h4 : RO x lo hi] [h5 : Sc x u v C4 z] :
    To g (.sl a lo hi) false ρ (C1 ∧ C2 ∧ C3 ∧ C4) z ρ3 := ⟨fun q => by
  obtain ⟨l, e1, e2⟩ := h2.h q.2.1
  obtain ⟨r, e3, e4⟩ := h3.h q.2.2.1
  simp only [CE.ev, h.h q.1, R.bind, e1, e3, h4.h, if_true, e2, e4, h5.h q.2.2.2]; rfl⟩
instance to_tup [h : ToL g es ρ C ds ρ1] [h2 : RtL ds] : To g (.tup es) false ρ (C ∧ szOk ds.length = true) (.tup ds) ρ1 := ⟨fun q => by
  simp only [CE.ev, h.h q.1, RL.bind, h2.h, q.2]; rfl⟩
instance to_lst [h : ToL g es ρ C ds ρ1] [h2 : RtL ds] : To g (.lst es) false ρ (C ∧ szOk ds.length = true) (.lst .own ds) ρ1 := ⟨fun q => by
  simp only [CE.ev, h.h q.1, RL.bind, h2.h, q.2]; rfl⟩
instance to_cal {f : List D → RF} {fk : List Nat} {out : List D} [h : ToL g es ρ C ds ρ1] [h2 : RtL ds] [h3 : GF g i f fk] [h4 : Sp f ds C2 x out] [h5 : GB es fk out ρ1 ρ2] :
    To g (.cal i es) false ρ (C ∧ C2) x ρ2 := ⟨fun q => by
  simp only [CE.ev, h.h q.1, RL.bind, h2.h, if_true, h3.hf, h3.hk, h4.h q.2, h5.h]; rfl⟩
instance to_blt {b : B1} [h : ToL g es ρ C ds ρ1] [h2 : RQM ds es] [h3 : Bl b ds C2 x] : To g (.blt b es) false ρ (C ∧ C2) x ρ1 := ⟨fun q => by
  simp only [CE.ev, h.h q.1, RL.bind, h2.h, if_true, h3.h q.2]; rfl⟩
instance to_mth {m : M1} {xs0 : List D} [h0 : Gt ρ i (.lst .own xs0)] [h : ToL g es ρ C ds ρ1] [h1 : Gt ρ1 i (.lst .own xs)] [h2 : RtL ds] [h3 : Mt m xs ds C2 x ys] [h4 : Sl ρ1 i (some (.lst .own ys)) ρ2] :
    To g (.mth m i es) false ρ (C ∧ C2) x ρ2 := ⟨fun q => by
  simp only [CE.ev, h0.h, h.h q.1, RL.bind, h1.h, h2.h, if_true, h3.h q.2, h4.h]; rfl⟩
instance to_mti {m : M1} {j : Nat} {zs0 zs xs0 : List D} [h0 : Gt ρ i (.lst .own zs0)] [k0 : At zs0 j (.lst .own xs0)] [qe : QtL es] [h : ToL g es ρ C ds ρ1] [h1 : Gt ρ1 i (.lst .own zs)] [k1 : At zs j (.lst .own xs)] [h2 : RtL ds] [h3 : Mt m xs ds C2 x ys] [h4 : Sl ρ1 i (some (.lst .own (zs.set j (.lst .own ys)))) ρ2] :
    To g (.mti m i j es) false ρ (C ∧ C2) x ρ2 := ⟨fun q => by
  simp only [CE.ev, h0.h, k0.h, qe.h, if_true, h.h q.1, RL.bind, h1.h, k1.h, h2.h, h3.h q.2, h4.h]; rfl⟩
class Fm (d : D) (C : outParam Prop) (y : outParam Str) : Prop where
  h : C → fmtD d = some y
instance {y : Str} : Fm (.str y) (szOk y.length = true) y := ⟨fun h => by simp [fmtD, h]⟩
instance {i : Int} : Fm (.int i) (i.natAbs.log2 < 1920) (toString i) := ⟨fun h => by simp only [fmtD, decide_eq_true h, if_true]⟩
class FsL (g : Gs) (es : CL) (acc : Str) (ρ : Ev) (C : outParam Prop) (out : outParam Str) (ρ' : outParam Ev) : Prop where
  h : C → es.evFs g acc ρ = .ok (.str out) ρ'
instance fsl_nil {g : Gs} {acc : Str} {ρ : Ev} : FsL g .nil acc ρ True acc ρ := ⟨fun _ => rfl⟩
instance fsl_cons {acc y out : Str} {d : D} [h : To g e false ρ C d ρ1] [f : Fm d C2 y] [r : FsL g es (acc ++ y) ρ1 C3 out ρ2] : FsL g (.cons e es) acc ρ (C ∧ C2 ∧ szOk (acc ++ y).length = true ∧ C3) out ρ2 := ⟨fun q => by
  simp only [CL.evFs, h.h q.1, R.bind, f.h q.2.1, q.2.2.1, if_true, r.h q.2.2.2]⟩
instance to_fst {out : Str} [h : FsL g es Str.empty ρ C out ρ1] : To g (.fst es) false ρ C (.str out) ρ1 := ⟨fun q => by
  simp only [CE.ev, h.h q]; rfl⟩
instance to_fz [h : To g a false ρ C x ρ1] [r : Rt x] [f : Fz x y] : To g (.fz a) false ρ C y ρ1 := ⟨fun q => by
  simp only [CE.ev, h.h q, R.bind, r.h, if_true, f.h]; rfl⟩
instance to_rev [h : To g a false ρ C x ρ1] [r : Rv x y] : To g (.rev a) false ρ C y ρ1 := ⟨fun q => by
  simp only [CE.ev, h.h q, R.bind, r.h]; rfl⟩
instance to_jn {n : Str} [h : To g a false ρ C x ρ1] [r : Jn n x C2 y] : To g (.jn n a) false ρ (C ∧ C2) y ρ1 := ⟨fun q => by
  simp only [CE.ev, h.h q.1, R.bind, r.h q.2]; rfl⟩
instance to_pm {m : PM} [h : To g a false ρ C x ρ1] [h1 : ToL g es ρ1 C2 ds ρ2] [h2 : RQL x es] [r : Pm m x ds C3 y] : To g (.pm m a es) false ρ (C ∧ C2 ∧ C3) y ρ2 := ⟨fun q => by
  simp only [CE.ev, h.h q.1, R.bind, (r.h q.2.2).1, if_true, h1.h q.2.1, RL.bind, h2.h, (r.h q.2.2).2]; rfl⟩
instance toL_nil : ToL g .nil ρ True [] ρ := ⟨fun _ => by simp only [CL.ev]⟩
/-- no lent slot -/
class NL (e : CE) : Prop where
  h : ∀ i, e ≠ .lnd i
instance {a : CE} {b : CE} : NL (.idx a b) := ⟨fun _ h => by cases h⟩
instance {o : O2} {a : CE} {b : CE} : NL (.op2 o a b) := ⟨fun _ h => by cases h⟩
instance {a : CE} {lo : CO} {hi : CO} : NL (.sl a lo hi) := ⟨fun _ h => by cases h⟩
instance {es : CL} : NL (.tup es) := ⟨fun _ h => by cases h⟩
instance {es : CL} : NL (.lst es) := ⟨fun _ h => by cases h⟩
instance {i : Nat} {es : CL} : NL (.cal i es) := ⟨fun _ h => by cases h⟩
instance {b' : B1} {es : CL} : NL (.blt b' es) := ⟨fun _ h => by cases h⟩
instance {own : List Nat} {tg : Tg} {it : CI} {cs : CL} {a : CE} : NL (.lc own tg it cs a) := ⟨fun _ h => by cases h⟩
instance {m : M1} {i : Nat} {es : CL} : NL (.mth m i es) := ⟨fun _ h => by cases h⟩
instance {m : M1} {i : Nat} {j : Nat} {es : CL} : NL (.mti m i j es) := ⟨fun _ h => by cases h⟩
instance {es : CL} : NL (.fst es) := ⟨fun _ h => by cases h⟩
instance {d : D} : NL (.lit d) := ⟨fun _ h => by cases h⟩
instance {i : Nat} : NL (.glb i) := ⟨fun _ h => by cases h⟩
instance {o : O2} {o' : O2} {a : CE} {b : CE} {c : CE} : NL (.chn o o' a b c) := ⟨fun _ h => by cases h⟩
instance {m : Md} {i : Nat} : NL (.var m i) := ⟨fun _ h => by cases h⟩
instance {a : CE} : NL (.fz a) := ⟨fun _ h => by cases h⟩
instance {a : CE} : NL (.rev a) := ⟨fun _ h => by cases h⟩
instance {z : Str} {a : CE} : NL (.jn z a) := ⟨fun _ h => by cases h⟩
instance {pm : PM} {a : CE} {es : CL} : NL (.pm pm a es) := ⟨fun _ h => by cases h⟩
instance {is : List Nat} {a : CE} : NL (.bor is a) := ⟨fun _ h => by cases h⟩
instance {u : O1} {a : CE} : NL (.op1 u a) := ⟨fun _ h => by cases h⟩
instance {a : CE} {b : CE} {c : CE} : NL (.ite a b c) := ⟨fun _ h => by cases h⟩
instance {es : CL} : NL (.con es) := ⟨fun _ h => by cases h⟩
instance {es : CL} : NL (.dis es) := ⟨fun _ h => by cases h⟩
instance toL_cons [n : NL e] [h : To g e false ρ C x ρ1] [h1 : ToL g es ρ1 C2 ds ρ2] [h2 : RQL x es] : ToL g (.cons e es) ρ (C ∧ C2) (x :: ds) ρ2 := ⟨fun q => by
  rw [CL.ev.eq_3 _ _ _ _ (fun i => n.h i)]
  simp only [h.h q.1, R.thenL, h1.h q.2, RL.thenL, h2.h, if_true]⟩
instance toL_lnd [h0 : Gt ρ i y] [h1 : ToL g es ρ C ds ρ1] [h2 : Gt ρ1 i x] [h3 : Sl ρ1 i none ρ2] : ToL g (.cons (.lnd i) es) ρ C (x :: ds) ρ2 := ⟨fun q => by
  simp only [CL.ev, h0.h, h1.h q, RL.thenL, h2.h, h3.h]⟩
/-! and, or: the places are as they were -/
class ToA (g : Gs) (es : CL) (t : Bool) (ρ : Ev) (C : outParam Prop) (k : outParam Bool) : Prop where
  h : C → es.evAnd g t ρ = .ok (.bl k) ρ
class ToB (g : Gs) (es : CL) (t : Bool) (ρ : Ev) (C : outParam Prop) (k : outParam Bool) : Prop where
  h : C → es.evOr g t ρ = .ok (.bl k) ρ
instance toA_one [h : To g e t ρ C (.bl k) ρ] : ToA g (.cons e .nil) t ρ C k := ⟨fun q => by simp only [CL.evAnd, h.h q]⟩
instance toA_cons {e2 : CE} [h : To g e t ρ C (.bl k) ρ] [h2 : ToA g (.cons e2 es) t ρ C2 k'] : ToA g (.cons e (.cons e2 es)) t ρ (C ∧ (k = true → C2)) (k && k') := ⟨fun q => by
  rw [CL.evAnd.eq_3 _ _ _ _ _ (by intro h; cases h), h.h q.1]
  cases k with
  | true => simp only [R.bind, if_true, h2.h (q.2 rfl), Bool.true_and]
  | false => rfl⟩
instance toB_one [h : To g e t ρ C (.bl k) ρ] : ToB g (.cons e .nil) t ρ C k := ⟨fun q => by simp only [CL.evOr, h.h q]⟩
instance toB_cons {e2 : CE} [h : To g e t ρ C (.bl k) ρ] [h2 : ToB g (.cons e2 es) t ρ C2 k'] : ToB g (.cons e (.cons e2 es)) t ρ (C ∧ (k = false → C2)) (k || k') := ⟨fun q => by
  rw [CL.evOr.eq_3 _ _ _ _ _ (by intro h; cases h), h.h q.1]
  cases k with
  | false => simp only [R.bind, h2.h (q.2 rfl), Bool.false_or]; rfl
  | true => rfl⟩
instance to_con [h : ToA g es t ρ C k] : To g (.con es) t ρ C (.bl k) ρ := ⟨fun q => by simp only [CE.ev, h.h q]⟩
instance to_dis [h : ToB g es t ρ C k] : To g (.dis es) t ρ C (.bl k) ρ := ⟨fun q => by simp only [CE.ev, h.h q]⟩
class Mg (k : Bool) (x y : D) (z : outParam D) : Prop where
  h : (if k then x else y) = z
instance {i j : Int} : Mg k (.int i) (.int j) (.int (if k then i else j)) := ⟨by cases k <;> rfl⟩
instance {i j : Str} : Mg k (.str i) (.str j) (.str (if k then i else j)) := ⟨by cases k <;> rfl⟩
instance {i j : Bool} : Mg k (.bl i) (.bl j) (.bl (if k then i else j)) := ⟨by cases k <;> rfl⟩
instance to_ite [h : To g c true ρ C (.bl k) ρ] [h1 : To g a t ρ C1 x ρ] [h2 : To g b t ρ C2 y ρ] [h3 : Mg k x y z] : To g (.ite c a b) t ρ (C ∧ (k = true → C1) ∧ (k = false → C2)) z ρ := ⟨fun q => by
  rw [← h3.h]
  cases k with
  | true => simp only [CE.ev, h.h q.1, R.bind, if_true, h1.h (q.2.1 rfl)]
  | false => simp only [CE.ev, h.h q.1, R.bind, h2.h (q.2.2 rfl)]; rfl⟩
instance to_chn {o o' : O2} [h : To g a false ρ C1 x ρ] [h2 : To g b false ρ C2 y ρ] [h3 : Fzn x] [h4 : Fzn y] [h5 : Op o x y C3 (.bl k)] [h6 : To g c false ρ C4 z ρ] [h7 : Op o' y z C (.bl k')] :
    To g (.chn o o' a b c) false ρ (C1 ∧ C2 ∧ C3 ∧ (k = true → C4 ∧ C)) (.bl (k && k')) ρ := ⟨fun q => by
  simp only [CE.ev, h.h q.1, R.bind, h2.h q.2.1, h3.h, h4.h, Bool.and_self, if_true, h5.h q.2.2.1]
  cases k with
  | true => simp only [if_true, h6.h (q.2.2.2 rfl).1, h7.h (q.2.2.2 rfl).2, R.of, R.tr, Bool.true_and]; rfl
  | false => rfl⟩
/-! what is walked -/
class It (x : D) (xs : outParam (List D)) : Prop where
  h : itemsD x = some xs
class Li (x : D) (xs : outParam (List D)) : Prop where
  h : lstI x = some xs
instance li_l {o : Ow} [h : Rt (.lst o ds)] [h2 : FzL ds xs] : Li (.lst o ds) xs := ⟨by simp [lstI, h.h, h2.h]⟩
instance {o : Ow} [h : Li (.lst o ds) xs] : It (.lst o ds) xs := ⟨by simp [itemsD, h.h]⟩
instance [h : RtL ds] [h2 : FzL ds xs] : It (.tup ds) xs := ⟨by simp [itemsD, h.h, h2.h]⟩
instance {s : Str} : It (.str s) (strD s) := ⟨rfl⟩
instance toI_seq [h : To g a false ρ C x ρ1] [h2 : It x xs] : ToI g (.seq a) ρ C xs ρ1 := ⟨fun q => by simp only [CI.ev, h.h q, R.thenL, h2.h]⟩
instance toI_rng1 {j : Int} [h : To g a false ρ C (.int j) ρ1] : ToI g (.rng1 a) ρ (C ∧ rngOk j = true) (rangeD 0 j) ρ1 := ⟨fun q => by simp only [CI.ev, h.h q.1, R.thenL, q.2, if_true]⟩
instance toI_rng2 {i j : Int} [h : To g a false ρ C (.int i) ρ1] [h2 : To g b false ρ1 C2 (.int j) ρ2] : ToI g (.rng2 a b) ρ (C ∧ C2 ∧ rngOk i = true ∧ rngOk j = true) (rangeD i j) ρ2 := ⟨fun q => by
  simp only [CI.ev, h.h q.1, R.thenL, h2.h q.2.1, q.2.2.1, q.2.2.2, Bool.and_self, if_true]⟩
instance toI_zip [h : To g a false ρ C x ρ1] [h2 : To g b false ρ1 C2 y ρ2] [h3 : Li x xs] [h4 : Li y ys] : ToI g (.zip a b) ρ (C ∧ C2) (List.zipWith (fun x y => D.tup [x, y]) xs ys) ρ2 := ⟨fun q => by
  simp only [CI.ev, h.h q.1, R.thenL, h2.h q.2, h3.h, h4.h]⟩
instance toI_enm [h : To g a false ρ C x ρ1] [h3 : Li x xs] : ToI g (.enm a) ρ C (enumD xs) ρ1 := ⟨fun q => by
  simp only [CI.ev, h.h q, R.thenL, h3.h]⟩
end
/-! zip of three, borrowing -/
section
variable {g : Gs} {ρ ρ1 ρ2 ρ3 : Ev} {a b c : CE} {x y z : D} {C C1 C2 C3 : Prop} {xs ys zs : List D}
instance toI_zip3 [h : To g a false ρ C x ρ1] [h2 : To g b false ρ1 C2 y ρ2] [h3 : To g c false ρ2 C3 z ρ3] [l1 : Li x xs] [l2 : Li y ys] [l3 : Li z zs] : ToI g (.zip3 a b c) ρ (C ∧ C2 ∧ C3) (zip3D xs ys zs) ρ3 := ⟨fun q => by
  simp only [CI.ev, h.h q.1, R.thenL, h2.h q.2.1, h3.h q.2.2, l1.h, l2.h, l3.h]⟩
/-- the names of is count as frozen -/
class Fs (is : List Nat) (ρ : Ev) (ρ' : outParam Ev) : Prop where
  h : frzS is ρ = ρ'
instance {ρ : Ev} : Fs [] ρ ρ := ⟨rfl⟩
instance {i : Nat} {is : List Nat} {d d' : D} [h : Gt ρ i d] [hf : Fz d d'] [h1 : Sl ρ i (some d') ρ1] [h2 : Fs is ρ1 ρ2] : Fs (i :: is) ρ ρ2 := ⟨by simp only [frzS, h.h, hf.h, h1.h, h2.h]⟩
class Shl (ρ : Ev) : Prop where
  h : ρ.all shalD = true
instance : Shl [] := ⟨rfl⟩
instance shl_none [h : Shl ρ] : Shl (none :: ρ) := ⟨by simp only [List.all_cons, shalD, h.h, Bool.and_self]⟩
instance (priority := low) shl_fz [h : Shl ρ] [f : Fzn x] : Shl (some x :: ρ) := ⟨by
  have e : shalD (some x) = true := by
    have := f.h
    cases x with
    | lst o ds => cases o with
      | own => simp [D.fz] at this
      | _ => exact this
    | _ => exact this
  simp only [List.all_cons, e, h.h, Bool.and_self]⟩
instance shl_own {ds : List D} [h : Shl ρ] [f : FznL ds] : Shl (some (.lst .own ds) :: ρ) := ⟨by simp only [List.all_cons, shalD, f.h, h.h, Bool.and_self]⟩
class NoF (d : D) : Prop where
  h : d.noF = true
class NoFL (d : List D) : Prop where
  h : D.noFL d = true
instance {i : Int} : NoF (.int i) := ⟨rfl⟩
instance {i : Bool} : NoF (.bl i) := ⟨rfl⟩
instance {i : Str} : NoF (.str i) := ⟨rfl⟩
instance : NoF .non := ⟨rfl⟩
instance {ds : List D} [h : NoFL ds] : NoF (.tup ds) := ⟨by simpa [D.noF] using h.h⟩
instance {ds : List D} [h : NoFL ds] : NoF (.lst .own ds) := ⟨by simpa [D.noF] using h.h⟩
instance : NoFL [] := ⟨rfl⟩
instance {d : D} {ds : List D} [h : NoF d] [h2 : NoFL ds] : NoFL (d :: ds) := ⟨by simp [D.noFL, h.h, h2.h]⟩
theorem noFL_map {α : Type} (f : α → D) (h : ∀ a, (f a).noF = true) : ∀ xs : List α, D.noFL (xs.map f) = true
  | [] => rfl
  | x :: xs => by simp [D.noFL, h x, noFL_map f h xs]
instance {α : Type} {f : α → D} {xs : List α} [h : ∀ a, NoF (f a)] : NoFL (xs.map f) := ⟨noFL_map f (fun a => (h a).h) xs⟩
instance {xs : List Int} : NoFL (xs.map D.int) := ⟨noFL_map _ (fun _ => rfl) xs⟩
instance to_bor {is : List Nat} [f : Fs is ρ ρ1] [h : To g a false ρ1 C x ρ2] [n : NoF x] : To g (.bor is a) false ρ ((a.still && a.quiet) = true ∧ C) x ρ := ⟨fun q => by
  have e := q.1
  simp only [Bool.and_eq_true] at e
  simp only [CE.ev, e.1, e.2, Bool.and_self, if_true, f.h, h.h q.2, n.h]⟩
instance to_borT {is : List Nat} {k : Bool} [f : Fs is ρ ρ1] [h : To g a true ρ1 C (.bl k) ρ2] : To g (.bor is a) true ρ ((a.still && a.quiet) = true ∧ C) (.bl k) ρ := ⟨fun q => by
  have e := q.1
  simp only [Bool.and_eq_true] at e
  simp only [CE.ev, e.1, e.2, Bool.and_self, if_true, f.h, h.h q.2, D.noF]⟩
end
/-! ### targets -/
class Kpl (kp : List Nat) (i : Nat) : Prop where
  h : kp.contains i = false
instance {i : Nat} : Kpl [] i := ⟨rfl⟩
instance {g : Gs} {i : Nat} [h : Kpt g i] : Kpl g.kp i := ⟨h.h⟩
class TS (kp : List Nat) (t : Tg) (d : D) (ρ : Ev) (ρ' : outParam Ev) : Prop where
  h : t.st kp d ρ = some ρ'
class TSL (kp : List Nat) (t : TgL) (d : List D) (ρ : Ev) (ρ' : outParam Ev) : Prop where
  h : t.st kp d ρ = some ρ'
instance {g : List Nat} {i : Nat} {d : D} {ρ ρ' : Ev} [h : Rt d] [h2 : Kpl g i] [h3 : Sl ρ i (some d) ρ'] : TS g (.nm i) d ρ ρ' := ⟨by
  simp only [Tg.st, h.h, h2.h, h3.lt, h3.h]; rfl⟩
instance {g : List Nat} {ts : TgL} {ds : List D} {ρ ρ' : Ev} [h : TSL g ts ds ρ ρ'] : TS g (.tup ts) (.tup ds) ρ ρ' := ⟨by simp only [Tg.st, h.h]⟩
instance {g : List Nat} {ρ : Ev} : TSL g .nil [] ρ ρ := ⟨by simp only [TgL.st]⟩
instance {g : List Nat} {t : Tg} {ts : TgL} {d : D} {ds : List D} {ρ ρ1 ρ2 : Ev} [h : TS g t d ρ ρ1] [h2 : TSL g ts ds ρ1 ρ2] : TSL g (.cons t ts) (d :: ds) ρ ρ2 := ⟨by simp only [TgL.st, h.h, h2.h]⟩
/-! ### comprehensions over explicit lists and over numbers -/
class Wp (own : List Nat) (ρ : Ev) (ρ' : outParam Ev) : Prop where
  h : wipeD ρ own = ρ'
instance {ρ : Ev} : Wp [] ρ ρ := ⟨rfl⟩
instance {i : Nat} {is : List Nat} {ρ ρ1 ρ2 : Ev} [h : Wp is ρ ρ1] [h2 : Sl ρ1 i none ρ2] : Wp (i :: is) ρ ρ2 := ⟨by simp only [wipeD, h.h, h2.h]⟩
/-- the walked as an image -/
class Mp (xs : List D) (α : outParam Type) (f : outParam (α → D)) (ns : outParam (List α)) : Prop where
  h : xs = ns.map f
instance {α : Type} {f : α → D} {ns : List α} : Mp (ns.map f) α f ns := ⟨rfl⟩
instance {i j : Int} : Mp (rangeD i j) Nat (fun k : Nat => D.int (i + k)) (List.range (j - i).toNat) := ⟨rfl⟩
theorem len_wipe : ∀ (own : List Nat) (ρ : Ev), (wipeD ρ own).length = ρ.length
  | [], _ => rfl
  | i :: is, ρ => by simp [wipeD, len_wipe is ρ]
theorem get_wipe : ∀ (own : List Nat) (ρ : Ev) (j : Nat), (wipeD ρ own)[j]? = if j ∈ own ∧ j < ρ.length then some none else ρ[j]?
  | [], ρ, j => by simp [wipeD]
  | i :: is, ρ, j => by
    simp only [wipeD, List.getElem?_set, len_wipe, get_wipe is ρ j, List.mem_cons]
    by_cases e : i = j
    · subst e
      by_cases l : i < ρ.length
      · simp [l]
      · simp [l]
    · have e' : ¬ j = i := fun h => e h.symm
      simp [e, e']
theorem get_back : ∀ (own : List Nat) (ρ ρ2 : Ev) (j : Nat), (backD ρ own ρ2)[j]? = if j ∈ own ∧ j < ρ2.length then some (ρ[j]?.join) else ρ2[j]?
  | [], ρ, ρ2, j => by simp [backD]
  | i :: is, ρ, ρ2, j => by
    have hl : ∀ is, (backD ρ is ρ2).length = ρ2.length := by
      intro is
      induction is with
      | nil => rfl
      | cons i is ih => simp [backD, ih]
    simp only [backD, List.getElem?_set, hl, get_back is ρ ρ2 j, List.mem_cons]
    by_cases e : i = j
    · subst e
      by_cases l : i < ρ2.length
      · simp [l]
      · simp [l]
    · have e' : ¬ j = i := fun h => e h.symm
      simp [e, e']
theorem back_wipe (own : List Nat) (ρ ρ2 : Ev) (h : wipeD ρ2 own = wipeD ρ own) : backD ρ own ρ2 = ρ := by
  have hl : ρ2.length = ρ.length := by rw [← len_wipe own ρ2, h, len_wipe]
  apply List.ext_getElem?
  intro j
  rw [get_back]
  have hj := congrArg (fun r : Ev => r[j]?) h
  simp only [get_wipe, hl] at hj
  by_cases c : j ∈ own ∧ j < ρ.length
  · rw [hl, if_pos c, List.getElem?_eq_getElem c.2]; rfl
  · rw [if_neg c, if_neg c] at hj
    rw [hl, if_neg c, hj]
theorem lc_map {α : Type} {own : List Nat} {st : D → Ev → Option Ev} {tt el : Ev → R} {f F : α → D} {k : α → Bool} {ρw : Ev} :
    ∀ (ns : List α) (acc : List D) (ρ : Ev), wipeD ρ own = ρw →
      (∀ a ∈ ns, ∃ ρ2, st (f a) ρw = some ρ2 ∧ wipeD ρ2 own = ρw ∧ tt ρ2 = .ok (.bl (k a)) ρ2 ∧ (k a = true → el ρ2 = .ok (F a) ρ2 ∧ (F a).ret = true)) →
      acc.length + ns.length ≤ sizeLine →
      ∃ ρ', lcLoop own st tt el (ns.map f) acc ρ = .ok (.lst .own (acc ++ (ns.filter k).map F)) ρ' ∧ wipeD ρ' own = ρw
  | [], acc, ρ, hw, _, _ => ⟨ρ, by simp [lcLoop], hw⟩
  | a :: as, acc, ρ, hw, hs, hz => by
    obtain ⟨ρ2, e1, e2, e3, e4⟩ := hs a (by simp)
    simp only [List.length_cons] at hz
    cases ka : k a with
    | true =>
      obtain ⟨e5, e6⟩ := e4 ka
      obtain ⟨ρ', e7, e8⟩ := lc_map as (acc ++ [F a]) ρ2 e2 (fun b hb => hs b (by simp [hb])) (by simp; omega)
      refine ⟨ρ', ?_, e8⟩
      have hlt : decide (acc.length < sizeLine) = true := by simp; omega
      simp only [List.map_cons, lcLoop, hw, e1, e3, ka, e5, e6, hlt, Bool.and_self, if_true]
      rw [e7]
      simp [List.filter_cons, ka]
    | false =>
      obtain ⟨ρ', e7, e8⟩ := lc_map as acc ρ2 e2 (fun b hb => hs b (by simp [hb])) (by omega)
      refine ⟨ρ', ?_, e8⟩
      simp only [List.map_cons, lcLoop, hw, e1, e3, ka]
      rw [e7]
      simp [List.filter_cons, ka]
section
variable {g : Gs} {ρ ρ1 ρw : Ev} {α : Type} {own : List Nat} {tg : Tg} {it : CI} {e c : CE} {C : Prop} {xs : List D} {f F : α → D} {ns : List α} {ρ2 : α → Ev} {C2 C3 : α → Prop} {k : α → Bool}
instance to_lc [h : ToI g it ρ C xs ρ1] [m : Mp xs α f ns] [w : Wp own ρ1 ρw] [s : ∀ a, TS [] tg (f a) ρw (ρ2 a)] [h2 : ∀ a, To g e false (ρ2 a) (C2 a) (F a) (ρ2 a)] [r : ∀ a, Rt (F a)] [w2 : ∀ a, Wp own (ρ2 a) ρw] :
    To g (.lc own tg it .nil e) false ρ (C ∧ ns.length ≤ sizeLine ∧ ∀ a ∈ ns, C2 a) (.lst .own (ns.map F)) ρ1 := ⟨fun q => by
  obtain ⟨ρ', e1, e2⟩ := lc_map (own := own) (st := tg.st []) (tt := fun ρ => CL.nil.evIf g ρ) (el := fun ρ => e.ev g false ρ) (f := f) (F := F) (k := fun _ => true) (ρw := ρw) ns [] ρ1 w.h
    (fun a ha => ⟨ρ2 a, (s a).h, (w2 a).h, by simp only [CL.evIf], fun _ => ⟨(h2 a).h (q.2.2 a ha), (r a).h⟩⟩) (by simpa using q.2.1)
  simp only [CE.ev, h.h q.1, m.h, e1, R.tr]
  rw [back_wipe _ _ _ (by rw [e2, w.h])]
  rw [List.filter_eq_self.mpr (fun _ _ => rfl)]
  rfl⟩
instance to_lcf [h : ToI g it ρ C xs ρ1] [m : Mp xs α f ns] [w : Wp own ρ1 ρw] [s : ∀ a, TS [] tg (f a) ρw (ρ2 a)] [h3 : ∀ a, To g c true (ρ2 a) (C3 a) (.bl (k a)) (ρ2 a)] [h2 : ∀ a, To g e false (ρ2 a) (C2 a) (F a) (ρ2 a)] [r : ∀ a, Rt (F a)] [w2 : ∀ a, Wp own (ρ2 a) ρw] :
    To g (.lc own tg it (.cons c .nil) e) false ρ (C ∧ ns.length ≤ sizeLine ∧ ∀ a ∈ ns, C3 a ∧ (k a = true → C2 a)) (.lst .own ((ns.filter k).map F)) ρ1 := ⟨fun q => by
  obtain ⟨ρ', e1, e2⟩ := lc_map (own := own) (st := tg.st []) (tt := fun ρ => (CL.cons c .nil).evIf g ρ) (el := fun ρ => e.ev g false ρ) (f := f) (F := F) (k := k) (ρw := ρw) ns [] ρ1 w.h
    (fun a ha => ⟨ρ2 a, (s a).h, (w2 a).h, by simp only [CL.evIf, (h3 a).h (q.2.2 a ha).1], fun hk => ⟨(h2 a).h ((q.2.2 a ha).2 hk), (r a).h⟩⟩) (by simpa using q.2.1)
  simp only [CE.ev, h.h q.1, m.h, e1, R.tr]
  rw [back_wipe _ _ _ (by rw [e2, w.h])]
  simp⟩
end
/-! over explicit lists -/
class LX (g : Gs) (own : List Nat) (tg : Tg) (e : CE) (ρw : Ev) (xs : List D) (C : outParam Prop) (ys : outParam (List D)) : Prop where
  h : C → ∀ (acc : List D) (ρ : Ev), wipeD ρ own = ρw → acc.length + xs.length ≤ sizeLine → ∃ ρ', lcLoop own (tg.st []) (fun ρ => CL.nil.evIf g ρ) (fun ρ => e.ev g false ρ) xs acc ρ = .ok (.lst .own (acc ++ ys)) ρ' ∧ wipeD ρ' own = ρw
section
variable {g : Gs} {ρ ρ1 ρ2 ρw : Ev} {own : List Nat} {tg : Tg} {it : CI} {e : CE} {C C2 : Prop} {xs ys : List D} {x y : D}
instance lx_nil : LX g own tg e ρw [] True [] := ⟨fun _ acc ρ hw _ => ⟨ρ, by simp [lcLoop], hw⟩⟩
instance lx_cons [s : TS [] tg x ρw ρ2] [h : To g e false ρ2 C y ρ2] [r : Rt y] [w : Wp own ρ2 ρw] [h2 : LX g own tg e ρw xs C2 ys] : LX g own tg e ρw (x :: xs) (C ∧ C2) (y :: ys) := ⟨fun q acc ρ hw hz => by
  simp only [List.length_cons] at hz
  obtain ⟨ρ', e1, e2⟩ := h2.h q.2 (acc ++ [y]) ρ2 w.h (by simp; omega)
  refine ⟨ρ', ?_, e2⟩
  have hlt : decide (acc.length < sizeLine) = true := by simp; omega
  have ht : CL.nil.evIf g ρ2 = .ok (.bl true) ρ2 := by simp only [CL.evIf]
  simp only [lcLoop, hw, s.h, ht, h.h q.1, r.h, hlt, Bool.and_self, if_true]
  rw [e1]
  simp⟩
instance (priority := low) to_lcx [h : ToI g it ρ C xs ρ1] [w : Wp own ρ1 ρw] [l : LX g own tg e ρw xs C2 ys] : To g (.lc own tg it .nil e) false ρ (C ∧ xs.length ≤ sizeLine ∧ C2) (.lst .own ys) ρ1 := ⟨fun q => by
  obtain ⟨ρ', e1, e2⟩ := l.h q.2.2 [] ρ1 w.h (by simpa using q.2.1)
  simp only [CE.ev, h.h q.1, e1, R.tr]
  rw [back_wipe _ _ _ (by rw [e2, w.h])]
  rfl⟩
end
end PD
set_option Elab.async false
set_option linter.all false
set_option maxRecDepth 100000
set_option maxHeartbeats 8000000
/-! PdZb: statements, by rules. -/
namespace PD
open PySem L2
abbrev XP := String → List D → Ev → Prop
def RS.wq (r : RS) (X : XP) (R : D → Ev → Prop) (B C N : Ev → Prop) : Prop := match r with
  | .nx ρ => N ρ
  | .ret d ρ => R d ρ
  | .brk ρ => B ρ
  | .cnt ρ => C ρ
  | .exc c fs ρ => X c fs ρ
  | .stuck => False
def R.wq (r : R) (X : XP) (Q : D → Ev → Prop) : Prop := match r with
  | .ok d ρ => Q d ρ
  | .exc c fs ρ => X c fs ρ
  | .stuck => False
/-- a structure, so that nobody reckons it out while it stands as a goal -/
structure RS.wp (r : RS) (X : XP) (R : D → Ev → Prop) (B C N : Ev → Prop) : Prop where
  h : r.wq X R B C N
structure R.wp (r : R) (X : XP) (Q : D → Ev → Prop) : Prop where
  h : r.wq X Q
section
variable {X : XP} {T : D → Ev → Prop} {B C N : Ev → Prop} {ρ : Ev} {d : D}
theorem wp_nx : (RS.nx ρ).wp X T B C N ↔ N ρ := ⟨fun h => h.h, fun h => ⟨h⟩⟩
theorem wp_ret : (RS.ret d ρ).wp X T B C N ↔ T d ρ := ⟨fun h => h.h, fun h => ⟨h⟩⟩
theorem wp_brk : (RS.brk ρ).wp X T B C N ↔ B ρ := ⟨fun h => h.h, fun h => ⟨h⟩⟩
theorem wp_cnt : (RS.cnt ρ).wp X T B C N ↔ C ρ := ⟨fun h => h.h, fun h => ⟨h⟩⟩
theorem wp_ok : (R.ok d ρ).wp X T ↔ T d ρ := ⟨fun h => h.h, fun h => ⟨h⟩⟩
end
/-- slots, some of them set -/
def stP (o : Option Ev) (P : Ev → Prop) : Prop := ∃ ρ, o = some ρ ∧ P ρ
class Up (xs : List D) (k : Int) (d : D) (ys : outParam (List D)) : Prop where
  h : ys = xs.set k.toNat d
instance {ns : List Int} {k n : Int} : Up (ns.map D.int) k (.int n) ((ns.set k.toNat n).map D.int) := ⟨by simp [List.map_set]⟩
instance (priority := low) {xs : List D} {k : Int} {d : D} : Up xs k d (xs.set k.toNat d) := ⟨rfl⟩
theorem ixN_in {n : Nat} {k : Int} (h : 0 ≤ k ∧ k < n) : ixN n k = some k.toNat := by
  unfold ixN
  rw [if_pos h.1, if_pos h.2]
section
variable {g : Gs} {ρ ρ1 ρ2 ρ3 : Ev} {a b c e : CE} {es : CL} {x y z d : D} {K K2 : Prop} {i j : Nat} {s : CS} {r sa sb : CSs} {k : Bool} {t : Tg}
variable {X : XP} {T : D → Ev → Prop} {B C N : Ev → Prop}
theorem w_nil (h : N ρ) : (CSs.nil.ev g ρ).wp X T B C N := by simpa only [CSs.ev, wp_nx, wp_ret, wp_brk, wp_cnt] using h
theorem w_seq (h : (s.ev g ρ).wp X T B C fun ρ1 => (r.ev g ρ1).wp X T B C N) : ((CSs.cons s r).ev g ρ).wp X T B C N := by
  simp only [CSs.ev]
  revert h
  cases s.ev g ρ <;> first | exact fun h => h.h | exact fun h => ⟨h.h⟩ | exact fun h => h
/-- the last one -/
theorem w_end (h : (s.ev g ρ).wp X T B C N) : ((CSs.cons s .nil).ev g ρ).wp X T B C N := by
  simp only [CSs.ev]
  revert h
  cases s.ev g ρ <;> first | exact fun h => h.h | exact fun h => ⟨h.h⟩ | exact fun h => h
theorem w_asg [h : To g e false ρ K d ρ1] [h2 : TS g.kp t d ρ1 ρ2] (q : K) (n : N ρ2) : ((CS.asg t e).ev g ρ).wp X T B C N := by
  simpa only [CS.ev, h.h q, R.thenS, h2.h, wp_nx, wp_ret, wp_brk, wp_cnt] using n
theorem w_asgI {n : Int} {ρ2 : Int → Ev} [h : To g e false ρ K (.int n) ρ1] [h2 : ∀ m, TS g.kp t (.int m) ρ1 (ρ2 m)] (q : K) (n : ∀ m, m = n → N (ρ2 m)) : ((CS.asg t e).ev g ρ).wp X T B C N := by
  simpa only [CS.ev, h.h q, R.thenS, (h2 _).h, wp_nx, wp_ret, wp_brk, wp_cnt] using n _ rfl
theorem w_set {ix : CE} {xs xs2 ys : List D} {k : Int} [h : To g e false ρ K d ρ1] [h1 : Gt ρ1 i (.lst .own xs)] [r : Rt d] [h2 : To g ix false ρ1 K2 (.int k) ρ2] [h3 : Gt ρ2 i (.lst .own xs2)] [u : Up xs2 k d ys] [h4 : Sl ρ2 i (some (.lst .own ys)) ρ3]
    (q : K) (q2 : K2) (hk : 0 ≤ k ∧ k < xs2.length) (n : N ρ3) : ((CS.set i ix e).ev g ρ).wp X T B C N := by
  have ho : isOwn ρ1 i = true := by simp only [isOwn, h1.h]
  simp only [CS.ev, h.h q, R.thenS, ho, r.h, Bool.and_self, if_true, h2.h q2, setAt, h3.h, ixN_in hk, ← u.h, h4.h]
  exact ⟨n⟩
theorem w_par [h : To g a false ρ K x ρ1] [h2 : To g b false ρ1 K2 y ρ2] [rx : Rt x] [ry : Rt y] [ki : Kpt g i] [kj : Kpt g j] [h3 : Sl ρ2 i (some x) ρ3] {ρ4 : Ev} [h4 : Sl ρ3 j (some y) ρ4] (q : K) (q2 : K2) (n : N ρ4) : ((CS.par i j a b).ev g ρ).wp X T B C N := by
  have l3 := h3.lt
  have l4 : j < ρ2.length := by have := h4.lt; rw [← h3.h] at this; simpa using this
  have e3 : (x.ret && y.ret && !g.kp.contains i && !g.kp.contains j && decide (i < ρ2.length) && decide (j < ρ2.length)) = true := by rw [rx.h, ry.h, ki.h, kj.h]; simp [l3, l4]
  simp only [CS.ev, h.h q, R.thenS, h2.h q2, e3, if_true, h3.h, h4.h]
  exact ⟨n⟩
theorem w_par3 {kk : Nat} [h : To g a false ρ K x ρ1] [h2 : To g b false ρ1 K2 y ρ2] {K3 : Prop} [h5 : To g c false ρ2 K3 z ρ3] [fx : Fzn x] [fy : Fzn y] [fz : Fzn z] [ki : Kpt g i] [kj : Kpt g j] [kk' : Kpt g kk] {ρ4 ρ5 ρ6 : Ev} [s1 : Sl ρ3 i (some x) ρ4] [s2 : Sl ρ4 j (some y) ρ5] [s3 : Sl ρ5 kk (some z) ρ6]
    (q : K) (q2 : K2) (q3 : K3) (n : N ρ6) : ((CS.par3 i j kk a b c).ev g ρ).wp X T B C N := by
  have l1 := s1.lt
  have l2 : j < ρ3.length := by have := s2.lt; rw [← s1.h] at this; simpa using this
  have l3 : kk < ρ3.length := by have := s3.lt; rw [← s2.h, ← s1.h] at this; simpa using this
  have e3 : (x.fz && y.fz && z.fz && !g.kp.contains i && !g.kp.contains j && !g.kp.contains kk && decide (i < ρ3.length) && decide (j < ρ3.length) && decide (kk < ρ3.length)) = true := by rw [fx.h, fy.h, fz.h, ki.h, kj.h, kk'.h]; simp [l1, l2, l3]
  simp only [CS.ev, h.h q, R.thenS, h2.h q2, h5.h q3, e3, if_true, s1.h, s2.h, s3.h]
  exact ⟨n⟩
theorem w_wip {is : List Nat} [h : Wp is ρ ρ1] (n : N ρ1) : ((CS.wip is).ev g ρ).wp X T B C N := by
  simpa only [CS.ev, h.h, wp_nx, wp_ret, wp_brk, wp_cnt] using n
theorem w_augP {u v : Int} {ρ2 : Int → Ev} [h0 : Gt ρ i (.int u)] [h : To g e false ρ K (.int v) ρ1] [ki : Kpt g i] [h3 : ∀ m, Sl ρ1 i (some (.int m)) (ρ2 m)] (q : K) (n : ∀ m, m = u + v → N (ρ2 m)) : ((CS.aug i false e).ev g ρ).wp X T B C N := by
  simp only [CS.ev, h0.h, h.h q, R.thenS, ki.h, (h3 _).h]
  exact ⟨n _ rfl⟩
theorem w_augN {u v : Int} {ρ2 : Int → Ev} [h0 : Gt ρ i (.int u)] [h : To g e false ρ K (.int v) ρ1] [ki : Kpt g i] [h3 : ∀ m, Sl ρ1 i (some (.int m)) (ρ2 m)] (q : K) (n : ∀ m, m = u - v → N (ρ2 m)) : ((CS.aug i true e).ev g ρ).wp X T B C N := by
  simp only [CS.ev, h0.h, h.h q, R.thenS, ki.h, (h3 _).h]
  exact ⟨n _ rfl⟩
theorem w_exp [h : To g e false ρ K d ρ1] (q : K) (n : N ρ1) : ((CS.exp e).ev g ρ).wp X T B C N := by
  simpa only [CS.ev, h.h q, R.thenS, wp_nx, wp_ret, wp_brk, wp_cnt] using n
theorem w_ret [h : To g e false ρ K d ρ1] [r : Rt d] (q : K) (n : T d ρ1) : ((CS.ret e).ev g ρ).wp X T B C N := by
  simpa only [CS.ev, h.h q, R.thenS, r.h, if_true, wp_nx, wp_ret, wp_brk, wp_cnt] using n
theorem w_retN (n : T .non ρ) : (CS.retN.ev g ρ).wp X T B C N := by simpa only [CS.ev, wp_nx, wp_ret, wp_brk, wp_cnt] using n
theorem w_brk (n : B ρ) : (CS.brk.ev g ρ).wp X T B C N := by simpa only [CS.ev, wp_nx, wp_ret, wp_brk, wp_cnt] using n
theorem w_cnt (n : C ρ) : (CS.cnt.ev g ρ).wp X T B C N := by simpa only [CS.ev, wp_nx, wp_ret, wp_brk, wp_cnt] using n
theorem w_pass (n : N ρ) : (CS.pass.ev g ρ).wp X T B C N := by simpa only [CS.ev, wp_nx, wp_ret, wp_brk, wp_cnt] using n
class Fl (d : D) : Prop where
  h : d.flat = true
instance : Fl .non := ⟨rfl⟩
instance {b : Bool} : Fl (.bl b) := ⟨rfl⟩
instance {i : Int} : Fl (.int i) := ⟨rfl⟩
instance {x : Str} : Fl (.str x) := ⟨rfl⟩
class ToF (g : Gs) (es : CL) (ρ : Ev) (C : outParam Prop) (ds : outParam (List D)) (ρ' : outParam Ev) : Prop where
  h : C → es.evFlat g ρ = some (ds, ρ')
instance tof_nil : ToF g .nil ρ True [] ρ := ⟨fun _ => rfl⟩
instance tof_cons {ds : List D} [h : To g e false ρ K d ρ1] [f : Fl d] [h2 : ToF g es ρ1 K2 ds ρ2] : ToF g (.cons e es) ρ (K ∧ K2) (d :: ds) ρ2 := ⟨fun q => by
  simp only [CL.evFlat, h.h q.1, f.h, if_true, h2.h q.2]⟩
theorem w_dret {ks : List Str} {ds : List D} {ke : CE} {w : Str} {ρ4 : Ev} [h : ToF g es ρ K ds ρ1] [s1 : Sl ρ1 j none ρ2] [h2 : To g ke false ρ2 K2 (.str w) ρ4] (q : K) (q2 : K2)
    (c1 : (!ks.isEmpty && decide (ks.length ≤ 15) && decide ks.Nodup) = true) (c2 : ks.length = ds.length) (c3 : g.kp.contains j = false) (c4 : j < ρ1.length) (hl : lk w ks ds = some d) (n : T d ρ4) : ((CSs.dret j ks es ke).ev g ρ).wp X T B C N := by
  have hc : (!ks.isEmpty && decide (ks.length ≤ 15) && decide (ks.length = ds.length) && decide ks.Nodup && !g.kp.contains j && decide (j < ρ1.length)) = true := by
    simp only [Bool.and_eq_true] at c1
    simp only [c1.1.1, c1.1.2, c1.2, decide_eq_true c2, c3, decide_eq_true c4, Bool.not_false, Bool.and_self]
  simp only [CSs.ev, h.h q, s1.h, h2.h q2, hc, if_true, hl]
  exact ⟨n⟩
theorem w_ifs [h : To g c true ρ K (.bl k) ρ1] (q : K) (ha : k = true → (sa.ev g ρ1).wp X T B C N) (hb : k = false → (sb.ev g ρ1).wp X T B C N) : ((CS.ifs c sa sb).ev g ρ).wp X T B C N := by
  simp only [CS.ev, h.h q, R.thenS]
  cases k with
  | true => exact ha rfl
  | false => exact hb rfl
theorem w_ifT [h : To g c true ρ K (.bl true) ρ1] (q : K) (ha : (sa.ev g ρ1).wp X T B C N) : ((CS.ifs c sa sb).ev g ρ).wp X T B C N := by
  simpa only [CS.ev, h.h q, R.thenS, if_true] using ha
theorem w_ifF [h : To g c true ρ K (.bl false) ρ1] (q : K) (hb : (sb.ev g ρ1).wp X T B C N) : ((CS.ifs c sa sb).ev g ρ).wp X T B C N := by
  simp only [CS.ev, h.h q, R.thenS]
  exact hb
/-- a test on numbers, as a proposition -/
theorem w_ifD {P : Prop} [dp : Decidable P] [h : To g c true ρ K (.bl (decide P)) ρ1] (q : K) (ha : P → (sa.ev g ρ1).wp X T B C N) (hb : ¬ P → (sb.ev g ρ1).wp X T B C N) : ((CS.ifs c sa sb).ev g ρ).wp X T B C N :=
  w_ifs q (fun e => ha (of_decide_eq_true e)) (fun e => hb (of_decide_eq_false e))
theorem w_ifN {P : Prop} [dp : Decidable P] [h : To g c true ρ K (.bl (!decide P)) ρ1] (q : K) (ha : ¬ P → (sa.ev g ρ1).wp X T B C N) (hb : P → (sb.ev g ρ1).wp X T B C N) : ((CS.ifs c sa sb).ev g ρ).wp X T B C N :=
  w_ifs q (fun e => ha (by simpa using e)) (fun e => hb (by simpa using e))
theorem w_if_not (h : ((CS.ifs c sb sa).ev g ρ).wp X T B C N) : ((CS.ifs (.op1 .not c) sa sb).ev g ρ).wp X T B C N := by
  simp only [CS.ev, CE.ev] at h ⊢
  revert h
  cases c.ev g true ρ with
  | ok d ρ1 =>
    cases d with
    | bl k => cases k <;> first | exact fun h => h.h | exact fun h => ⟨h.h⟩ | exact fun h => h
    | _ => first | exact fun h => h.h | exact fun h => ⟨h.h⟩ | exact fun h => h
  | _ => first | exact fun h => h.h | exact fun h => ⟨h.h⟩ | exact fun h => h
theorem w_if_con1 (h : ((CS.ifs e sa sb).ev g ρ).wp X T B C N) : ((CS.ifs (.con (.cons e .nil)) sa sb).ev g ρ).wp X T B C N := by
  simpa only [CS.ev, CE.ev, CL.evAnd] using h
theorem w_if_dis1 (h : ((CS.ifs e sa sb).ev g ρ).wp X T B C N) : ((CS.ifs (.dis (.cons e .nil)) sa sb).ev g ρ).wp X T B C N := by
  simpa only [CS.ev, CE.ev, CL.evOr] using h
theorem then_self (r : RS) : (r.then fun ρ1 => .nx ρ1) = r := by cases r <;> rfl
theorem w_if_con {e2 : CE} (h : ((CS.ifs e (.cons (.ifs (.con (.cons e2 es)) sa sb) .nil) sb).ev g ρ).wp X T B C N) : ((CS.ifs (.con (.cons e (.cons e2 es))) sa sb).ev g ρ).wp X T B C N := by
  simp only [CS.ev, CSs.ev, then_self, CE.ev] at h ⊢
  rw [CL.evAnd.eq_3 _ _ _ _ _ (by intro h; cases h)]
  revert h
  cases e.ev g true ρ with
  | ok d ρ1 =>
    cases d with
    | bl k => cases k <;> first | exact fun h => h.h | exact fun h => ⟨h.h⟩ | exact fun h => h
    | _ => first | exact fun h => h.h | exact fun h => ⟨h.h⟩ | exact fun h => h
  | _ => first | exact fun h => h.h | exact fun h => ⟨h.h⟩ | exact fun h => h
theorem w_if_dis {e2 : CE} (h : ((CS.ifs e sa (.cons (.ifs (.dis (.cons e2 es)) sa sb) .nil)).ev g ρ).wp X T B C N) : ((CS.ifs (.dis (.cons e (.cons e2 es))) sa sb).ev g ρ).wp X T B C N := by
  simp only [CS.ev, CSs.ev, then_self, CE.ev] at h ⊢
  rw [CL.evOr.eq_3 _ _ _ _ _ (by intro h; cases h)]
  revert h
  cases e.ev g true ρ with
  | ok d ρ1 =>
    cases d with
    | bl k => cases k <;> first | exact fun h => h.h | exact fun h => ⟨h.h⟩ | exact fun h => h
    | _ => first | exact fun h => h.h | exact fun h => ⟨h.h⟩ | exact fun h => h
  | _ => first | exact fun h => h.h | exact fun h => ⟨h.h⟩ | exact fun h => h
/-! a value that is split: and, or, a if c else b -/
theorem w_ret_con {e2 : CE} [h : To g e false ρ K (.bl k) ρ1] (q : K) (ha : k = true → ((CS.ret (.con (.cons e2 es))).ev g ρ1).wp X T B C N) (hb : k = false → T (.bl false) ρ1) : ((CS.ret (.con (.cons e (.cons e2 es)))).ev g ρ).wp X T B C N := by
  simp only [CS.ev, CE.ev] at ha ⊢
  rw [CL.evAnd.eq_3 _ _ _ _ _ (by intro h; cases h), h.h q]
  cases k with
  | true => exact ha rfl
  | false => exact ⟨hb rfl⟩
theorem w_ret_dis {e2 : CE} [h : To g e false ρ K (.bl k) ρ1] (q : K) (ha : k = true → T (.bl true) ρ1) (hb : k = false → ((CS.ret (.dis (.cons e2 es))).ev g ρ1).wp X T B C N) : ((CS.ret (.dis (.cons e (.cons e2 es)))).ev g ρ).wp X T B C N := by
  simp only [CS.ev, CE.ev] at hb ⊢
  rw [CL.evOr.eq_3 _ _ _ _ _ (by intro h; cases h), h.h q]
  cases k with
  | true => exact ⟨ha rfl⟩
  | false => exact hb rfl
theorem w_ret_con1 (h : ((CS.ret e).ev g ρ).wp X T B C N) : ((CS.ret (.con (.cons e .nil))).ev g ρ).wp X T B C N := by simpa only [CS.ev, CE.ev, CL.evAnd] using h
theorem w_ret_dis1 (h : ((CS.ret e).ev g ρ).wp X T B C N) : ((CS.ret (.dis (.cons e .nil))).ev g ρ).wp X T B C N := by simpa only [CS.ev, CE.ev, CL.evOr] using h
theorem w_asg_con {e2 : CE} [h : To g e false ρ K (.bl k) ρ1] [h2 : TS g.kp t (.bl false) ρ1 ρ2] (q : K) (ha : k = true → ((CS.asg t (.con (.cons e2 es))).ev g ρ1).wp X T B C N) (hb : k = false → N ρ2) : ((CS.asg t (.con (.cons e (.cons e2 es)))).ev g ρ).wp X T B C N := by
  simp only [CS.ev, CE.ev] at ha ⊢
  rw [CL.evAnd.eq_3 _ _ _ _ _ (by intro h; cases h), h.h q]
  cases k with
  | true => exact ha rfl
  | false =>
    have e3 : (if false = true then CL.evAnd g (CL.cons e2 es) false ρ1 else R.ok (D.bl false) ρ1) = R.ok (D.bl false) ρ1 := rfl
    simp only [R.bind, e3, R.thenS, h2.h]
    exact ⟨hb rfl⟩
theorem w_asg_con1 (h : ((CS.asg t e).ev g ρ).wp X T B C N) : ((CS.asg t (.con (.cons e .nil))).ev g ρ).wp X T B C N := by simpa only [CS.ev, CE.ev, CL.evAnd] using h
theorem w_asg_dis1 (h : ((CS.asg t e).ev g ρ).wp X T B C N) : ((CS.asg t (.dis (.cons e .nil))).ev g ρ).wp X T B C N := by simpa only [CS.ev, CE.ev, CL.evOr] using h
theorem w_asg_dis {e2 : CE} [h : To g e false ρ K (.bl k) ρ1] [h2 : TS g.kp t (.bl true) ρ1 ρ2] (q : K) (ha : k = true → N ρ2) (hb : k = false → ((CS.asg t (.dis (.cons e2 es))).ev g ρ1).wp X T B C N) : ((CS.asg t (.dis (.cons e (.cons e2 es)))).ev g ρ).wp X T B C N := by
  simp only [CS.ev, CE.ev] at hb ⊢
  rw [CL.evOr.eq_3 _ _ _ _ _ (by intro h; cases h), h.h q]
  cases k with
  | false => exact hb rfl
  | true =>
    simp only [R.bind, if_true, R.thenS, h2.h]
    exact ⟨ha rfl⟩
theorem w_ret_ite (h : ((CS.ifs c (.cons (.ret a) .nil) (.cons (.ret b) .nil)).ev g ρ).wp X T B C N) : ((CS.ret (.ite c a b)).ev g ρ).wp X T B C N := by
  simp only [CS.ev, CSs.ev, then_self, CE.ev] at h ⊢
  revert h
  cases c.ev g true ρ with
  | ok d ρ1 =>
    cases d with
    | bl k => cases k <;> first | exact fun h => h.h | exact fun h => ⟨h.h⟩ | exact fun h => h
    | _ => first | exact fun h => h.h | exact fun h => ⟨h.h⟩ | exact fun h => h
  | _ => first | exact fun h => h.h | exact fun h => ⟨h.h⟩ | exact fun h => h
theorem w_asg_ite (h : ((CS.ifs c (.cons (.asg t a) .nil) (.cons (.asg t b) .nil)).ev g ρ).wp X T B C N) : ((CS.asg t (.ite c a b)).ev g ρ).wp X T B C N := by
  simp only [CS.ev, CSs.ev, then_self, CE.ev] at h ⊢
  revert h
  cases c.ev g true ρ with
  | ok d ρ1 =>
    cases d with
    | bl k => cases k <;> first | exact fun h => h.h | exact fun h => ⟨h.h⟩ | exact fun h => h
    | _ => first | exact fun h => h.h | exact fun h => ⟨h.h⟩ | exact fun h => h
  | _ => first | exact fun h => h.h | exact fun h => ⟨h.h⟩ | exact fun h => h
/-! loops -/
theorem w_st {kp : List Nat} {P : Ev → Prop} [h : TS kp t d ρ ρ1] (p : P ρ1) : stP (t.st kp d ρ) P := ⟨ρ1, h.h, p⟩
theorem w_tst [h : To g c true ρ K (.bl k) ρ1] {Q : D → Ev → Prop} (q : K) (p : Q (.bl k) ρ1) : (c.ev g true ρ).wp X Q := by
  simpa only [h.h q, wp_ok] using p
theorem w_loop {st : D → Ev → Option Ev} {body : Ev → RS} (I : List D → Ev → Prop) (hn : ∀ ρ, I [] ρ → N ρ)
    (hs : ∀ x xs ρ, I (x :: xs) ρ → stP (st x ρ) fun ρ1 => (body ρ1).wp X T N (I xs) (I xs)) : ∀ (xs : List D) (ρ : Ev), I xs ρ → (forLoop st body xs ρ).wp X T B C N
  | [], ρ, h => ⟨hn ρ h⟩
  | x :: xs, ρ, h => by
    obtain ⟨ρ1, e, p⟩ := hs x xs ρ h
    simp only [forLoop, e]
    revert p
    cases body ρ1 with
    | nx ρ2 => exact fun p => w_loop I hn hs xs ρ2 p.h
    | cnt ρ2 => exact fun p => w_loop I hn hs xs ρ2 p.h
    | _ => exact fun p => ⟨p.h⟩
theorem w_loop_nil {st : D → Ev → Option Ev} {body : Ev → RS} (h : N ρ) : (forLoop st body [] ρ).wp X T B C N := ⟨h⟩
theorem w_loop_cons {st : D → Ev → Option Ev} {body : Ev → RS} {xs : List D} (h : stP (st x ρ) fun ρ1 => (body ρ1).wp X T N (fun ρ2 => (forLoop st body xs ρ2).wp X T B C N) (fun ρ2 => (forLoop st body xs ρ2).wp X T B C N)) : (forLoop st body (x :: xs) ρ).wp X T B C N := by
  obtain ⟨ρ1, e, p⟩ := h
  simp only [forLoop, e]
  revert p
  cases body ρ1 <;> first | exact fun p => p.h | exact fun p => ⟨p.h⟩
theorem w_forx {it : CI} {b : CSs} {xs : List D} [h : ToI g it ρ K xs ρ1] (q : K) (p : (forLoop (t.st g.kp) (fun ρ => b.ev g ρ) xs ρ1).wp X T B C N) : ((CS.fors t it b).ev g ρ).wp X T B C N := by
  simpa only [CS.ev, h.h q, RL.thenS] using p
theorem w_fors {it : CI} {b : CSs} {xs : List D} [h : ToI g it ρ K xs ρ1] (q : K) (I : List D → Ev → Prop) (h0 : I xs ρ1) (hn : ∀ ρ, I [] ρ → N ρ)
    (hs : ∀ x xs ρ, I (x :: xs) ρ → stP (t.st g.kp x ρ) fun ρ1 => (b.ev g ρ1).wp X T N (I xs) (I xs)) : ((CS.fors t it b).ev g ρ).wp X T B C N := by
  simp only [CS.ev, h.h q, RL.thenS]
  exact w_loop I hn hs xs ρ1 h0
theorem range_step (i : Int) (n : Nat) : ((List.range (n + 1)).map fun k : Nat => D.int (i + k)) = D.int i :: (List.range n).map fun k : Nat => D.int (i + 1 + k) := by
  rw [List.range_succ_eq_map]
  simp only [List.map_cons, List.map_map]
  congr 1
  · simp
  · apply List.map_congr_left
    intro k _
    simp only [Function.comp]
    congr 1
    simp
    omega
/-- over a range, by the turn's number -/
theorem w_rng {st : D → Ev → Option Ev} {body : Ev → RS} (I : Int → Ev → Prop) (j : Int) (hn : ∀ ρ, I j ρ → N ρ)
    (hs : ∀ k ρ, k < j → I k ρ → stP (st (.int k) ρ) fun ρ1 => (body ρ1).wp X T N (I (k + 1)) (I (k + 1))) :
    ∀ (n : Nat) (i : Int) (ρ : Ev), i + n = j → I i ρ → (forLoop st body ((List.range n).map fun k : Nat => D.int (i + k)) ρ).wp X T B C N
  | 0, i, ρ, e, h => ⟨hn ρ ((show i = j by omega) ▸ h)⟩
  | n + 1, i, ρ, e, h => by
    rw [range_step]
    obtain ⟨ρ1, e1, p⟩ := hs i ρ (by omega) h
    simp only [forLoop, e1]
    revert p
    cases body ρ1 with
    | nx ρ2 => exact fun p => w_rng I j hn hs n (i + 1) ρ2 (by omega) p.h
    | cnt ρ2 => exact fun p => w_rng I j hn hs n (i + 1) ρ2 (by omega) p.h
    | _ => exact fun p => ⟨p.h⟩
theorem w_forr {it : CI} {b : CSs} {i j : Int} [h : ToI g it ρ K (rangeD i j) ρ1] (q : K) (I : Int → Ev → Prop) (hij : i ≤ j) (h0 : I i ρ1) (hn : ∀ ρ, I j ρ → N ρ)
    (hs : ∀ k ρ, i ≤ k → k < j → I k ρ → stP (t.st g.kp (.int k) ρ) fun ρ1 => (b.ev g ρ1).wp X T N (I (k + 1)) (I (k + 1))) : ((CS.fors t it b).ev g ρ).wp X T B C N := by
  simp only [CS.ev, h.h q, RL.thenS]
  refine w_rng (fun k ρ => i ≤ k ∧ I k ρ) j (fun ρ h => hn ρ h.2) (fun k ρ hk h => ?_) (j - i).toNat i ρ1 (by omega) ⟨by omega, h0⟩
  obtain ⟨ρ2, e, p⟩ := hs k ρ h.1 hk h.2
  refine ⟨ρ2, e, ?_⟩
  show (CSs.ev g b ρ2).wp X T N (fun ρ => i ≤ k + 1 ∧ I (k + 1) ρ) (fun ρ => i ≤ k + 1 ∧ I (k + 1) ρ)
  revert p
  cases CSs.ev g b ρ2 with
  | nx ρ3 => exact fun p => ⟨by have := h.1; omega, p.h⟩
  | cnt ρ3 => exact fun p => ⟨by have := h.1; omega, p.h⟩
  | _ => exact fun p => ⟨p.h⟩
theorem w_while {cf : Ev → R} {body : Ev → RS} (I : Nat → Ev → Prop)
    (hs : ∀ n ρ, I n ρ → (cf ρ).wp X fun d ρ1 => ∃ k, d = .bl k ∧ (k = true → ∃ n', n = n' + 1 ∧ (body ρ1).wp X T N (I n') (I n')) ∧ (k = false → N ρ1)) :
    ∀ (m n : Nat) (ρ : Ev), n < m → I n ρ → (whLoop cf body m ρ).wp X T B C N
  | 0, _, _, h, _ => absurd h (by omega)
  | m + 1, n, ρ, h, h0 => by
    have := hs n ρ h0
    simp only [whLoop]
    revert this
    cases cf ρ with
    | ok d ρ1 =>
      rintro ⟨⟨k, rfl, ht, hf⟩⟩
      cases k with
      | false => exact ⟨hf rfl⟩
      | true =>
        obtain ⟨n', rfl, p⟩ := ht rfl
        simp only [R.thenS, if_true]
        revert p
        cases body ρ1 with
        | nx ρ2 => exact fun p => w_while I hs m n' ρ2 (by omega) p.h
        | cnt ρ2 => exact fun p => w_while I hs m n' ρ2 (by omega) p.h
        | _ => exact fun p => ⟨p.h⟩
    | exc c fs ρ1 => exact fun p => ⟨p.h⟩
    | stuck => exact fun p => ⟨p.h⟩
theorem w_whl {b : CSs} {m : Nat} (I : Nat → Ev → Prop) (n : Nat) (hm : n < m) (h0 : I n ρ)
    (hs : ∀ n ρ, I n ρ → (c.ev g true ρ).wp X fun d ρ1 => ∃ k, d = .bl k ∧ (k = true → ∃ n', n = n' + 1 ∧ (b.ev g ρ1).wp X T N (I n') (I n')) ∧ (k = false → N ρ1)) : ((CS.whl m c b).ev g ρ).wp X T B C N := by
  simp only [CS.ev]
  exact w_while I hs m n ρ hm h0
/-- by what holds behind it -/
theorem w_mono {r : RS} {R' : D → Ev → Prop} {B' C' N' : Ev → Prop} (h : r.wp X T B C N) (hr : ∀ d ρ, T d ρ → R' d ρ) (hb : ∀ ρ, B ρ → B' ρ) (hc : ∀ ρ, C ρ → C' ρ) (hn : ∀ ρ, N ρ → N' ρ) : r.wp X R' B' C' N' := by
  revert h
  cases r with
  | nx ρ => exact fun h => ⟨hn ρ h.h⟩
  | ret d ρ => exact fun h => ⟨hr d ρ h.h⟩
  | brk ρ => exact fun h => ⟨hb ρ h.h⟩
  | cnt ρ => exact fun h => ⟨hc ρ h.h⟩
  | exc c fs ρ => first | exact fun h => h.h | exact fun h => ⟨h.h⟩ | exact fun h => h
  | stuck => first | exact fun h => h.h | exact fun h => ⟨h.h⟩ | exact fun h => h
/-- a statement, what holds behind it, the rest -/
theorem w_cut (M : Ev → Prop) (h : (s.ev g ρ).wp X T B C M) (hr : ∀ ρ1, M ρ1 → (r.ev g ρ1).wp X T B C N) : ((CSs.cons s r).ev g ρ).wp X T B C N :=
  w_seq (w_mono h (fun _ _ h => h) (fun _ h => h) (fun _ h => h) hr)
end
/-! ### defs -/
theorem run_ex {c : CD} {g : Gs} {ds : List D} {ρ0 : Ev} {P : D → Prop} (hk : g.kp = []) (hl : ds.length = c.np) (hρ : ds.map some ++ List.replicate (c.nn - c.np) none = ρ0)
    (h : (c.body.ev g ρ0).wp (fun _ _ _ => False) (fun d _ => P d) (fun _ => False) (fun _ => False) (fun _ => P .non)) : ∃ d, c.run g ds = .ok d [] ∧ P d := by
  unfold CD.run
  rw [if_pos hl, hρ]
  revert h
  cases c.body.ev g ρ0 with
  | ret d ρ => exact fun h => ⟨d, by simp [outs, hk], h.h⟩
  | nx ρ => exact fun h => ⟨.non, by simp [outs, hk], h.h⟩
  | _ => exact fun h => False.elim h.h
theorem run_eq {c : CD} {g : Gs} {ds : List D} {ρ0 : Ev} {x : D} (hk : g.kp = []) (hl : ds.length = c.np) (hρ : ds.map some ++ List.replicate (c.nn - c.np) none = ρ0)
    (h : (c.body.ev g ρ0).wp (fun _ _ _ => False) (fun d _ => d = x) (fun _ => False) (fun _ => False) (fun _ => .non = x)) : c.run g ds = .ok x [] := by
  obtain ⟨d, e, rfl⟩ := run_ex (P := fun d => d = x) hk hl hρ h
  exact e
theorem run_kp {c : CD} {g : Gs} {ds : List D} {ρ0 : Ev} {P : D → List D → Prop} (hl : ds.length = c.np) (hρ : ds.map some ++ List.replicate (c.nn - c.np) none = ρ0)
    (h : (c.body.ev g ρ0).wp (fun _ _ _ => False) (fun d ρ => ∃ o, outs g.kp ρ = some o ∧ P d o) (fun _ => False) (fun _ => False) (fun ρ => ∃ o, outs g.kp ρ = some o ∧ P .non o)) : ∃ d o, c.run g ds = .ok d o ∧ P d o := by
  unfold CD.run
  rw [if_pos hl, hρ]
  revert h
  cases c.body.ev g ρ0 with
  | ret d ρ => rintro ⟨⟨o, e, p⟩⟩; exact ⟨d, o, by simp [e], p⟩
  | nx ρ => rintro ⟨⟨o, e, p⟩⟩; exact ⟨.non, o, by simp [e], p⟩
  | _ => exact fun h => False.elim h.h
end PD
set_option Elab.async false
set_option linter.all false
set_option maxRecDepth 100000
set_option maxHeartbeats 8000000
/-! PdZc: rationals as data; bounds by powers of two. -/
namespace PD
open PySem L2
/-- a number of the program: numerator and denominator in lowest terms -/
def qD (q : Rat) : D := .tup [.int q.num, .int q.den]
instance {q : Rat} : Fzn (qD q) := ⟨rfl⟩
instance {q : Rat} : Rt (qD q) := ⟨rfl⟩
instance {q : Rat} : NoF (qD q) := ⟨rfl⟩
instance {q : Rat} : Ix (qD q) (.int 0) True (.int q.num) := ⟨fun _ => rfl⟩
instance {q : Rat} : Ix (qD q) (.int 1) True (.int (q.den : Int)) := ⟨fun _ => rfl⟩
instance {q : Rat} : Bl .len [qD q] True (.int 2) := ⟨fun _ => rfl⟩
instance {q : Rat} : Bl (.isi .tuple) [qD q] True (.bl true) := ⟨fun _ => rfl⟩
instance {q : Rat} : Bl (.isi .int) [qD q] True (.bl false) := ⟨fun _ => rfl⟩
instance {q : Rat} : Bl (.isi .bool) [qD q] True (.bl false) := ⟨fun _ => rfl⟩
instance {q : Rat} : Bl (.isi .list) [qD q] True (.bl false) := ⟨fun _ => rfl⟩
instance {q : Rat} : Bl (.isi .str) [qD q] True (.bl false) := ⟨fun _ => rfl⟩
instance {q : Rat} : It (qD q) [.int q.num, .int q.den] := ⟨rfl⟩
instance {kp : List Nat} {ts : TgL} {q : Rat} {ρ ρ' : Ev} [h : TSL kp ts [.int q.num, .int q.den] ρ ρ'] : TS kp (.tup ts) (qD q) ρ ρ' := ⟨by simp only [qD, Tg.st, h.h]⟩
theorem q_eqv (p q : Rat) : PyData.eqv (qD p).strip (qD q).strip = decide (p = q) := by
  have e : PyData.eqv (qD p).strip (qD q).strip = (decide (p.num = q.num) && (decide ((p.den : Int) = (q.den : Int)) && true)) := by
    simp only [qD, D.strip, D.stripL, PyData.eqv, PyData.eqvAll]
    rfl
  rw [e, Bool.eq_iff_iff]
  simp only [Bool.and_true, Bool.and_eq_true, decide_eq_true_eq]
  exact ⟨fun h => Rat.ext h.1 (by omega), fun h => by rw [h]; exact ⟨rfl, rfl⟩⟩
instance : Ij qD := ⟨q_eqv⟩
instance {p q : Rat} : Dq (qD p) (qD q) (decide (p = q)) := ⟨q_eqv p q⟩
theorem q_sh (q : Rat) : (qD q).strip.canLay0 = true ∧ (qD q).strip.depth ≤ 1 := by
  simp [qD, D.strip, D.stripL, PyData.canLay0, PyData.canLayAll0, PyData.depth, PyData.depthAll]
instance {q : Rat} : Sh (qD q) True 1 := ⟨fun _ => q_sh q⟩
instance {qs : List Rat} : ShL (qs.map qD) True 1 := ⟨fun _ => shL_map (C := fun _ => True) (fun a _ => q_sh a) qs fun _ _ => trivial⟩
theorem q_shp (q : Rat) : (qD q).shp = true := by
  have := q_sh q
  unfold D.shp
  show ((qD q).strip.canLay0 && decide ((qD q).strip.depth ≤ 64)) = true
  rw [this.1, decide_eq_true (by omega)]; rfl
theorem q_eqD (p q : Rat) : eqD (qD p) (qD q) = some (decide (p = q)) := by
  have e : eqD (qD p) (qD q) = if (qD p).shp && (qD q).shp then some (PyData.eqv (qD p).strip (qD q).strip) else none := rfl
  rw [e, q_shp, q_shp, q_eqv]; rfl
instance {p q : Rat} : Eq2 (qD p) (qD q) True (decide (p = q)) := ⟨fun _ => q_eqD p q⟩
theorem q_non (q : Rat) : (O2.is.ev (qD q) .non = some (.bl false)) ∧ O2.isnot.ev (qD q) .non = some (.bl true) := ⟨rfl, rfl⟩
instance {q : Rat} : Op .is (qD q) .non True (.bl false) := ⟨fun _ => rfl⟩
instance {q : Rat} : Op .isnot (qD q) .non True (.bl true) := ⟨fun _ => rfl⟩
/-! written pairs that are numbers -/
class QN (a b : Int) (q : outParam Rat) : Prop where
  h : q.num = a ∧ (q.den : Int) = b
instance : QN 0 1 0 := ⟨rfl, rfl⟩
instance : QN 1 1 1 := ⟨rfl, rfl⟩
instance : QN (-1) 1 (-1) := ⟨rfl, rfl⟩
instance (priority := low) {a : Int} : QN a 1 (a : Rat) := ⟨rfl, rfl⟩
instance {q : Rat} : QN (-q.num) q.den (-q) := ⟨rfl, rfl⟩
instance {q : Rat} : QN q.num q.den q := ⟨rfl, rfl⟩
instance : QN 11 10 (11 / 10) := ⟨by decide +kernel, by decide +kernel⟩
instance : QN 1 2 (1 / 2) := ⟨by decide +kernel, by decide +kernel⟩
instance : QN 2 1 2 := ⟨rfl, rfl⟩
theorem QN.eq {a b : Int} {q : Rat} [h : QN a b q] : D.tup [.int a, .int b] = qD q := by
  have h1 := h.h.1
  have h2 := h.h.2
  rw [qD, ← h1, ← h2]
instance (priority := high) to_tupQ {g : Gs} {ρ ρ1 : Ev} {e e2 : CE} {C : Prop} {a b : Int} {q : Rat} [h : ToL g (.cons e (.cons e2 .nil)) ρ C [.int a, .int b] ρ1] [n : QN a b q] : To g (.tup (.cons e (.cons e2 .nil))) false ρ C (qD q) ρ1 := ⟨fun c => by
  rw [← n.eq]
  simp only [CE.ev, h.h c, RL.bind]
  rfl⟩
/-! lists as images -/
class ML {α : Type} (f : α → D) (ds : List D) (xs : outParam (List α)) : Prop where
  h : ds = xs.map f
instance ml_map {α : Type} {f : α → D} {xs : List α} : ML f (xs.map f) xs := ⟨rfl⟩
instance (priority := low) ml_comp {α β : Type} {f : α → D} {g : β → α} {xs : List β} : ML f (xs.map fun b => f (g b)) (xs.map g) := ⟨by simp⟩
instance {α : Type} {f : α → D} : ML f [] [] := ⟨rfl⟩
instance {α : Type} {f : α → D} {a : α} {ds : List D} {xs : List α} [h : ML f ds xs] : ML f (f a :: ds) (a :: xs) := ⟨by simp [h.h]⟩
instance {α : Type} {f : α → D} {ds es : List D} {xs ys : List α} [h : ML f ds xs] [h2 : ML f es ys] : ML f (ds ++ es) (xs ++ ys) := ⟨by simp [h.h, h2.h]⟩
/-! a name for what is set -/
section
variable {g : Gs} {ρ ρ1 : Ev} {e : CE} {K : Prop} {t : Tg}
variable {X : XP} {T : D → Ev → Prop} {B C N : Ev → Prop}
theorem w_asgL {α : Type} (f : α → D) {o : Ow} {ds : List D} {xs : List α} {ρ2 : List α → Ev} [h : To g e false ρ K (.lst o ds) ρ1] [m : ML f ds xs] [h2 : ∀ ys : List α, TS g.kp t (.lst o (ys.map f)) ρ1 (ρ2 ys)] (q : K) (n : ∀ ys, ys = xs → N (ρ2 ys)) : ((CS.asg t e).ev g ρ).wp X T B C N := by
  simpa only [CS.ev, h.h q, R.thenS, m.h, (h2 _).h, wp_nx] using n _ rfl
theorem w_asgQ {p : Rat} {ρ2 : Rat → Ev} [h : To g e false ρ K (qD p) ρ1] [h2 : ∀ m, TS g.kp t (qD m) ρ1 (ρ2 m)] (q : K) (n : ∀ m, m = p → N (ρ2 m)) : ((CS.asg t e).ev g ρ).wp X T B C N := by
  simpa only [CS.ev, h.h q, R.thenS, (h2 _).h, wp_nx] using n _ rfl
end
/-! ### bounds -/
theorem szl : sizeLine = 16777216 := by decide
class Qb (q : Rat) (n : outParam Nat) : Prop where
  h : q.num.natAbs < 2 ^ n ∧ q.den < 2 ^ n
theorem Qb.mono {q : Rat} {n m : Nat} (h : Qb q n) (hm : n ≤ m) : Qb q m := ⟨Nat.lt_of_lt_of_le h.h.1 (Nat.pow_le_pow_right (by decide) hm), Nat.lt_of_lt_of_le h.h.2 (Nat.pow_le_pow_right (by decide) hm)⟩
theorem Qb.of {n d : Int} {k : Nat} (hd : d ≠ 0) (h1 : n.natAbs < 2 ^ k) (h2 : d.natAbs < 2 ^ k) : Qb (Rat.divInt n d) k := by
  constructor
  rw [Rat.num_divInt, Rat.den_divInt, if_neg hd]
  have e1 : ((Int.gcd d n : Nat) : Int) ∣ n := Int.gcd_dvd_right ..
  have g0 : 0 < Int.gcd d n := Int.gcd_pos_of_ne_zero_left _ hd
  constructor
  · have e2 : (d.sign * n / (Int.gcd d n : Nat)).natAbs ≤ n.natAbs := by
      obtain ⟨q, hq⟩ := e1
      have e3 : d.sign * n = ((Int.gcd d n : Nat) : Int) * (d.sign * q) := by
        conv => lhs; rw [hq]
        rw [Int.mul_left_comm]
      rw [e3, Int.mul_ediv_cancel_left _ (by omega), Int.natAbs_mul]
      have e4 : d.sign.natAbs ≤ 1 := by
        rcases Int.lt_trichotomy d 0 with z | z | z
        · rw [Int.sign_eq_neg_one_of_neg z]; decide
        · exact absurd z hd
        · rw [Int.sign_eq_one_of_pos z]; decide
      have e5 : q.natAbs ≤ n.natAbs := by
        conv => rhs; rw [hq]
        rw [Int.natAbs_mul, Int.natAbs_natCast]
        exact Nat.le_mul_of_pos_left _ g0
      calc d.sign.natAbs * q.natAbs ≤ 1 * q.natAbs := Nat.mul_le_mul_right _ e4
        _ ≤ n.natAbs := by omega
    omega
  · exact Nat.lt_of_le_of_lt (Nat.div_le_self _ _) h2
theorem Qb.mk' {n : Int} {d k : Nat} (hd : d ≠ 0) (h1 : n.natAbs < 2 ^ k) (h2 : d < 2 ^ k) : Qb (mkRat n d) k := by
  rw [← Rat.divInt_ofNat]
  exact Qb.of (by omega) h1 (by simpa using h2)
theorem nab_mul {a b : Int} {n m : Nat} (h : a.natAbs < 2 ^ n) (h2 : b.natAbs < 2 ^ m) : (a * b).natAbs < 2 ^ (n + m) := by
  rw [Int.natAbs_mul, Nat.pow_add]
  exact Nat.mul_lt_mul'' h h2
theorem nab_add {a b : Int} {n : Nat} (h : a.natAbs < 2 ^ n) (h2 : b.natAbs < 2 ^ n) : (a + b).natAbs < 2 ^ (n + 1) := by
  rw [Nat.pow_succ]; omega
theorem den_mul {a b n m : Nat} (h : a < 2 ^ n) (h2 : b < 2 ^ m) : a * b < 2 ^ (n + m) := by
  rw [Nat.pow_add]
  exact Nat.mul_lt_mul'' h h2
instance qb_add {p q : Rat} {n m : Nat} [h : Qb p n] [h2 : Qb q m] : Qb (p + q) (n + m + 1) := by
  rw [Rat.add_def']
  refine Qb.mk' (Nat.mul_ne_zero p.den_nz q.den_nz) (nab_add (nab_mul h.h.1 (by simpa using h2.h.2)) ?_) (Nat.lt_of_lt_of_le (den_mul h.h.2 h2.h.2) (Nat.pow_le_pow_right (by decide) (by omega)))
  rw [Nat.add_comm n m]
  exact nab_mul h2.h.1 (by simpa using h.h.2)
instance qb_mul {p q : Rat} {n m : Nat} [h : Qb p n] [h2 : Qb q m] : Qb (p * q) (n + m) := by
  rw [Rat.mul_def']
  exact Qb.mk' (Nat.mul_ne_zero p.den_nz q.den_nz) (nab_mul h.h.1 h2.h.1) (den_mul h.h.2 h2.h.2)
instance qb_neg {p : Rat} {n : Nat} [h : Qb p n] : Qb (-p) n := ⟨by
  rw [Rat.neg_num, Rat.neg_den, Int.natAbs_neg]
  exact h.h⟩
instance qb_sub {p q : Rat} {n m : Nat} [h : Qb p n] [h2 : Qb q m] : Qb (p - q) (n + m + 1) := by
  rw [Rat.sub_eq_add_neg]
  exact qb_add
instance qb_div {p q : Rat} {n m : Nat} [h : Qb p n] [h2 : Qb q m] : Qb (p / q) (n + m) := by
  by_cases hq : q = 0
  · subst hq
    rw [Rat.div_def, Rat.inv_zero, Rat.mul_zero]
    exact ⟨by show 0 < _; exact Nat.two_pow_pos _, by show 1 < _; exact Nat.one_lt_two_pow (fun e => by
      have := h.h.2
      have hz : n = 0 := by omega
      subst hz
      have := p.den_pos
      omega)⟩
  · have e : p / q = Rat.divInt (p.num * q.den) (p.den * q.num) := by
      rw [Rat.div_def, Rat.inv_def]
      conv => lhs; rw [← Rat.num_divInt_den p]
      rw [Rat.divInt_mul_divInt]
    have hn : q.num ≠ 0 := fun z => hq (Rat.num_eq_zero.mp z)
    rw [e]
    have hd := p.den_nz
    exact Qb.of (Int.mul_ne_zero (by omega) hn) (nab_mul h.h.1 (by simpa using h2.h.2)) (by rw [Int.natAbs_mul, Int.natAbs_natCast]; exact den_mul h.h.2 h2.h.1)
instance qb_0 : Qb 0 1 := ⟨by decide⟩
instance qb_1 : Qb 1 1 := ⟨by decide⟩
instance qb_m1 : Qb (-1) 1 := ⟨by decide⟩
instance qb_2 : Qb 2 2 := ⟨by decide⟩
/-- all of a list -/
class QbL (qs : List Rat) (n : outParam Nat) : Prop where
  h : ∀ q ∈ qs, q.num.natAbs < 2 ^ n ∧ q.den < 2 ^ n
instance qbl_at {qs : List Rat} {i : Int} {n : Nat} [h : QbL qs n] : Qb (atE qs i) (n + 1) := ⟨by
  unfold atE
  cases e : qs[i.toNat]? with
  | none =>
    have h1 : (1 : Nat) < 2 ^ (n + 1) := Nat.one_lt_two_pow (by omega)
    exact ⟨by show (0 : Int).natAbs < _; exact Nat.two_pow_pos _, h1⟩
  | some q =>
    have := h.h q (List.mem_of_getElem? e)
    have h2 : 2 ^ n ≤ 2 ^ (n + 1) := Nat.pow_le_pow_right (by decide) (by omega)
    show q.num.natAbs < _ ∧ q.den < _
    omega⟩
theorem Qb.mulOk {a b : Int} {n m : Nat} (h : a.natAbs < 2 ^ n) (h2 : b.natAbs < 2 ^ m) (hn : n + m ≤ 100000000) : mulOk a b = true := Bt.mulOk ⟨h⟩ ⟨h2⟩ hn
/-- some bounds that together are at most k -/
def QB (k : Nat) (p q : Rat) : Prop := ∃ n m, Qb p n ∧ Qb q m ∧ n + m ≤ k
instance qbl_map {α : Type} {f : α → Rat} {xs : List α} {n : Nat} [h : ∀ a, Qb (f a) n] : QbL (xs.map f) n := ⟨fun q hq => by
  obtain ⟨a, _, rfl⟩ := List.mem_map.mp hq
  exact (h a).h⟩
instance qbl_nil : QbL [] 0 := ⟨fun q hq => absurd hq (by simp)⟩
theorem QbL.mono {qs : List Rat} {n m : Nat} (h : QbL qs n) (hm : n ≤ m) : QbL qs m := ⟨fun q hq => (Qb.mono ⟨h.h q hq⟩ hm).h⟩
instance qbl_cons {q : Rat} {qs : List Rat} {n m : Nat} [h : Qb q n] [h2 : QbL qs m] : QbL (q :: qs) (max n m) := ⟨fun p hp => by
  rcases List.mem_cons.mp hp with rfl | hp
  · exact (h.mono (by omega)).h
  · exact (h2.mono (show m ≤ max n m by omega)).h p hp⟩
instance qbl_append {ps qs : List Rat} {n m : Nat} [h : QbL ps n] [h2 : QbL qs m] : QbL (ps ++ qs) (max n m) := ⟨fun p hp => by
  rcases List.mem_append.mp hp with hp | hp
  · exact (h.mono (show n ≤ max n m by omega)).h p hp
  · exact (h2.mono (show m ≤ max n m by omega)).h p hp⟩
/-- the order of two numbers -/
def ordQ (p q : Rat) : Int := if p < q then -1 else if q < p then 1 else 0
/-! ### sums -/
def qsum (qs : List Rat) : Rat := qs.foldl (· + ·) 0
theorem qfold_acc (qs : List Rat) : ∀ a : Rat, qs.foldl (· + ·) a = a + qsum qs := by
  induction qs with
  | nil => intro a; simp [qsum, Rat.add_zero]
  | cons q qs ih =>
    intro a
    unfold qsum
    rw [List.foldl_cons, List.foldl_cons, ih, ih (0 + q), Rat.zero_add, Rat.add_assoc]
theorem qsum_nil : qsum [] = 0 := rfl
theorem qsum_cons (q : Rat) (qs : List Rat) : qsum (q :: qs) = q + qsum qs := by
  unfold qsum
  rw [List.foldl_cons, qfold_acc, Rat.zero_add]; rfl
theorem qsum_append (ps qs : List Rat) : qsum (ps ++ qs) = qsum ps + qsum qs := by
  unfold qsum
  rw [List.foldl_append, qfold_acc]; rfl
theorem qsum_one (q : Rat) : qsum [q] = q := by rw [qsum_cons, qsum_nil, Rat.add_zero]
def qdot (ps qs : List Rat) : Rat := qsum ((ps.zip qs).map fun a => a.1 * a.2)
instance {α β : Type} {f : α → D} {g : β → D} {xs : List α} {ys : List β} : Mp (List.zipWith (fun x y => D.tup [x, y]) (xs.map f) (ys.map g)) (α × β) (fun a => .tup [f a.1, g a.2]) (xs.zip ys) := ⟨by
  induction xs generalizing ys with
  | nil => simp
  | cons x xs ih => cases ys <;> simp [ih]⟩
theorem qdot_comm (ps qs : List Rat) : qdot ps qs = qdot qs ps := by
  unfold qdot
  congr 1
  induction ps generalizing qs with
  | nil => cases qs <;> rfl
  | cons p ps ih => cases qs <;> simp [ih, Rat.mul_comm]
theorem qdot_range (n : Nat) (ps qs : List Rat) (h : ps.length = n) (h2 : qs.length = n) : qdot ps qs = qsum ((List.range n).map fun k : Nat => atE ps (0 + k) * atE qs (0 + k)) := by
  unfold qdot
  congr 1
  apply List.ext_getElem
  · simp; omega
  · intro i h3 h4
    have hi : i < n := by simpa using h4
    simp [atE, h, h2, hi]
def rs : Nat → (Nat → Rat) → Rat
  | 0, _ => 0
  | n + 1, f => rs n f + f n
theorem qsum_rs (f : Nat → Rat) : ∀ n, qsum ((List.range n).map f) = rs n f
  | 0 => rfl
  | n + 1 => by rw [List.range_succ, List.map_append, qsum_append, qsum_rs f n, List.map_singleton, qsum_one]; rfl
theorem rs_add (f g : Nat → Rat) : ∀ n, rs n (fun k => f k + g k) = rs n f + rs n g
  | 0 => by simp [rs, Rat.add_zero]
  | n + 1 => by simp only [rs, rs_add f g n]; grind
theorem rs_mul (c : Rat) (f : Nat → Rat) : ∀ n, rs n (fun k => c * f k) = c * rs n f
  | 0 => by simp [rs, Rat.mul_zero]
  | n + 1 => by simp only [rs, rs_mul c f n]; grind
theorem rs_congr {f g : Nat → Rat} : ∀ {n : Nat}, (∀ k, k < n → f k = g k) → rs n f = rs n g
  | 0, _ => rfl
  | n + 1, h => by
    have h1 := rs_congr (n := n) fun k hk => h k (by omega)
    rw [rs, rs, h1, h n (by omega)]
theorem qdot_rs {n : Nat} {ps qs : List Rat} (h : ps.length = n) (h2 : qs.length = n) : qdot ps qs = rs n fun k : Nat => atE ps k * atE qs k := by
  rw [qdot_range n ps qs h h2, qsum_rs]
  exact rs_congr fun k _ => by rw [Int.zero_add]
/-- three lists side by side -/
instance {α β γ : Type} {f : α → D} {g : β → D} {h : γ → D} {xs : List α} {ys : List β} {zs : List γ} : Mp (zip3D (xs.map f) (ys.map g) (zs.map h)) (α × β × γ) (fun a => .tup [f a.1, g a.2.1, h a.2.2]) (xs.zip (ys.zip zs)) := ⟨by
  induction xs generalizing ys zs with
  | nil => simp [zip3D]
  | cons x xs ih => cases ys <;> cases zs <;> simp_all [zip3D]⟩
theorem zip_range2 {α β : Type} [Inhabited α] [Inhabited β] {n : Nat} {xs : List α} {ys : List β} (h : xs.length = n) (h2 : ys.length = n) : xs.zip ys = (List.range n).map fun k : Nat => (atE xs k, atE ys k) := by
  apply List.ext_getElem
  · simp; omega
  · intro i h3 h4
    have hi : i < n := by simpa using h4
    simp [atE, h, h2, hi]
theorem zip_range3 {α β γ : Type} [Inhabited α] [Inhabited β] [Inhabited γ] {n : Nat} {xs : List α} {ys : List β} {zs : List γ} (h : xs.length = n) (h2 : ys.length = n) (h3 : zs.length = n) : xs.zip (ys.zip zs) = (List.range n).map fun k : Nat => (atE xs k, atE ys k, atE zs k) := by
  apply List.ext_getElem
  · simp; omega
  · intro i h4 h5
    have hi : i < n := by simpa using h5
    simp [atE, h, h2, h3, hi]
/-- rows of numbers -/
abbrev rowD (r : List Rat) : D := .lst .frz (r.map qD)
instance : Ij rowD := ⟨fun xs ys => by
  show PyData.eqv (D.lst Ow.frz (xs.map qD)).strip (D.lst Ow.frz (ys.map qD)).strip = _
  simp only [D.strip, PyData.eqv]
  exact dq_maps xs ys⟩
instance (priority := low - 1) dq_ml {α : Type} [DecidableEq α] {f : α → D} [j : Ij f] {as bs : List α} {ys : List D} [m : ML f ys bs] : DqL (as.map f) ys (decide (as = bs)) := ⟨by rw [m.h]; exact dq_maps as bs⟩
/-- a prefix's sum is bounded -/
theorem qsum_b {n : Nat} : ∀ (qs : List Rat), (∀ q ∈ qs, q.num.natAbs < 2 ^ n ∧ q.den < 2 ^ n) → Qb (qsum qs) (qs.length * (n + 1) + 1)
  | [], _ => ⟨by rw [qsum_nil]; exact ⟨Nat.two_pow_pos _, by show 1 < _; exact Nat.one_lt_two_pow (by omega)⟩⟩
  | q :: qs, h => by
    have h1 := qsum_b qs fun p hp => h p (by simp [hp])
    have h2 : Qb q n := ⟨h q (by simp)⟩
    rw [qsum_cons]
    have h3 := qb_add (h := h2) (h2 := h1)
    exact h3.mono (by
      simp only [List.length_cons]
      rw [Nat.add_mul]
      omega)
end PD
set_option Elab.async false
set_option linter.all false
set_option maxRecDepth 100000
set_option maxHeartbeats 8000000
set_option synthInstance.maxHeartbeats 0
set_option synthInstance.maxSize 100000
/-! PdPl: plain laws that many laws share. -/
namespace PD
open PySem L2
def euc : Nat → Nat → Nat → Nat
  | 0, a, _ => a
  | n + 1, a, b => if b = 0 then a else euc n b (a % b)
theorem euc_gcd : ∀ (n a b : Nat), b ≤ a → a * b < 2 ^ n → euc (n + 1) a b = Nat.gcd a b
  | n, a, 0, _, _ => by simp [euc]
  | 0, a, b + 1, h, h2 => by
    have h3 : 1 * 1 ≤ a * (b + 1) := Nat.mul_le_mul (by omega) (by omega)
    omega
  | n + 1, a, b + 1, h, h2 => by
    have hr : a % (b + 1) < b + 1 := Nat.mod_lt _ (by omega)
    have hq : (b + 1) + a % (b + 1) ≤ a := by
      have e := Nat.div_add_mod a (b + 1)
      have hp : 1 ≤ a / (b + 1) := (Nat.one_le_div_iff (by omega)).mpr h
      have := Nat.mul_le_mul_left (b + 1) hp
      omega
    have h4 : (b + 1) * (a % (b + 1)) < 2 ^ n := by
      have h5 : 2 * ((b + 1) * (a % (b + 1))) ≤ a * (b + 1) := by
        rw [Nat.mul_comm a, ← Nat.mul_assoc, Nat.mul_comm 2, Nat.mul_assoc]
        exact Nat.mul_le_mul_left _ (by omega)
      rw [Nat.pow_succ] at h2
      omega
    rw [euc, if_neg (by omega), euc_gcd n (b + 1) (a % (b + 1)) (by omega) h4, Nat.gcd_comm a (b + 1), Nat.gcd_rec (b + 1) a]
    exact Nat.gcd_comm _ _
theorem euc_all {a b : Nat} (h : b < 2 ^ 1999) : euc 4000 a b = Nat.gcd a b := by
  by_cases hb : b = 0
  · rw [euc, if_pos hb, hb]; simp
  · have hr : a % b < b := Nat.mod_lt _ (by omega)
    have h4 : b * (a % b) < 2 ^ 3998 := by
      have e : (2 : Nat) ^ 3998 = 2 ^ 1999 * 2 ^ 1999 := by rw [← Nat.pow_add]
      rw [e]
      exact Nat.mul_lt_mul'' h (by omega)
    rw [euc, if_neg hb, euc_gcd 3998 b (a % b) (by omega) h4, Nat.gcd_comm a b, Nat.gcd_rec b a]
    exact Nat.gcd_comm _ _
theorem pow_200 : (1606938044258990275541962092341162602522202993782792835301376 : Nat) ≤ 2 ^ 1999 := Nat.le_trans (Nat.le_of_eq (by decide : (1606938044258990275541962092341162602522202993782792835301376 : Nat) = 2 ^ 200)) (Nat.pow_le_pow_right (by decide) (by decide))
def numN (n d : Int) : Int := (if d < 0 then -n else n) / (Nat.gcd n.natAbs d.natAbs : Nat)
def numD (n d : Int) : Int := (if d < 0 then -d else d) / (Nat.gcd n.natAbs d.natAbs : Nat)
theorem gcd_le {n d : Int} (h : d ≠ 0) : 0 < Nat.gcd n.natAbs d.natAbs ∧ Nat.gcd n.natAbs d.natAbs ≤ d.natAbs :=
  ⟨Nat.gcd_pos_of_pos_right _ (by omega), Nat.gcd_le_right _ (by omega)⟩
def isI : D → Bool
  | .int _ => true
  | _ => false
def isNum : D → Bool
  | .tup [.int a, .int b] => decide (1 ≤ b) && decide (((Nat.gcd a.natAbs b.natAbs : Nat) : Int) = 1)
  | _ => false
theorem isNum_of {d : D} (h : isNum d = true) : ∃ a b, d = .tup [.int a, .int b] := by
  unfold isNum at h
  split at h
  · exact ⟨_, _, rfl⟩
  · cases h
theorem isNum_l {x y : D} (h : isI x = false) : isNum (.tup [x, y]) = false := by
  cases x <;> first | rfl | cases h
theorem isNum_r {x y : D} (h : isI y = false) : isNum (.tup [x, y]) = false := by
  cases y <;> cases x <;> first | rfl | cases h
theorem isNum_1 (x : D) : isNum (.tup [x]) = false := by cases x <;> rfl
theorem isNum_3 (x y z : D) (r : List D) : isNum (.tup (x :: y :: z :: r)) = false := by cases x <;> cases y <;> rfl
theorem atZ_bd {ps : List Int} {m : Int} (hm : 0 < m) (h : ∀ z ∈ ps, 0 ≤ z ∧ z < m) (i : Int) : 0 ≤ atZ ps i ∧ atZ ps i < m := by
  unfold atZ
  cases e : ps[i.toNat]? with
  | none => exact ⟨by simp, by simpa using hm⟩
  | some z => simpa using h z (List.mem_of_getElem? e)
theorem absN {n d : Int} : (if d < 0 then -d else d) = (d.natAbs : Int) := by split <;> omega
theorem numD_eq (n d : Int) : numD n d = ((d.natAbs / Nat.gcd n.natAbs d.natAbs : Nat) : Int) := by
  unfold numD
  rw [absN (n := n), Int.natCast_ediv]
theorem numN_abs (n d : Int) (h : d ≠ 0) : (numN n d).natAbs = n.natAbs / Nat.gcd n.natAbs d.natAbs := by
  have hg := (gcd_le (n := n) h).1
  obtain ⟨q, hq⟩ := Nat.gcd_dvd_left n.natAbs d.natAbs
  unfold numN
  generalize Nat.gcd n.natAbs d.natAbs = g at *
  rw [hq, Nat.mul_div_cancel_left _ hg]
  have hg2 : (g : Int) ≠ 0 := by omega
  have hx : n = (g : Int) * (q : Int) ∨ n = (g : Int) * (-(q : Int)) := by
    have e : ((g * q : Nat) : Int) = (g : Int) * (q : Int) := Int.natCast_mul g q
    have e2 : (g : Int) * (-(q : Int)) = -((g : Int) * (q : Int)) := Int.mul_neg _ _
    rw [e2, ← e]
    omega
  split
  · rcases hx with hx | hx
    · rw [hx, ← Int.mul_neg, Int.mul_ediv_cancel_left _ hg2]; omega
    · rw [hx, ← Int.mul_neg, Int.mul_ediv_cancel_left _ hg2]; omega
  · rcases hx with hx | hx
    · rw [hx, Int.mul_ediv_cancel_left _ hg2]; omega
    · rw [hx, Int.mul_ediv_cancel_left _ hg2]; omega
theorem num_ok (n d : Int) (h : d ≠ 0) : 1 ≤ numD n d ∧ (numD n d).natAbs ≤ d.natAbs ∧ (numN n d).natAbs ≤ n.natAbs ∧ Nat.gcd (numN n d).natAbs (numD n d).natAbs = 1 := by
  have hg := gcd_le (n := n) h
  have h1 := numD_eq n d
  have h2 := numN_abs n d h
  have h3 : 0 < d.natAbs / Nat.gcd n.natAbs d.natAbs := Nat.div_pos hg.2 hg.1
  have h4 : d.natAbs / Nat.gcd n.natAbs d.natAbs ≤ d.natAbs := Nat.div_le_self _ _
  have h5 : n.natAbs / Nat.gcd n.natAbs d.natAbs ≤ n.natAbs := Nat.div_le_self _ _
  refine ⟨by omega, by omega, by omega, ?_⟩
  rw [h1, h2, Int.natAbs_natCast]
  rw [Nat.gcd_div (Nat.gcd_dvd_left _ _) (Nat.gcd_dvd_right _ _), Nat.div_self hg.1]
theorem isNum_num (n d : Int) (h : d ≠ 0) : isNum (.tup [.int (numN n d), .int (numD n d)]) = true := by
  have := num_ok n d h
  show (decide (1 ≤ numD n d) && decide (((Nat.gcd (numN n d).natAbs (numD n d).natAbs : Nat) : Int) = 1)) = true
  rw [this.2.2.2, decide_eq_true this.1]
  rfl
theorem lg_ok {i : Int} (h : i.natAbs < 1606938044258990275541962092341162602522202993782792835301376) : i.natAbs.log2 < 1920 := by
  have h3 : i.natAbs.log2 < 200 := PySem.Flt.log2_lt_of (by decide) (by
    have e : (2 : Nat) ^ 200 = 1606938044258990275541962092341162602522202993782792835301376 := by decide
    rw [e]; omega)
  omega
theorem cut_bd {ms : List Int} {lo hi : Option Int} {P : Int → Prop} (h : ∀ z ∈ ms, P z) : ∀ z ∈ cutA ms lo hi, P z := by
  intro z hz
  unfold cutA at hz
  exact h z (List.mem_of_mem_drop (List.mem_of_mem_take hz))
theorem cut_len {α : Type} (ds : List α) (lo hi : Nat) (h : lo ≤ hi) (h2 : hi ≤ ds.length) : (cutA ds (some (lo : Int)) (some (hi : Int))).length = hi - lo := by
  unfold cutA
  rw [HT.sIx_nat, HT.sIx_nat]
  simp only [List.length_take, List.length_drop]
  omega
theorem cut_len0 {α : Type} (ds : List α) (hi : Nat) (h2 : hi ≤ ds.length) : (cutA ds none (some (hi : Int))).length = hi := by
  unfold cutA
  rw [HT.sIx_nat, HT.sIx_none]
  simp only [List.length_take, List.length_drop]
  omega
theorem cut_lenZ {α : Type} (ds : List α) (lo hi : Int) (h0 : 0 ≤ lo) (h : lo ≤ hi) (h2 : hi ≤ ds.length) : ((cutA ds (some lo) (some hi)).length : Int) = hi - lo := by
  obtain ⟨a, rfl⟩ := Int.eq_ofNat_of_zero_le h0
  obtain ⟨b, rfl⟩ := Int.eq_ofNat_of_zero_le (Int.le_trans h0 h)
  rw [cut_len ds a b (by omega) (by omega)]
  omega
theorem mul_ok {i j : Int} (hi : i.natAbs < 1606938044258990275541962092341162602522202993782792835301376) (hj : j.natAbs < 1606938044258990275541962092341162602522202993782792835301376) : mulOk i j = true := by
  have h1 := lg_ok hi
  have h2 := lg_ok hj
  unfold mulOk
  rw [decide_eq_true (show i.natAbs.log2 + j.natAbs.log2 ≤ 100000000 by omega), Bool.or_true]
/-- a number of at most 90 bits -/
def S90 (i : Int) : Prop := i.natAbs < 1237940039285380274899124224
theorem S90.mul {i j : Int} (hi : S90 i) (hj : S90 j) : (i * j).natAbs < 1532495540865888858358347027150309183618739122183602176 := by
  unfold S90 at hi hj
  rw [Int.natAbs_mul]
  have := Nat.mul_lt_mul'' hi hj
  omega
theorem S90.ok {i j : Int} (hi : S90 i) (hj : S90 j) : mulOk i j = true := by
  unfold S90 at hi hj
  exact mul_ok (by omega) (by omega)
theorem S90.den {i j : Int} (hi : S90 i) (hj : S90 j) (hi0 : i ≠ 0) (hj0 : j ≠ 0) : i * j ≠ 0 ∧ (i * j).natAbs < 1606938044258990275541962092341162602522202993782792835301376 := by
  have := hi.mul hj
  exact ⟨Int.mul_ne_zero hi0 hj0, by omega⟩
abbrev Q90 (a b c d : Int) : Prop := S90 a ∧ S90 b ∧ S90 c ∧ S90 d
def ordV (a b c d : Int) : Int := if a * d < c * b then -1 else if c * b < a * d then 1 else 0
theorem numQ {n d : Int} (h : d ≠ 0) : D.tup [.int (numN n d), .int (numD n d)] = qD (Rat.divInt n d) := by
  have hg : ((Nat.gcd n.natAbs d.natAbs : Nat) : Int) = (Int.gcd d n : Nat) := by rw [Int.gcd, Nat.gcd_comm]
  have h1 : (Rat.divInt n d).num = numN n d := by
    rw [Rat.num_divInt]
    unfold numN
    rw [hg]
    congr 1
    split
    · rw [Int.sign_eq_neg_one_of_neg (by assumption), Int.neg_mul, Int.one_mul]
    · rw [Int.sign_eq_one_of_pos (by omega), Int.one_mul]
  have h2 : ((Rat.divInt n d).den : Int) = numD n d := by
    rw [Rat.den_divInt, if_neg h, numD_eq]
    congr 2
    rw [Int.gcd, Nat.gcd_comm]
  rw [qD, h1, h2]
theorem q_red (q : Rat) : Nat.gcd q.num.natAbs q.den = 1 := q.reduced
theorem isNum_q (q : Rat) : isNum (qD q) = true := by
  have h1 := q.den_pos
  show (decide (1 ≤ (q.den : Int)) && decide (((Nat.gcd q.num.natAbs (q.den : Int).natAbs : Nat) : Int) = 1)) = true
  rw [Int.natAbs_natCast, q_red, decide_eq_true (by omega)]
  rfl
/-- what is a number is one of these -/
theorem isNum_q' {d : D} (h : isNum d = true) : ∃ q : Rat, d = qD q := by
  obtain ⟨a, b, rfl⟩ := isNum_of h
  simp only [isNum, Bool.and_eq_true, decide_eq_true_eq] at h
  refine ⟨⟨a, b.toNat, by omega, ?_⟩, ?_⟩
  · have e : b.natAbs = b.toNat := by omega
    show Nat.gcd a.natAbs b.toNat = 1
    rw [← e]
    omega
  · show D.tup [.int a, .int b] = .tup [.int a, .int ((b.toNat : Nat) : Int)]
    rw [Int.toNat_of_nonneg (by omega)]
theorem addQ (p q : Rat) : Rat.divInt (p.num * q.den + q.num * p.den) (p.den * q.den) = p + q := by
  rw [Rat.add_def', ← Rat.divInt_ofNat, Int.natCast_mul]
theorem subQ (p q : Rat) : Rat.divInt (p.num * q.den - q.num * p.den) (p.den * q.den) = p - q := by
  rw [Rat.sub_def', ← Rat.divInt_ofNat, Int.natCast_mul]
theorem mulQ (p q : Rat) : Rat.divInt (p.num * q.num) (p.den * q.den) = p * q := by
  rw [Rat.mul_def', ← Rat.divInt_ofNat, Int.natCast_mul]
theorem divQ (p q : Rat) (h : q ≠ 0) : Rat.divInt (p.num * q.den) (p.den * q.num) = p / q := by
  rw [Rat.div_def, Rat.inv_def]
  conv => rhs; rw [← Rat.num_divInt_den p]
  rw [Rat.divInt_mul_divInt]
theorem den_ne (p q : Rat) : (p.den : Int) * q.den ≠ 0 := by
  have h1 := p.den_nz
  have h2 := q.den_nz
  exact Int.mul_ne_zero (by omega) (by omega)
theorem den_Bt {p q : Rat} {n m k : Nat} (h : Qb p n) (h2 : Qb q m) (hk : n + m ≤ k) : Bt k ((p.den : Int) * q.den) :=
  ⟨Nat.lt_of_lt_of_le (by rw [← Int.natCast_mul, Int.natAbs_natCast]; exact den_mul h.h.2 h2.h.2) (Nat.pow_le_pow_right (by decide) hk)⟩
end PD
set_option Elab.async false
set_option linter.all false
set_option maxRecDepth 100000
set_option maxHeartbeats 8000000
set_option synthInstance.maxHeartbeats 0
set_option synthInstance.maxSize 100000
/-! PdMk: short texts, what repr needs, markets as data. -/
namespace PD
open PySem L2
/-! ### short texts of plain signs -/
structure SB (x : Str) (n : Nat) : Prop where
  l : x.length ≤ n
  c : ∀ c ∈ x.cps.toList, c < 128
theorem SB.mono {x : Str} {n m : Nat} (h : SB x n) (hm : n ≤ m) : SB x m := ⟨Nat.le_trans h.l hm, h.c⟩
theorem SB.append {x y : Str} {n m : Nat} (h : SB x n) (h2 : SB y m) : SB (x ++ y) (n + m) := ⟨by
  rw [Str.length_append]
  exact Nat.add_le_add h.l h2.l, by
  intro c hc
  rw [show (x ++ y).cps = x.cps ++ y.cps from rfl, Array.toList_append] at hc
  rcases List.mem_append.mp hc with hc | hc
  · exact h.c c hc
  · exact h2.c c hc⟩
theorem SB.cut {x : Str} {n : Nat} (h : SB x n) (lo hi : Option Int) : SB (cutS x lo hi) n := ⟨Nat.le_trans (cutS_length x lo hi) h.l, by
  intro c hc
  unfold cutS at hc
  rw [List.toList_toArray] at hc
  exact h.c c (List.mem_of_mem_drop (List.mem_of_mem_take hc))⟩
theorem SB.join1 {n : Nat} : ∀ (xs : List Str), (∀ x ∈ xs, SB x n) → SB (Str.join "" xs) (xs.length * n)
  | [], _ => ⟨Nat.zero_le _, by intro c hc; cases hc⟩
  | [x], h => by
    rw [List.length_singleton, Nat.one_mul]
    exact h x (by simp)
  | x :: y :: r, h => by
    have h1 := SB.join1 (y :: r) fun z hz => h z (by simp at hz; simp [hz])
    have h2 := h x (by simp)
    have h3 : SB (("" : String) : Str) 0 := ⟨Nat.le_refl _, by intro c hc; cases hc⟩
    have h4 := (h2.append h3).append h1
    have e : (x :: y :: r).length * n = n + 0 + (y :: r).length * n := by
      rw [List.length_cons, Nat.add_mul, Nat.one_mul]; omega
    rw [e]
    exact h4
theorem SB.join {n : Nat} {xs : List Str} (h : ∀ x ∈ xs, SB x n) : SB (Txt.join "" xs) (xs.length * n) := by
  have e : Txt.join "" xs = Str.join "" xs := StrLaws.glued_eq_join _ _
  rw [e]
  exact SB.join1 xs h
theorem SB.len {x : Str} {n : Nat} (h : SB x n) (hn : n ≤ 16777216) : szOk x.length = true := by
  have := h.l
  simp only [szOk, szl, decide_eq_true_eq]
  omega
theorem SB.ok {x : Str} {n : Nat} (h : SB x n) : PyData.strOk x = true := by
  unfold PyData.strOk
  rw [← Array.all_toList, List.all_eq_true]
  intro c hc
  have := h.c c hc
  exact decide_eq_true (by omega)
/-- a sign of a text -/
def atS (x : Str) (i : Int) : Str := ⟨#[(x.cps.toList[i.toNat]?).getD 0]⟩
theorem SB.at {x : Str} {n : Nat} (h : SB x n) (i : Int) : SB (atS x i) 1 := ⟨Nat.le_refl _, by
  intro c hc
  have e : c = (x.cps.toList[i.toNat]?).getD 0 := by
    simpa [atS] using hc
  rw [e]
  cases e2 : x.cps.toList[i.toNat]? with
  | none => simp
  | some z => exact h.c z (List.mem_of_getElem? e2)⟩
@[simp] theorem atS_len (x : Str) (i : Int) : (atS x i).length = 1 := rfl
theorem atE_mem {α : Type} [Inhabited α] {xs : List α} {i : Int} (h : 0 ≤ i ∧ i < xs.length) : atE xs i ∈ xs := by
  unfold atE
  have hl : i.toNat < xs.length := by omega
  rw [List.getElem?_eq_getElem hl]
  exact List.getElem_mem hl
theorem atE_all {α : Type} [Inhabited α] {xs : List α} {P : α → Prop} (hP : ∀ x ∈ xs, P x) {i : Int} (h : 0 ≤ i ∧ i < xs.length) : P (atE xs i) := hP _ (atE_mem h)
instance (priority := low + 2) ix_qs {o : Ow} {ds : List D} {qs : List Rat} {i : Int} [m : ML qD ds qs] : Ix (.lst o ds) (.int i) (0 ≤ i ∧ i < qs.length) (qD (atE qs i)) := ⟨fun h => by rw [m.h]; exact atI_maps h⟩
instance (priority := low + 2) ix_ss {o : Ow} {ds : List D} {qs : List Str} {i : Int} [m : ML D.str ds qs] : Ix (.lst o ds) (.int i) (0 ≤ i ∧ i < qs.length) (.str (atE qs i)) := ⟨fun h => by rw [m.h]; exact atI_maps h⟩
instance (priority := low + 2) ix_is {o : Ow} {ds : List D} {qs : List Int} {i : Int} [m : ML D.int ds qs] : Ix (.lst o ds) (.int i) (0 ≤ i ∧ i < qs.length) (.int (atE qs i)) := ⟨fun h => by rw [m.h]; exact atI_maps h⟩
instance qb_11 : Qb (11 / 10) 4 := ⟨by decide +kernel⟩
instance qb_12 : Qb (1 / 2) 2 := ⟨by decide +kernel⟩
theorem atZ_all {xs : List Int} {P : Int → Prop} (hP : ∀ x ∈ xs, P x) {i : Int} (h : 0 ≤ i ∧ i < xs.length) : P (atZ xs i) := by
  have := atE_all hP h
  unfold atE at this
  unfold atZ
  have hl : i.toNat < xs.length := by omega
  rw [List.getElem?_eq_getElem hl] at this ⊢
  exact this
instance ix_s {x : Str} {i : Int} : Ix (.str x) (.int i) (szOk x.length = true ∧ 0 ≤ i ∧ i < x.length) (.str (atS x i)) := ⟨fun h => by
  have e : x.length = x.cps.toList.length := by simp [Str.length]
  simp only [ixD, h.1, if_true]
  rw [atI_in h.2.1 (by rw [← e]; exact h.2.2)]
  have hl : i.toNat < x.cps.toList.length := by omega
  unfold atS
  rw [List.getElem?_eq_getElem hl]
  rfl⟩
theorem sb_sum {n : Nat} : ∀ (xs : List Str), (∀ x ∈ xs, SB x n) → (xs.map (·.length)).sum ≤ xs.length * n
  | [], _ => by simp
  | x :: xs, h => by
    have h1 := sb_sum xs fun y hy => h y (by simp [hy])
    have h2 := (h x (by simp)).l
    have e : (x :: xs).length * n = n + xs.length * n := by rw [List.length_cons, Nat.add_mul, Nat.one_mul]; omega
    rw [e, List.map_cons, List.sum_cons]
    omega
theorem sb_join {n : Nat} {xs : List Str} (h : ∀ x ∈ xs, SB x n) (hn : xs.length * n ≤ 16777216) : (xs.map (·.length)).sum + xs.length * (("" : String) : Str).length ≤ 16777216 := by
  have := sb_sum xs h
  have e : (("" : String) : Str).length = 0 := rfl
  rw [e]; omega
theorem w_asgS {g : Gs} {ρ ρ1 : Ev} {e : CE} {K : Prop} {t : Tg} {X : XP} {T : D → Ev → Prop} {B C N : Ev → Prop} {s : Str} {ρ2 : Str → Ev} [h : To g e false ρ K (.str s) ρ1] [h2 : ∀ m, TS g.kp t (.str m) ρ1 (ρ2 m)] (q : K) (n : ∀ m, m = s → N (ρ2 m)) : ((CS.asg t e).ev g ρ).wp X T B C N := by
  simpa only [CS.ev, h.h q, R.thenS, (h2 _).h, wp_nx] using n _ rfl
theorem cutA_mem {α : Type} {xs : List α} {lo hi : Option Int} {x : α} (h : x ∈ cutA xs lo hi) : x ∈ xs := by
  unfold cutA at h
  exact List.mem_of_mem_drop (List.mem_of_mem_take h)
/-! ### what repr needs -/
structure RpS (d : PyData) (w k : Nat) : Prop where
  a : d.leavesShort 100 = true
  b : d.weight ≤ w
  c : d.depth ≤ k
  e : d.showable = true
  f : d.hasDict = false
structure RpSL (d : List PyData) (w k : Nat) : Prop where
  a : PyData.leavesShortAll 100 d = true
  b : PyData.weightAll d ≤ w
  c : PyData.depthAll d ≤ k
  e : PyData.showableAll d = true
  f : PyData.hasDictAll d = false
abbrev Rp (d : D) (w k : Nat) : Prop := RpS d.strip w k
abbrev RpL (d : List D) (w k : Nat) : Prop := RpSL (D.stripL d) w k
theorem rp_int {i : Int} (h : i.natAbs < 2 ^ 90) : Rp (.int i) 91 0 := by
  have h1 : i.natAbs.log2 < 90 := PySem.Flt.log2_lt_of (by decide) h
  refine ⟨?_, ?_, ?_, ?_, ?_⟩
  · have h2 := int_text_length_le (a := i) (k := 90) (by decide) h1
    have e : (Str.ofString (toString i)).length = (toString i).length := ofString_length _
    simp only [D.strip, PyData.leavesShort, PyData.shown]
    exact decide_eq_true (by rw [e]; omega)
  · simp only [D.strip, PyData.weight]
    split <;> omega
  · simp [D.strip, PyData.depth]
  · simp only [D.strip, PyData.showable, decide_eq_true_eq]; omega
  · simp [D.strip, PyData.hasDict]
theorem rp_str {x : Str} {n : Nat} (h : SB x n) : Rp (.str x) n 0 := by
  refine ⟨?_, ?_, ?_, ?_, ?_⟩
  · simp only [D.strip, PyData.leavesShort, List.all_eq_true, decide_eq_true_eq]
    intro c hc
    have := h.c c hc
    omega
  · have := h.l
    simpa [D.strip, PyData.weight, Str.length] using this
  · simp [D.strip, PyData.depth]
  · simp [D.strip, PyData.showable]
  · simp [D.strip, PyData.hasDict]
theorem rpl_nil {k : Nat} : RpL [] 0 k := by
  refine ⟨?_, ?_, ?_, ?_, ?_⟩ <;> simp [D.stripL, PyData.leavesShortAll, PyData.weightAll, PyData.depthAll, PyData.showableAll, PyData.hasDictAll]
theorem rpl_cons {d : D} {ds : List D} {n m k j : Nat} (h : Rp d n k) (h2 : RpL ds m j) : RpL (d :: ds) (n + 1 + m) (max k j) := by
  have h3 := h.b
  have h4 := h2.b
  have h5 := h.c
  have h6 := h2.c
  refine ⟨?_, ?_, ?_, ?_, ?_⟩
  · simp [D.stripL, PyData.leavesShortAll, h.a, h2.a]
  · simp only [D.stripL, PyData.weightAll]; omega
  · simp only [D.stripL, PyData.depthAll]; omega
  · simp [D.stripL, PyData.showableAll, h.e, h2.e]
  · simp [D.stripL, PyData.hasDictAll, h.f, h2.f]
theorem rpl_map {α : Type} {f : α → D} {n k : Nat} : ∀ (xs : List α), (∀ a ∈ xs, Rp (f a) n k) → RpL (xs.map f) (xs.length * (n + 1)) k
  | [], _ => by rw [List.length_nil, Nat.zero_mul]; exact rpl_nil
  | x :: xs, h => by
    have h1 := rpl_cons (h x (by simp)) (rpl_map xs fun a ha => h a (by simp [ha]))
    rw [Nat.max_self] at h1
    have e : (x :: xs).length * (n + 1) = n + 1 + xs.length * (n + 1) := by
      rw [List.length_cons, Nat.add_mul, Nat.one_mul]; omega
    rw [e]
    exact h1
theorem RpS.mono {d : PyData} {n m k j : Nat} (h : RpS d n k) (hn : n ≤ m) (hk : k ≤ j) : RpS d m j := ⟨h.a, Nat.le_trans h.b hn, Nat.le_trans h.c hk, h.e, h.f⟩
theorem RpSL.mono {d : List PyData} {n m k j : Nat} (h : RpSL d n k) (hn : n ≤ m) (hk : k ≤ j) : RpSL d m j := ⟨h.a, Nat.le_trans h.b hn, Nat.le_trans h.c hk, h.e, h.f⟩
theorem rp_tup {ds : List D} {n k : Nat} (h : RpL ds n k) : Rp (.tup ds) n (k + 1) := by
  have h3 := h.c
  refine ⟨?_, ?_, ?_, ?_, ?_⟩
  · simpa [D.strip, PyData.leavesShort] using h.a
  · simpa [D.strip, PyData.weight] using h.b
  · simpa [D.strip, PyData.depth] using h.c
  · simpa [D.strip, PyData.showable] using h.e
  · simpa [D.strip, PyData.hasDict] using h.f
theorem rp_lst {o : Ow} {ds : List D} {n k : Nat} (h : RpL ds n k) : Rp (.lst o ds) n (k + 1) := by
  have h3 := h.c
  refine ⟨?_, ?_, ?_, ?_, ?_⟩
  · simpa [D.strip, PyData.leavesShort] using h.a
  · simpa [D.strip, PyData.weight] using h.b
  · simpa [D.strip, PyData.depth] using h.c
  · simpa [D.strip, PyData.showable] using h.e
  · simpa [D.strip, PyData.hasDict] using h.f
theorem rp_q {q : Rat} (h : Qb q 90) : Rp (qD q) 184 1 :=
  (rp_tup (rpl_cons (rp_int h.h.1) (rpl_cons (rp_int (by simpa using h.h.2)) (rpl_nil (k := 0))))).mono (by decide) (by decide)
theorem rp_qs {o : Ow} {qs : List Rat} {n : Nat} (h : QbL qs n) (hn : n ≤ 90) : Rp (.lst o (qs.map qD)) (qs.length * 185) 2 :=
  rp_lst (rpl_map qs fun q hq => rp_q (Qb.mono ⟨h.h q hq⟩ hn))
theorem rp_strs {o : Ow} {xs : List Str} {n : Nat} (h : ∀ x ∈ xs, SB x n) : Rp (.lst o (xs.map D.str)) (xs.length * (n + 1)) 1 :=
  rp_lst (rpl_map xs fun x hx => rp_str (h x hx))
theorem rp_ok {d : D} {w k : Nat} (h : Rp d w k) (hw : w ≤ 160000) (hk : k ≤ 60) : repOk d.strip = true := by
  have h1 := PyData.shown_le 100 (by decide) _ h.a
  have h2 := h.b
  have h3 := h.c
  unfold repOk
  rw [h.e, h.f, szl]
  simp only [Bool.and_eq_true, decide_eq_true_eq, Bool.and_true, Bool.not_false]
  omega
/-! ### markets -/
structure Nd where
  par : Int
  gr : Rat
  rules : List Str
  pr : List Rat
  pay : List Rat
  val : List Rat
deriving Inhabited
structure Mk where
  as : List Str
  seen : List Str
  nodes : List Nd
def ndD (v : Nd) : D := .tup [.int v.par, qD v.gr, .lst .frz (v.rules.map D.str), .lst .frz (v.pr.map qD), .lst .frz (v.pay.map qD), .lst .frz (v.val.map qD)]
def mkD (m : Mk) : D := .tup [.lst .frz (m.as.map D.str), .lst .frz (m.seen.map D.str), .lst .frz (m.nodes.map ndD)]
section
variable {v : Nd} {m : Mk}
instance : Fzn (ndD v) := ⟨(inferInstance : Fzn (D.tup [.int v.par, qD v.gr, .lst .frz (v.rules.map D.str), .lst .frz (v.pr.map qD), .lst .frz (v.pay.map qD), .lst .frz (v.val.map qD)])).h⟩
instance : Rt (ndD v) := ⟨(inferInstance : Rt (D.tup [.int v.par, qD v.gr, .lst .frz (v.rules.map D.str), .lst .frz (v.pr.map qD), .lst .frz (v.pay.map qD), .lst .frz (v.val.map qD)])).h⟩
instance : Fzn (mkD m) := ⟨(inferInstance : Fzn (D.tup [.lst .frz (m.as.map D.str), .lst .frz (m.seen.map D.str), .lst .frz (m.nodes.map ndD)])).h⟩
instance : Rt (mkD m) := ⟨(inferInstance : Rt (D.tup [.lst .frz (m.as.map D.str), .lst .frz (m.seen.map D.str), .lst .frz (m.nodes.map ndD)])).h⟩
instance : Ix (ndD v) (.int 0) True (.int v.par) := ⟨fun _ => rfl⟩
instance : Ix (ndD v) (.int 1) True (qD v.gr) := ⟨fun _ => rfl⟩
instance : Ix (ndD v) (.int 2) True (.lst .frz (v.rules.map D.str)) := ⟨fun _ => rfl⟩
instance : Ix (ndD v) (.int 3) True (.lst .frz (v.pr.map qD)) := ⟨fun _ => rfl⟩
instance : Ix (ndD v) (.int 4) True (.lst .frz (v.pay.map qD)) := ⟨fun _ => rfl⟩
instance : Ix (ndD v) (.int 5) True (.lst .frz (v.val.map qD)) := ⟨fun _ => rfl⟩
instance : Ix (mkD m) (.int 0) True (.lst .frz (m.as.map D.str)) := ⟨fun _ => rfl⟩
instance : Ix (mkD m) (.int 1) True (.lst .frz (m.seen.map D.str)) := ⟨fun _ => rfl⟩
instance : Ix (mkD m) (.int 2) True (.lst .frz (m.nodes.map ndD)) := ⟨fun _ => rfl⟩
instance : Bl .repr [mkD m] (repOk (mkD m).strip = true) (.str (mkD m).strip.shown) := ⟨fun c => (bl_repT (ds := [.lst .frz (m.as.map D.str), .lst .frz (m.seen.map D.str), .lst .frz (m.nodes.map ndD)])).h c⟩
end
/-- a sound node of a market of a assets and s seen values, at place i -/
structure NdOk (a s i : Nat) (v : Nd) : Prop where
  par : -1 ≤ v.par ∧ v.par < i
  par0 : i ≠ 0 → 0 ≤ v.par
  gr : Qb v.gr 20
  tb : Qb v.gr 4 ∧ QbL v.pr 4 ∧ QbL v.pay 4
  rules : v.rules.length = a ∧ ∀ x ∈ v.rules, SB x 10
  rl : ∀ x ∈ v.rules, x = "any" ∨ x = "long" ∨ x = "short" ∨ x = "none"
  pr : v.pr.length = a ∧ QbL v.pr 20
  pay : v.pay.length = a ∧ QbL v.pay 20
  val : v.val.length = s ∧ QbL v.val 20
structure MkOk (m : Mk) (n : Nat) : Prop where
  as : 1 ≤ m.as.length ∧ m.as.length ≤ 4 ∧ ∀ x ∈ m.as, SB x 24
  seen : m.seen.length ≤ 4 ∧ ∀ x ∈ m.seen, SB x 24
  len : 1 ≤ m.nodes.length ∧ m.nodes.length ≤ n
  nd : ∀ (i : Nat) (v : Nd), m.nodes[i]? = some v → NdOk m.as.length m.seen.length i v
theorem rp_nd {a s i : Nat} {v : Nd} (h : NdOk a s i v) (ha : a ≤ 4) (hs : s ≤ 4) (hi : i ≤ 1000) : Rp (ndD v) 3000 3 := by
  have h1 := h.par
  have h2 := h.rules.1
  have h3 := h.pr.1
  have h4 := h.pay.1
  have h5 := h.val.1
  exact (rp_tup (rpl_cons (rp_int (i := v.par) (by omega)) (rpl_cons (rp_q (h.gr.mono (by decide))) (rpl_cons (rp_strs h.rules.2) (rpl_cons (rp_qs h.pr.2 (by decide)) (rpl_cons (rp_qs h.pay.2 (by decide)) (rpl_cons (rp_qs h.val.2 (by decide)) (rpl_nil (k := 0))))))))).mono (by rw [h2, h3, h4, h5]; omega) (by decide)
theorem rp_mk {m : Mk} {n : Nat} (h : MkOk m n) (hn : n ≤ 40) : Rp (mkD m) 150000 5 := by
  have h1 := h.as
  have h2 := h.seen
  have h3 := h.len
  exact (rp_tup (rpl_cons (rp_strs h.as.2.2) (rpl_cons (rp_strs h.seen.2) (rpl_cons (rp_lst (rpl_map m.nodes fun v hv => by
    obtain ⟨i, hi⟩ := List.mem_iff_getElem?.mp hv
    have hl : i < m.nodes.length := by
      rcases Nat.lt_or_ge i m.nodes.length with g | g
      · exact g
      · rw [List.getElem?_eq_none g] at hi; cases hi
    exact rp_nd (h.nd i v hi) (by omega) (by omega) (by omega))) (rpl_nil (k := 0)))))).mono (by omega) (by decide)
/-- the children of a node -/
def chil (m : Mk) (n : Int) : List Int := ((List.range m.nodes.length).filter fun k : Nat => decide ((atE m.nodes (k : Int)).par = n)).map fun k : Nat => (k : Int)
theorem chil_in {m : Mk} {n k : Int} (h : k ∈ chil m n) : 0 ≤ k ∧ k < m.nodes.length ∧ (atE m.nodes k).par = n := by
  unfold chil at h
  obtain ⟨i, hi, rfl⟩ := List.mem_map.mp h
  simp only [List.mem_filter, List.mem_range, decide_eq_true_eq] at hi
  exact ⟨by omega, by omega, hi.2⟩
theorem chil_len (m : Mk) (n : Int) : (chil m n).length ≤ m.nodes.length := by
  unfold chil
  rw [List.length_map]
  exact Nat.le_trans (List.length_filter_le _ _) (by simp)
theorem MkOk.at {m : Mk} {n : Nat} (h : MkOk m n) {i : Int} (h0 : 0 ≤ i) (h1 : i < m.nodes.length) : NdOk m.as.length m.seen.length i.toNat (atE m.nodes i) := by
  refine h.nd i.toNat _ ?_
  unfold atE
  have : i.toNat < m.nodes.length := by omega
  rw [List.getElem?_eq_getElem this]
  rfl
theorem MkOk.nth {m : Mk} {n : Nat} (h : MkOk m n) {i : Nat} {v : Nd} (e : m.nodes[i]? = some v) : NdOk m.as.length m.seen.length i v := h.nd i v e
/-- places of a sound market -/
structure GC (m : Mk) (i j : Int) : Prop where
  h : ∃ n, MkOk m n ∧ n ≤ 40
  i : 0 ≤ i ∧ i < m.nodes.length
  j : 0 ≤ j ∧ j < m.nodes.length
def gainQ (m : Mk) (i j : Int) : List Rat := (List.range m.as.length).map fun k : Nat => atE (atE m.nodes j).pr k + atE (atE m.nodes j).pay k - (atE m.nodes i).gr * atE (atE m.nodes i).pr k
theorem gain_len (m : Mk) (i j : Int) : (gainQ m i j).length = m.as.length := by simp [gainQ]
theorem gain_b {m : Mk} {i j : Int} (h : GC m i j) : QbL (gainQ m i j) 90 := ⟨fun q hq => by
  obtain ⟨n, hm, hn⟩ := h.h
  have h1 := hm.at h.i.1 h.i.2
  have h2 := hm.at h.j.1 h.j.2
  obtain ⟨k, _, rfl⟩ := List.mem_map.mp hq
  haveI := h1.pr.2
  haveI := h2.pr.2
  haveI := h2.pay.2
  haveI := h1.gr
  exact (Qb.mono (q := atE (atE m.nodes j).pr k + atE (atE m.nodes j).pay k - (atE m.nodes i).gr * atE (atE m.nodes i).pr k) inferInstance (by decide)).h⟩
theorem gain_zip {m : Mk} {i j : Int} (h : GC m i j) : ((atE m.nodes i).pr.zip ((atE m.nodes j).pr.zip (atE m.nodes j).pay)).map (fun t => t.2.1 + t.2.2 - (atE m.nodes i).gr * t.1) = gainQ m i j := by
  obtain ⟨n, hm, hn⟩ := h.h
  have h1 := hm.at h.i.1 h.i.2
  have h2 := hm.at h.j.1 h.j.2
  rw [zip_range3 h1.pr.1 h2.pr.1 h2.pay.1, List.map_map]
  rfl
/-- the wealth that holdings leave -/
def wealQ (m : Mk) (i j : Int) (w : Rat) (hs : List Rat) : Rat := (atE m.nodes i).gr * w + qdot hs (gainQ m i j)
theorem weal_eq {m : Mk} {i j : Int} {w : Rat} {hs : List Rat} (hl : hs.length = m.as.length) : (atE m.nodes i).gr * (w + -(rs m.as.length fun k : Nat => atE hs k * atE (atE m.nodes i).pr k)) + (rs m.as.length fun k : Nat => atE hs k * (atE (atE m.nodes j).pr k + atE (atE m.nodes j).pay k)) = wealQ m i j w hs := by
  unfold wealQ
  rw [qdot_rs hl (gain_len m i j)]
  have e : (rs m.as.length fun k : Nat => atE hs k * atE (gainQ m i j) k) = rs m.as.length fun k : Nat => atE hs k * (atE (atE m.nodes j).pr k + atE (atE m.nodes j).pay k) + (-(atE m.nodes i).gr) * (atE hs k * atE (atE m.nodes i).pr k) := rs_congr fun k hk => by
    have e2 : atE (gainQ m i j) k = atE (atE m.nodes j).pr k + atE (atE m.nodes j).pay k - (atE m.nodes i).gr * atE (atE m.nodes i).pr k := by
      simp [atE, gainQ, hk]
    rw [e2]
    grind
  rw [e, rs_add, rs_mul]
  grind
/-- what a rule admits -/
def keepQ (r : Str) (q : Rat) : Bool := if r = "any" then true else if r = "long" then decide (0 ≤ q.num) else if r = "short" then decide (q.num ≤ 0) else decide (q.num = 0)
theorem keepQ_0 (r : Str) : keepQ r 0 = true := by
  unfold keepQ
  have e : (0 : Rat).num = 0 := rfl
  rw [e]
  split
  · rfl
  · split
    · decide
    · split <;> decide
def keepsQ (m : Mk) (i : Int) (hs : List Rat) : Bool := ((List.range m.as.length).map fun k : Nat => keepQ (atE (atE m.nodes i).rules k) (atE hs k)).all id
theorem ordQ_0 (q : Rat) : ordQ q 0 = if q.num < 0 then -1 else if 0 < q.num then 1 else 0 := by
  unfold ordQ
  have e1 : q < 0 ↔ q.num < 0 := by
    rw [Rat.lt_iff]; simp
  have e2 : 0 < q ↔ 0 < q.num := by
    rw [Rat.lt_iff]; simp
  simp only [e1, e2]
theorem ixN_last {n : Nat} (h : 0 < n) : ixN n (-1) = some (n - 1) := by
  unfold ixN
  rw [if_neg (by decide), if_pos (by omega)]
  congr 1
  omega
instance ix_last {o : Ow} {ns : List Int} : Ix (.lst o (ns.map D.int)) (.int (-1)) (0 < ns.length) (.int (atZ ns ((ns.length : Int) - 1))) := ⟨fun h => by
  have e : ((ns.length : Int) - 1).toNat = ns.length - 1 := by omega
  have hl : ns.length - 1 < ns.length := by omega
  simp only [ixD, atI, List.length_map, ixN_last h, atZ, e]
  rw [List.getElem?_eq_getElem hl]
  simp [hl]⟩
instance ix_rev {o : Ow} {c : Int} {rs : List Int} : Ix (.lst o ((c :: rs).reverse.map D.int)) (.int (-1)) True (.int c) := ⟨fun _ => by
  have h := (ix_last (o := o) (ns := (c :: rs).reverse)).h (by simp)
  rw [h]
  simp [atZ]⟩
theorem inV_ints (k : Int) : ∀ ns : List Int, inV (D.int k).toV ((ns.map D.int).map D.toV) = decide (k ∈ ns)
  | [] => rfl
  | n :: ns => by
    have ih := inV_ints k ns
    have e : inV (D.int k).toV (((n :: ns).map D.int).map D.toV) = (eqV (D.int n).toV (D.int k).toV || inV (D.int k).toV ((ns.map D.int).map D.toV)) := rfl
    have e2 : eqV (D.int n).toV (D.int k).toV = decide (n = k) := by simp only [D.toV, eqV]; rw [Bool.eq_iff_iff]; simp
    rw [e, ih, e2, Bool.eq_iff_iff]
    simp only [Bool.or_eq_true, decide_eq_true_eq, List.mem_cons]
    exact ⟨fun h => h.imp (·.symm) id, fun h => h.imp (·.symm) id⟩
theorem inD_ints (k : Int) (ns : List Int) : inD (.int k) (ns.map D.int) = some (decide (k ∈ ns)) := by
  have e : (ns.map D.int).all D.flat = true := by simp [List.all_map, D.flat]
  have e2 : (D.int k).flat = true := rfl
  simp only [inD, e, e2, Bool.and_self, if_true, inV_ints]
instance op_in {o : Ow} {k : Int} {ns : List Int} : Op .isin (.int k) (.lst o (ns.map D.int)) True (.bl (decide (k ∈ ns))) := ⟨fun _ => by simp only [O2.ev, inL, inD_ints, Option.map_some]⟩
instance op_notin {o : Ow} {k : Int} {ns : List Int} : Op .notin (.int k) (.lst o (ns.map D.int)) True (.bl (!decide (k ∈ ns))) := ⟨fun _ => by simp only [O2.ev, inL, inD_ints, Option.map_some]⟩
/-! tight bounds -/
theorem gain_b16 {m : Mk} {i j : Int} (h : GC m i j) : QbL (gainQ m i j) 24 := ⟨fun q hq => by
  obtain ⟨n, hm, hn⟩ := h.h
  have h1 := hm.at h.i.1 h.i.2
  have h2 := hm.at h.j.1 h.j.2
  obtain ⟨k, _, rfl⟩ := List.mem_map.mp hq
  haveI := h1.tb.2.1
  haveI := h2.tb.2.1
  haveI := h2.tb.2.2
  haveI := h1.tb.1
  exact (Qb.mono (q := atE (atE m.nodes j).pr k + atE (atE m.nodes j).pay k - (atE m.nodes i).gr * atE (atE m.nodes i).pr k) inferInstance (by decide)).h⟩
theorem dot_b {ps qs : List Rat} {n m c : Nat} (h : QbL ps n) (h2 : QbL qs m) (hl : ps.length ≤ c) : Qb (qdot ps qs) (c * (n + m + 1) + 1) := by
  unfold qdot
  refine (qsum_b (n := n + m) _ ?_).mono ?_
  · intro q hq
    obtain ⟨t, ht, rfl⟩ := List.mem_map.mp hq
    have t1 := List.of_mem_zip ht
    exact (qb_mul (h := ⟨h.h _ t1.1⟩) (h2 := ⟨h2.h _ t1.2⟩)).h
  · have e : (List.map (fun a : Rat × Rat => a.1 * a.2) (ps.zip qs)).length ≤ c := by simp; omega
    have := Nat.mul_le_mul_right (n + m + 1) e
    omega
/-! ### the tree -/
def parL (m : Mk) : List Int := m.nodes.map Nd.par
def leafL (m : Mk) : List Int := ((List.range m.nodes.length).filter fun k : Nat => !decide ((k : Int) ∈ parL m)).map fun k : Nat => (k : Int)
def innL (m : Mk) : List Int := ((List.range m.nodes.length).filter fun k : Nat => decide ((k : Int) ∈ parL m)).map fun k : Nat => (k : Int)
theorem leaf_in {m : Mk} {k : Int} (h : k ∈ leafL m) : 0 ≤ k ∧ k < m.nodes.length := by
  unfold leafL at h
  obtain ⟨i, hi, rfl⟩ := List.mem_map.mp h
  simp only [List.mem_filter, List.mem_range] at hi
  omega
theorem leaf_len (m : Mk) : (leafL m).length ≤ m.nodes.length := by
  unfold leafL
  rw [List.length_map]
  exact Nat.le_trans (List.length_filter_le _ _) (by simp)
theorem inn_len (m : Mk) : (innL m).length ≤ m.nodes.length := by
  unfold innL
  rw [List.length_map]
  exact Nat.le_trans (List.length_filter_le _ _) (by simp)
theorem inn_mem {m : Mk} {k : Nat} (hk : k < m.nodes.length) : (k : Int) ∈ innL m ↔ (k : Int) ∈ parL m := by
  unfold innL
  constructor
  · intro h
    obtain ⟨i, hi, e⟩ := List.mem_map.mp h
    have := (List.mem_filter.mp hi).2
    rw [e] at this
    exact of_decide_eq_true this
  · intro h
    exact List.mem_map.mpr ⟨k, List.mem_filter.mpr ⟨List.mem_range.mpr hk, decide_eq_true h⟩, rfl⟩
/-- a way from the root to a node -/
structure WayOk (m : Mk) (node : Int) (ps : List Int) : Prop where
  len : 1 ≤ ps.length ∧ ps.length ≤ m.nodes.length
  first : atZ ps 0 = 0
  last : atZ ps ((ps.length : Int) - 1) = node
  inside : ∀ i : Int, 0 ≤ i → i < ps.length → 0 ≤ atZ ps i ∧ atZ ps i < m.nodes.length
  step : ∀ i : Int, 0 ≤ i → i + 1 < ps.length → (atE m.nodes (atZ ps (i + 1))).par = atZ ps i
theorem atZ_cons (a : Int) (xs : List Int) (i : Int) (h : 0 ≤ i) : atZ (a :: xs) (i + 1) = atZ xs i := by
  unfold atZ
  rw [show (i + 1).toNat = i.toNat + 1 by omega]
  rfl
theorem atZ_cons' (a : Int) (xs : List Int) (i : Int) (h : 0 < i) : atZ (a :: xs) i = atZ xs (i - 1) := by
  have := atZ_cons a xs (i - 1) (by omega)
  rw [show i - 1 + 1 = i by omega] at this
  exact this
theorem atZ_0 (a : Int) (xs : List Int) : atZ (a :: xs) 0 = a := rfl
end PD
set_option Elab.async false
set_option linter.all false
set_option maxRecDepth 100000
set_option maxHeartbeats 8000000
set_option synthInstance.maxHeartbeats 0
set_option synthInstance.maxSize 100000
/-! PdRw: rows of systems as data. -/
namespace PD
open PySem L2
theorem euc_all2 {a b : Nat} (h : b < 2 ^ 1999) : euc 20000 a b = Nat.gcd a b := by
  by_cases hb : b = 0
  · rw [euc, if_pos hb, hb]; simp
  · have hr : a % b < b := Nat.mod_lt _ (by omega)
    have h4 : b * (a % b) < 2 ^ 19998 := by
      have e : (2 : Nat) ^ 3998 = 2 ^ 1999 * 2 ^ 1999 := by rw [← Nat.pow_add]
      refine Nat.lt_of_lt_of_le (m := 2 ^ 3998) ?_ (Nat.pow_le_pow_right (by decide) (by decide))
      rw [e]
      exact Nat.mul_lt_mul'' h (by omega)
    rw [euc, if_neg hb, euc_gcd 19998 b (a % b) (by omega) h4, Nat.gcd_comm a b, Nat.gcd_rec b a]
    exact Nat.gcd_comm _ _
instance : QN 1 3 (1 / 3) := ⟨by decide +kernel, by decide +kernel⟩
instance : QN 5 3 (5 / 3) := ⟨by decide +kernel, by decide +kernel⟩
instance : QN 7 2 (7 / 2) := ⟨by decide +kernel, by decide +kernel⟩
instance qb_13 : Qb (1 / 3) 2 := ⟨by decide +kernel, by decide +kernel⟩
instance qb_53 : Qb (5 / 3) 3 := ⟨by decide +kernel, by decide +kernel⟩
instance qb_72 : Qb (7 / 2) 3 := ⟨by decide +kernel, by decide +kernel⟩
instance (priority := low + 1) up_map {α : Type} {f : α → D} {ns : List α} {k : Int} {a : α} : Up (ns.map f) k (f a) ((ns.set k.toNat a).map f) := ⟨by simp [List.map_set]⟩
theorem QbL.set {qs : List Rat} {n m : Nat} {q : Rat} {i : Nat} (h : QbL qs n) (h2 : Qb q m) (hm : n ≤ m) : QbL (qs.set i q) m := ⟨fun p hp => by
  rcases List.mem_or_eq_of_mem_set hp with hp | rfl
  · exact (h.mono hm).h p hp
  · exact h2.h⟩
class QtO (e : CO) : Prop where
  h : e.quiet = true
instance : QtO .none := ⟨rfl⟩
instance {a : CE} [h : Qt a] : QtO (.some a) := ⟨by simp [CO.quiet, h.h]⟩
instance {d : D} {lo hi : CO} [h : QtO lo] [h2 : QtO hi] : RO d lo hi := ⟨by simp [h.h, h2.h]⟩
structure Rw where
  fs : List Rat
  sg : Str
  bd : Rat
deriving Inhabited
def rwD (r : Rw) : D := .tup [.lst .frz (r.fs.map qD), .str r.sg, qD r.bd]
section
variable {r : Rw}
instance : Fzn (rwD r) := ⟨(inferInstance : Fzn (D.tup [.lst .frz (r.fs.map qD), .str r.sg, qD r.bd])).h⟩
instance : Rt (rwD r) := ⟨(inferInstance : Rt (D.tup [.lst .frz (r.fs.map qD), .str r.sg, qD r.bd])).h⟩
instance : Ix (rwD r) (.int 0) True (.lst .frz (r.fs.map qD)) := ⟨fun _ => rfl⟩
instance : Ix (rwD r) (.int 1) True (.str r.sg) := ⟨fun _ => rfl⟩
instance : Ix (rwD r) (.int 2) True (qD r.bd) := ⟨fun _ => rfl⟩
instance {kp : List Nat} {ts : TgL} {ρ ρ' : Ev} [h : TSL kp ts [.lst .frz (r.fs.map qD), .str r.sg, qD r.bd] ρ ρ'] : TS kp (.tup ts) (rwD r) ρ ρ' := ⟨by simp only [rwD, Tg.st, h.h]⟩
end
/-- a sound row of n variables, bounds -/
structure RwOk (n b c : Nat) (r : Rw) : Prop where
  fs : r.fs.length = n ∧ QbL r.fs b
  sg : r.sg = "=" ∨ r.sg = "<=" ∨ r.sg = "<"
  bd : Qb r.bd c
theorem RwOk.sb {n b c : Nat} {r : Rw} (h : RwOk n b c r) : SB r.sg 2 := by
  rcases h.sg with e | e | e <;> rw [e] <;> exact ⟨by decide +kernel, by decide +kernel⟩
theorem RwOk.mono {n b c b' c' : Nat} {r : Rw} (h : RwOk n b c r) (hb : b ≤ b') (hc : c ≤ c') : RwOk n b' c' r := ⟨⟨h.fs.1, h.fs.2.mono hb⟩, h.sg, h.bd.mono hc⟩
theorem rp_rw {n b c : Nat} {r : Rw} (h : RwOk n b c r) (hn : n ≤ 8) (hb : b ≤ 90) (hc : c ≤ 90) : Rp (rwD r) 2000 3 := by
  have h1 := h.fs.1
  exact (rp_tup (rpl_cons (rp_qs h.fs.2 hb) (rpl_cons (rp_str h.sb) (rpl_cons (rp_q (h.bd.mono hc)) (rpl_nil (k := 0)))))).mono (by rw [h1]; omega) (by decide)
theorem rp_rws {o : Ow} {n b c : Nat} {rs : List Rw} (h : ∀ r ∈ rs, RwOk n b c r) (hn : n ≤ 8) (hb : b ≤ 90) (hc : c ≤ 90) (hl : rs.length ≤ 14) : Rp (.lst o (rs.map rwD)) 30000 4 :=
  (rp_lst (rpl_map rs fun r hr => rp_rw (h r hr) hn hb hc)).mono (by omega) (by decide)
/-- what a row says of numbers -/
def keepR (r : Rw) (xs : List Rat) : Bool := if r.sg = "=" then decide (qdot r.fs xs = r.bd) else if r.sg = "<=" then !decide (r.bd < qdot r.fs xs) else decide (qdot r.fs xs < r.bd)
theorem qdot_len {ps qs : List Rat} {n : Nat} (h : ps.length = n) (h2 : qs.length = n) : qdot ps qs = qsum ((List.range n).map fun k : Nat => atE ps (0 + k) * atE qs (0 + k)) := qdot_range n ps qs h h2
theorem ordQ_lt {p q : Rat} : ordQ p q < 0 ↔ p < q := by
  unfold ordQ
  split
  · simp_all
  · split <;> simp_all
theorem ordQ_gt {p q : Rat} : 0 < ordQ p q ↔ q < p := by
  unfold ordQ
  split
  · rename_i h
    constructor
    · intro g; exact absurd g (by decide)
    · intro g; exact absurd h (Rat.not_lt.mpr (Rat.le_of_lt g))
  · split <;> simp_all
theorem ordQ_eq {p q : Rat} : ordQ p q = 0 ↔ p = q := by
  constructor
  · intro h
    have h1 : ¬ p < q := fun g => by have := ordQ_lt.mpr g; omega
    have h2 : ¬ q < p := fun g => by have := ordQ_gt.mpr g; omega
    exact Rat.le_antisymm (Rat.not_lt.mp h2) (Rat.not_lt.mp h1)
  · rintro rfl
    unfold ordQ
    rw [if_neg Rat.lt_irrefl, if_neg Rat.lt_irrefl]
/-! ### multipliers -/
def absQ (q : Rat) : Rat := ⟨q.num.natAbs, q.den, q.den_nz, by simpa using q.reduced⟩
instance {q : Rat} : QN ((q.num.natAbs : Nat) : Int) q.den (absQ q) := ⟨rfl, rfl⟩
instance qb_abs {q : Rat} {n : Nat} [h : Qb q n] : Qb (absQ q) n := ⟨by
  have := h.h
  exact ⟨by simpa [absQ] using this.1, this.2⟩⟩
theorem absQ_nn (q : Rat) : 0 ≤ absQ q := by
  have h : 0 ≤ (absQ q).num := by simp [absQ]
  exact Rat.num_nonneg.mp h
def colQ (rows : List Rw) (ms : List Rat) (p : Int) : Rat := qdot (rows.map fun r => atE r.fs p) ms
def bdQ (rows : List Rw) (ms : List Rat) : Rat := qdot (rows.map fun r => r.bd) ms
theorem zip_dot (f : Rw → Rat) : ∀ (rows : List Rw) (ms : List Rat), qsum ((rows.zip ms).map fun a => a.2 * f a.1) = qdot (rows.map f) ms
  | [], ms => by cases ms <;> rfl
  | r :: rs, [] => rfl
  | r :: rs, m :: ms => by
    have ih := zip_dot f rs ms
    unfold qdot at ih ⊢
    simp only [List.zip_cons_cons, List.map_cons, qsum_cons, ih]
    rw [Rat.mul_comm m]
def aB (rows : List Rw) (ms : List Rat) : Bool := ((rows.zip ms).map fun a => (decide (a.1.sg = Str.ofString "=") || decide (0 ≤ ordQ a.2 0))).all id
def stB (rows : List Rw) (ms : List Rat) : Bool := ((rows.zip ms).map fun a => (decide (a.1.sg = Str.ofString "<") && !decide (a.2 = 0))).any id
def refB (c : Nat) (rows : List Rw) (ms : List Rat) : Bool := decide (ms.length = rows.length) && (aB rows ms && (((List.range c).map fun p : Nat => decide (colQ rows ms p = 0)).all id && (decide (bdQ rows ms < 0) || (decide (bdQ rows ms = 0) && stB rows ms))))
theorem cutA_lo {α : Type} (xs : List α) (n : Nat) : cutA xs none (some (n : Int)) = xs.take n := by
  unfold cutA
  rw [HT.sIx_nat, HT.sIx_none]
  simp [List.take_eq_take_iff]
theorem cutA_hi {α : Type} (xs : List α) (n : Nat) : cutA xs (some (n : Int)) none = xs.drop n := by
  unfold cutA
  rw [HT.sIx_nat, HT.sIx_none]
  apply List.ext_getElem?
  intro i
  rw [List.getElem?_take, List.getElem?_drop, List.getElem?_drop]
  rcases Nat.lt_or_ge n xs.length with g | g
  · rw [Nat.min_eq_left (Nat.le_of_lt g)]
    split
    · rfl
    · exact (List.getElem?_eq_none (by omega)).symm
  · rw [Nat.min_eq_right g]
    split
    · omega
    · exact (List.getElem?_eq_none (by omega)).symm
theorem qdot_mid {xs ys : List Rat} (h : xs.length = ys.length) (n : Nat) (x y : Rat) : qdot (xs.take n ++ [x] ++ xs.drop n) (ys.take n ++ [y] ++ ys.drop n) = qdot xs ys + x * y := by
  have hd : qdot xs ys = qdot (xs.take n) (ys.take n) + qdot (xs.drop n) (ys.drop n) := by
    unfold qdot
    conv => lhs; rw [← List.take_append_drop n xs, ← List.take_append_drop n ys]
    rw [List.zip_append (by simp [h]), List.map_append, qsum_append]
  rw [hd]
  unfold qdot
  rw [List.zip_append (by simp [h]), List.zip_append (by simp [h]), List.map_append, List.map_append, qsum_append, qsum_append]
  simp only [List.zip_cons_cons, List.zip_nil_left, List.map_cons, List.map_nil, qsum_one]
  grind
theorem any_len {α : Type} (F : α → Bool) : ∀ xs : List α, (xs.map F).any id = decide ((0 : Int) < ((xs.filter F).length : Nat))
  | [] => rfl
  | x :: xs => by
    have ih := any_len F xs
    cases e : F x with
    | true => simp [e]
    | false => simp only [List.map_cons, List.any_cons, e, id, Bool.false_or, List.filter_cons, Bool.false_eq_true, if_false]; exact ih
def byQ (rs : List Rw) (f : Int → Rat) (ms : List Int) (k : Nat) : Rat := if (atE rs k).sg = Str.ofString "=" then f (((atZ ms k).natAbs : Int) % 13) else absQ (f (((atZ ms k).natAbs : Int) % 13))
theorem byQ_nn {rs : List Rw} {f : Int → Rat} {ms : List Int} {k : Nat} (h : (atE rs k).sg ≠ Str.ofString "=") : 0 ≤ byQ rs f ms k := by
  unfold byQ
  rw [if_neg h]
  exact absQ_nn _
end PD
set_option Elab.async false
set_option linter.all false
set_option maxRecDepth 100000
set_option maxHeartbeats 8000000
set_option synthInstance.maxHeartbeats 0
set_option synthInstance.maxSize 100000
/-! PdSt: a stream of draws as data; euclid by a while loop. -/
namespace PD
open PySem L2
instance {q : Rat} : QN (0 - q.num) q.den (-q) := ⟨by rw [Rat.neg_num]; omega, rfl⟩
structure Stm where
  xs : List Int
  p : Nat
  r : Int
abbrev stL (s : Stm) : List D := [.lst .frz (s.xs.map D.int), .int s.p, .int s.r]
def stD (s : Stm) : D := .lst .own (stL s)
instance {s : Stm} : Rt (stD s) := ⟨(inferInstance : Rt (D.lst .own (stL s))).h⟩
instance up3_0 {a b c d : D} : Up [a, b, c] 0 d [d, b, c] := ⟨rfl⟩
instance up3_1 {a b c d : D} : Up [a, b, c] 1 d [a, d, c] := ⟨rfl⟩
instance up3_2 {a b c d : D} : Up [a, b, c] 2 d [a, b, d] := ⟨rfl⟩
theorem euc_step {x y k : Nat} (hy : y ≠ 0) (h : y ≤ x) (h2 : x * y < 2 ^ (k + 1)) : y * (x % y) < 2 ^ k := by
  have hq : y + x % y ≤ x := by
    have e := Nat.div_add_mod x y
    have hp : 1 ≤ x / y := (Nat.one_le_div_iff (by omega)).mpr h
    have := Nat.mul_le_mul_left y hp
    omega
  have h5 : 2 * (y * (x % y)) ≤ x * y := by
    have hr : x % y < y := Nat.mod_lt _ (by omega)
    have h6 : 2 * (x % y) ≤ x := by omega
    calc 2 * (y * (x % y)) = y * (2 * (x % y)) := by rw [Nat.mul_left_comm]
      _ ≤ y * x := Nat.mul_le_mul_left _ h6
      _ = x * y := Nat.mul_comm _ _
  rw [Nat.pow_succ] at h2
  omega
theorem any_q (q : Rat) : ∀ qs : List Rat, (D.stripL (qs.map qD)).any (fun z => PyData.eqv z (qD q).strip) = decide (q ∈ qs)
  | [] => by simp [D.stripL]
  | p :: ps => by
    simp only [List.map_cons, D.stripL, List.any_cons, any_q q ps, q_eqv]
    rw [Bool.eq_iff_iff]
    simp only [Bool.or_eq_true, decide_eq_true_eq, List.mem_cons]
    exact ⟨fun h => h.imp (·.symm) id, fun h => h.imp (·.symm) id⟩
theorem inL_q (q : Rat) (qs : List Rat) : inL (qD q) (qs.map qD) = some (decide (q ∈ qs)) := by
  have e1 : inD (qD q) (qs.map qD) = none := rfl
  have e2 : (D.lst .frz (qs.map qD)).shp = true := shp_of (d := .lst .frz (qs.map qD)) (C := True) (n := 2) trivial (by decide)
  simp only [inL, e1, q_shp, e2, Bool.and_self, if_true, any_q]
instance {o : Ow} {q : Rat} {qs : List Rat} : Op .isin (qD q) (.lst o (qs.map qD)) True (.bl (decide (q ∈ qs))) := ⟨fun _ => by
  have e : O2.isin.ev (qD q) (.lst o (qs.map qD)) = (inL (qD q) (qs.map qD)).map .bl := rfl
  rw [e, inL_q]; rfl⟩
instance {o : Ow} {q : Rat} {qs : List Rat} : Op .notin (qD q) (.lst o (qs.map qD)) True (.bl (!decide (q ∈ qs))) := ⟨fun _ => by
  have e : O2.notin.ev (qD q) (.lst o (qs.map qD)) = (inL (qD q) (qs.map qD)).map fun b => .bl (!b) := rfl
  rw [e, inL_q]; rfl⟩
theorem erase_map {α : Type} (f : α → D) (xs : List α) (i : Nat) : (xs.map f).eraseIdx i = (xs.eraseIdx i).map f := by
  rw [List.eraseIdx_eq_take_drop_succ, List.eraseIdx_eq_take_drop_succ, List.map_append, List.map_take, List.map_drop]
instance mt_popAt {α : Type} [Inhabited α] {f : α → D} {xs : List α} {i : Int} : Mt .popAt (xs.map f) [.int i] (0 ≤ i ∧ i < xs.length ∧ i < 2 ^ 63) (f (atE xs i)) ((xs.eraseIdx i.toNat).map f) := ⟨fun c => by
  have hl : i.toNat < xs.length := by omega
  simp only [M1.ev, decide_eq_true c.1, decide_eq_true c.2.2, Bool.and_self, if_true, List.getElem?_map, List.getElem?_eq_getElem hl, Option.map_some, atE, Option.getD_some, erase_map]⟩
structure RxS (d : PyData) (w k : Nat) : Prop where
  a : d.leavesShort 500 = true
  b : d.weight ≤ w
  c : d.depth ≤ k
  e : d.showable = true
  f : d.hasDict = false
structure RxSL (d : List PyData) (w k : Nat) : Prop where
  a : PyData.leavesShortAll 500 d = true
  b : PyData.weightAll d ≤ w
  c : PyData.depthAll d ≤ k
  e : PyData.showableAll d = true
  f : PyData.hasDictAll d = false
abbrev Rx (d : D) (w k : Nat) : Prop := RxS d.strip w k
abbrev RxL (d : List D) (w k : Nat) : Prop := RxSL (D.stripL d) w k
theorem rx_int {i : Int} (h : i.natAbs < 2 ^ 450) : Rx (.int i) 451 0 := by
  have h1 : i.natAbs.log2 < 450 := PySem.Flt.log2_lt_of (by decide) h
  refine ⟨?_, ?_, ?_, ?_, ?_⟩
  · have h2 := int_text_length_le (a := i) (k := 450) (by decide) h1
    have e : (Str.ofString (toString i)).length = (toString i).length := ofString_length _
    simp only [D.strip, PyData.leavesShort, PyData.shown]
    exact decide_eq_true (by rw [e]; omega)
  · simp only [D.strip, PyData.weight]
    split <;> omega
  · simp [D.strip, PyData.depth]
  · simp only [D.strip, PyData.showable, decide_eq_true_eq]; omega
  · simp [D.strip, PyData.hasDict]
theorem rx_str {x : Str} {n : Nat} (h : SB x n) : Rx (.str x) n 0 := by
  refine ⟨?_, ?_, ?_, ?_, ?_⟩
  · simp only [D.strip, PyData.leavesShort, List.all_eq_true, decide_eq_true_eq]
    intro c hc
    have := h.c c hc
    omega
  · have := h.l
    simpa [D.strip, PyData.weight, Str.length] using this
  · simp [D.strip, PyData.depth]
  · simp [D.strip, PyData.showable]
  · simp [D.strip, PyData.hasDict]
theorem rxl_nil {k : Nat} : RxL [] 0 k := by
  refine ⟨?_, ?_, ?_, ?_, ?_⟩ <;> simp [D.stripL, PyData.leavesShortAll, PyData.weightAll, PyData.depthAll, PyData.showableAll, PyData.hasDictAll]
theorem rxl_cons {d : D} {ds : List D} {n m k j : Nat} (h : Rx d n k) (h2 : RxL ds m j) : RxL (d :: ds) (n + 1 + m) (max k j) := by
  have h3 := h.b
  have h4 := h2.b
  have h5 := h.c
  have h6 := h2.c
  refine ⟨?_, ?_, ?_, ?_, ?_⟩
  · simp [D.stripL, PyData.leavesShortAll, h.a, h2.a]
  · simp only [D.stripL, PyData.weightAll]; omega
  · simp only [D.stripL, PyData.depthAll]; omega
  · simp [D.stripL, PyData.showableAll, h.e, h2.e]
  · simp [D.stripL, PyData.hasDictAll, h.f, h2.f]
theorem rxl_map {α : Type} {f : α → D} {n k : Nat} : ∀ (xs : List α), (∀ a ∈ xs, Rx (f a) n k) → RxL (xs.map f) (xs.length * (n + 1)) k
  | [], _ => by rw [List.length_nil, Nat.zero_mul]; exact rxl_nil
  | x :: xs, h => by
    have h1 := rxl_cons (h x (by simp)) (rxl_map xs fun a ha => h a (by simp [ha]))
    rw [Nat.max_self] at h1
    have e : (x :: xs).length * (n + 1) = n + 1 + xs.length * (n + 1) := by
      rw [List.length_cons, Nat.add_mul, Nat.one_mul]; omega
    rw [e]
    exact h1
theorem RxS.mono {d : PyData} {n m k j : Nat} (h : RxS d n k) (hn : n ≤ m) (hk : k ≤ j) : RxS d m j := ⟨h.a, Nat.le_trans h.b hn, Nat.le_trans h.c hk, h.e, h.f⟩
theorem RxSL.mono {d : List PyData} {n m k j : Nat} (h : RxSL d n k) (hn : n ≤ m) (hk : k ≤ j) : RxSL d m j := ⟨h.a, Nat.le_trans h.b hn, Nat.le_trans h.c hk, h.e, h.f⟩
theorem rx_tup {ds : List D} {n k : Nat} (h : RxL ds n k) : Rx (.tup ds) n (k + 1) := by
  have h3 := h.c
  refine ⟨?_, ?_, ?_, ?_, ?_⟩
  · simpa [D.strip, PyData.leavesShort] using h.a
  · simpa [D.strip, PyData.weight] using h.b
  · simpa [D.strip, PyData.depth] using h.c
  · simpa [D.strip, PyData.showable] using h.e
  · simpa [D.strip, PyData.hasDict] using h.f
theorem rx_lst {o : Ow} {ds : List D} {n k : Nat} (h : RxL ds n k) : Rx (.lst o ds) n (k + 1) := by
  have h3 := h.c
  refine ⟨?_, ?_, ?_, ?_, ?_⟩
  · simpa [D.strip, PyData.leavesShort] using h.a
  · simpa [D.strip, PyData.weight] using h.b
  · simpa [D.strip, PyData.depth] using h.c
  · simpa [D.strip, PyData.showable] using h.e
  · simpa [D.strip, PyData.hasDict] using h.f
theorem rx_q {q : Rat} (h : Qb q 450) : Rx (qD q) 904 1 :=
  (rx_tup (rxl_cons (rx_int h.h.1) (rxl_cons (rx_int (by simpa using h.h.2)) (rxl_nil (k := 0))))).mono (by decide) (by decide)
theorem rx_qs {o : Ow} {qs : List Rat} {n : Nat} (h : QbL qs n) (hn : n ≤ 450) : Rx (.lst o (qs.map qD)) (qs.length * 905) 2 :=
  rx_lst (rxl_map qs fun q hq => rx_q (Qb.mono ⟨h.h q hq⟩ hn))
theorem rx_strs {o : Ow} {xs : List Str} {n : Nat} (h : ∀ x ∈ xs, SB x n) : Rx (.lst o (xs.map D.str)) (xs.length * (n + 1)) 1 :=
  rx_lst (rxl_map xs fun x hx => rx_str (h x hx))
theorem rx_ok {d : D} {w k : Nat} (h : Rx d w k) (hw : w ≤ 33000) (hk : k ≤ 60) : repOk d.strip = true := by
  have h1 := PyData.shown_le 500 (by decide) _ h.a
  have h2 := h.b
  have h3 := h.c
  unfold repOk
  rw [h.e, h.f, szl]
  simp only [Bool.and_eq_true, decide_eq_true_eq, Bool.and_true, Bool.not_false]
  omega
/-! ### lines -/
structure Pc where
  st : Rat
  va : Rat
  sl : Rat
deriving Inhabited
def pcD (p : Pc) : D := .tup [qD p.st, qD p.va, qD p.sl]
section
variable {p : Pc}
instance : Fzn (pcD p) := ⟨(inferInstance : Fzn (D.tup [qD p.st, qD p.va, qD p.sl])).h⟩
instance : Rt (pcD p) := ⟨(inferInstance : Rt (D.tup [qD p.st, qD p.va, qD p.sl])).h⟩
instance : Ix (pcD p) (.int 0) True (qD p.st) := ⟨fun _ => rfl⟩
instance : Ix (pcD p) (.int 1) True (qD p.va) := ⟨fun _ => rfl⟩
instance : Ix (pcD p) (.int 2) True (qD p.sl) := ⟨fun _ => rfl⟩
instance : Bl .len [pcD p] True (.int 3) := ⟨fun _ => rfl⟩
instance : Bl (.isi .tuple) [pcD p] True (.bl true) := ⟨fun _ => rfl⟩
instance : It (pcD p) [qD p.st, qD p.va, qD p.sl] := ⟨rfl⟩
instance {kp : List Nat} {ts : TgL} {ρ ρ' : Ev} [h : TSL kp ts [qD p.st, qD p.va, qD p.sl] ρ ρ'] : TS kp (.tup ts) (pcD p) ρ ρ' := ⟨by simp only [pcD, Tg.st, h.h]⟩
end
def tellQ (p : Pc) (x : Rat) : Rat := p.va + p.sl * (x - p.st)
def stepB (p q : Pc) : Bool := decide (p.st < q.st) && (!decide (p.sl = q.sl) && decide (tellQ p q.st = q.va))
def chainB (ps : List Pc) (n : Nat) : Bool := ((List.range n).map fun k : Nat => stepB (atE ps (k : Int)) (atE ps ((k : Int) + 1))).all id
def lineB (ps : List Pc) : Bool := !ps.isEmpty && (decide ((atE ps 0).st = 0) && chainB ps (ps.length - 1))
structure PcB (n : Nat) (p : Pc) : Prop where
  st : Qb p.st n
  va : Qb p.va n
  sl : Qb p.sl n
end PD
set_option Elab.async false
set_option linter.all false
set_option maxRecDepth 100000
set_option maxHeartbeats 8000000
set_option synthInstance.maxHeartbeats 0
set_option synthInstance.maxSize 100000
/-! PdLn: lines in pieces: what they tell, sums, multiples, tidying. -/
namespace PD
open PySem L2
instance {s : Stm} {ρ : Ev} [h : Shl ρ] : Shl (some (stD s) :: ρ) := ⟨(inferInstance : Shl (some (.lst .own (stL s)) :: ρ)).h⟩
instance : DecidableEq Pc := fun a b => decidable_of_iff (a.st = b.st ∧ a.va = b.va ∧ a.sl = b.sl) (by cases a; cases b; simp)
instance : Ij pcD := ⟨fun a b => by
  have e : PyData.eqv (pcD a).strip (pcD b).strip = (PyData.eqv (qD a.st).strip (qD b.st).strip && (PyData.eqv (qD a.va).strip (qD b.va).strip && (PyData.eqv (qD a.sl).strip (qD b.sl).strip && true))) := by
    simp only [pcD, D.strip, D.stripL, PyData.eqv, PyData.eqvAll]
  rw [e, q_eqv, q_eqv, q_eqv, Bool.eq_iff_iff]
  cases a; cases b
  simp⟩
theorem pc_sh (p : Pc) : (pcD p).strip.canLay0 = true ∧ (pcD p).strip.depth ≤ 2 := by
  have h1 := q_sh p.st
  have h2 := q_sh p.va
  have h3 := q_sh p.sl
  simp only [pcD, D.strip, D.stripL, PyData.canLay0, PyData.canLayAll0, PyData.depth, PyData.depthAll, h1.1, h2.1, h3.1]
  refine ⟨rfl, ?_⟩
  omega
instance {p : Pc} : Sh (pcD p) True 2 := ⟨fun _ => pc_sh p⟩
instance {ps : List Pc} : ShL (ps.map pcD) True 2 := ⟨fun _ => shL_map (C := fun _ => True) (fun a _ => pc_sh a) ps fun _ _ => trivial⟩
instance (priority := low + 3) ix_lastm {α : Type} [Inhabited α] {f : α → D} {o : Ow} {ns : List α} : Ix (.lst o (ns.map f)) (.int (-1)) (0 < ns.length) (f (atE ns ((ns.length : Int) - 1))) := ⟨fun h => by
  have e : ((ns.length : Int) - 1).toNat = ns.length - 1 := by omega
  have hl : ns.length - 1 < ns.length := by omega
  simp only [ixD, atI, List.length_map, ixN_last h, atE, e, List.getElem?_map]
  simp only [Option.bind_some]
  rw [List.getElem?_eq_getElem hl]
  rfl⟩
theorem atE_snoc {α : Type} [Inhabited α] (xs : List α) (x : α) : atE (xs ++ [x]) (xs.length : Int) = x := by simp [atE]
theorem atE_app {α : Type} [Inhabited α] (xs ys : List α) {i : Int} (h : 0 ≤ i ∧ i < xs.length) : atE (xs ++ ys) i = atE xs i := by
  unfold atE
  rw [List.getElem?_append_left (by omega)]
theorem atE_last {α : Type} [Inhabited α] (xs : List α) (x : α) : atE (xs ++ [x]) (((xs ++ [x]).length : Int) - 1) = x := by
  rw [show (((xs ++ [x]).length : Int) - 1) = (xs.length : Int) by simp]
  exact atE_snoc xs x
theorem q_lt_or (a b : Rat) : a < b ∨ b ≤ a := by
  by_cases h : a < b
  · exact .inl h
  · exact .inr (by grind)
theorem snoc_ind {α : Type} {P : List α → Prop} (h0 : P []) (hs : ∀ xs x, P xs → P (xs ++ [x])) (xs : List α) : P xs := by
  have h : ∀ ys : List α, P ys.reverse := fun ys => by
    induction ys with
    | nil => exact h0
    | cons y ys ih => rw [List.reverse_cons]; exact hs _ _ ih
  rw [← List.reverse_reverse xs]
  exact h _
theorem snoc_of {α : Type} {xs : List α} (h : xs ≠ []) : ∃ ys y, xs = ys ++ [y] := ⟨xs.dropLast, xs.getLast h, (List.dropLast_concat_getLast h).symm⟩
/-! ### what a line tells -/
def pieceAt (ps : List Pc) (x : Rat) : Pc := ps.foldl (fun f p => if x < p.st then f else p) (atE ps 0)
theorem fold_in (x : Rat) : ∀ (ps : List Pc) (f : Pc) (P : Pc → Prop), P f → (∀ p ∈ ps, P p) → P (ps.foldl (fun f p => if x < p.st then f else p) f)
  | [], _, _, h, _ => h
  | p :: ps, f, P, h, hp => by
    rw [List.foldl_cons]
    refine fold_in x ps _ P ?_ fun q hq => hp q (by simp [hq])
    split
    · exact h
    · exact hp p (by simp)
theorem pieceAt_mem {ps : List Pc} {x : Rat} (h : 1 ≤ ps.length) : pieceAt ps x ∈ ps := fold_in x ps _ (· ∈ ps) (atE_mem (by omega)) fun _ h => h
theorem pieceAt_one (p : Pc) (x : Rat) : pieceAt [p] x = p := by
  have e : atE [p] 0 = p := rfl
  simp [pieceAt, e]
theorem pieceAt_snoc {ps : List Pc} (q : Pc) (x : Rat) (h : ps ≠ []) : pieceAt (ps ++ [q]) x = if x < q.st then pieceAt ps x else q := by
  have hl : 0 < ps.length := List.length_pos_iff.mpr h
  simp only [pieceAt, List.foldl_append, List.foldl_cons, List.foldl_nil]
  rw [atE_app ps [q] (by omega)]
structure PcW (a b c : Nat) (p : Pc) : Prop where
  st : Qb p.st a
  va : Qb p.va b
  sl : Qb p.sl c
theorem PcW.mono {a b c a' b' c' : Nat} {p : Pc} (h : PcW a b c p) (h1 : a ≤ a') (h2 : b ≤ b') (h3 : c ≤ c') : PcW a' b' c' p := ⟨h.st.mono h1, h.va.mono h2, h.sl.mono h3⟩
theorem PcB.w {n : Nat} {p : Pc} (h : PcB n p) : PcW n n n p := ⟨h.st, h.va, h.sl⟩
theorem PcW.b {a b c n : Nat} {p : Pc} (h : PcW a b c p) (h1 : a ≤ n) (h2 : b ≤ n) (h3 : c ≤ n) : PcB n p := ⟨h.st.mono h1, h.va.mono h2, h.sl.mono h3⟩
theorem PcW.tell {a b c m : Nat} {p : Pc} {x : Rat} (h : PcW a b c p) (hx : Qb x m) : Qb (tellQ p x) (a + b + c + m + 3) := by
  haveI := h.st
  haveI := h.va
  haveI := h.sl
  exact Qb.mono (q := p.va + p.sl * (x - p.st)) inferInstance (by omega)
theorem snoc_ne {α : Type} (xs : List α) (x : α) : xs ++ [x] ≠ [] := by simp
def valQ (ps : List Pc) (x : Rat) : Rat := tellQ (pieceAt ps x) x
/-- a line -/
inductive Ln2 : List Pc → Prop
  | one {p : Pc} : p.st = 0 → Ln2 [p]
  | snoc {ps : List Pc} {l q : Pc} : Ln2 (ps ++ [l]) → l.st < q.st → l.sl ≠ q.sl → tellQ l q.st = q.va → Ln2 (ps ++ [l] ++ [q])
/-- a chain of pieces, some of which may go on with the same slope -/
inductive CN : List Pc → Prop
  | one {p : Pc} : p.st = 0 → CN [p]
  | snoc {ps : List Pc} {l q : Pc} : CN (ps ++ [l]) → l.st < q.st → tellQ l q.st = q.va → CN (ps ++ [l] ++ [q])
theorem Ln2.cn {ps : List Pc} (h : Ln2 ps) : CN ps := by
  induction h with
  | one h => exact .one h
  | snoc _ h1 _ h3 ih => exact .snoc ih h1 h3
theorem Ln2.ne {ps : List Pc} (h : Ln2 ps) : ps ≠ [] := by cases h <;> simp
theorem CN.ne {ps : List Pc} (h : CN ps) : ps ≠ [] := by cases h <;> simp
theorem chain_app (ps : List Pc) (q : Pc) : ∀ n : Nat, n + 1 ≤ ps.length → chainB (ps ++ [q]) n = chainB ps n
  | n, h => by
    unfold chainB
    congr 1
    apply List.map_congr_left
    intro k hk
    have hk := List.mem_range.mp hk
    rw [atE_app ps [q] (by omega), atE_app ps [q] (by omega)]
theorem chain_not {ps : List Pc} {n c : Nat} (hc : c < n) (h : stepB (atE ps (c : Int)) (atE ps ((c : Int) + 1)) = false) : chainB ps n = false := by
  unfold chainB
  rw [List.all_eq_false]
  exact ⟨_, List.mem_map.mpr ⟨c, List.mem_range.mpr hc, rfl⟩, by simp [h]⟩
theorem chain_succ (ps : List Pc) (c : Nat) : chainB ps (c + 1) = (chainB ps c && stepB (atE ps (c : Int)) (atE ps ((c : Int) + 1))) := by
  unfold chainB
  rw [List.range_succ, List.map_append, List.all_append]
  simp
theorem Ln2.line {ps : List Pc} (h : Ln2 ps) : lineB ps = true := by
  induction h with
  | one h =>
    rename_i p
    have e : atE [p] 0 = p := rfl
    simp [lineB, chainB, e, h]
  | snoc h0 h1 h2 h3 ih =>
    rename_i ps l q
    simp only [lineB, Bool.and_eq_true] at ih ⊢
    have e1 : (ps ++ [l] ++ [q]).length - 1 = ps.length + 1 := by simp
    have e2 : (ps ++ [l]).length - 1 = ps.length := by simp
    rw [e1, chain_succ, chain_app _ _ _ (by simp), atE_app (ps ++ [l]) [q] (by simp), atE_app (ps ++ [l]) [q] (i := (ps.length : Int)) (by simp; omega), atE_snoc]
    rw [e2] at ih
    have e3 : atE (ps ++ [l] ++ [q]) ((ps.length : Int) + 1) = q := by
      have := atE_snoc (ps ++ [l]) q
      simpa using this
    rw [e3]
    refine ⟨by simp, ih.2.1, ?_⟩
    rw [ih.2.2]
    simp [stepB, h1, h2, h3]
theorem Ln2.at {ps : List Pc} (h : Ln2 ps) {k : Nat} (hk : k + 1 < ps.length) : (atE ps (k : Int)).st < (atE ps ((k : Int) + 1)).st ∧ (atE ps (k : Int)).sl ≠ (atE ps ((k : Int) + 1)).sl := by
  have h1 := h.line
  simp only [lineB, Bool.and_eq_true] at h1
  have h2 := List.all_eq_true.mp h1.2.2 _ (List.mem_map.mpr ⟨k, List.mem_range.mpr (by omega), rfl⟩)
  simp only [id, stepB, Bool.and_eq_true, decide_eq_true_eq, Bool.not_eq_true', decide_eq_false_iff_not] at h2
  exact ⟨h2.1, h2.2.1⟩
theorem Ln2.zero {ps : List Pc} (h : Ln2 ps) : (atE ps 0).st = 0 := by
  have h1 := h.line
  simp only [lineB, Bool.and_eq_true, decide_eq_true_eq] at h1
  exact h1.2.1
theorem CN.head {ps : List Pc} (h : CN ps) : ∃ p r, ps = p :: r ∧ p.st = 0 ∧ (∀ q ∈ r, 0 < q.st) := by
  have : ∀ ps, CN ps → (∃ p r, ps = p :: r ∧ p.st = 0 ∧ ∀ q ∈ r, 0 < q.st) ∧ ∀ qs l, ps = qs ++ [l] → 0 ≤ l.st := by
    intro ps h
    induction h with
    | one h =>
      rename_i p
      refine ⟨⟨p, [], rfl, h, by simp⟩, fun qs l e => ?_⟩
      obtain ⟨rfl, e2⟩ := List.append_inj' (s₁ := []) (t₁ := [p]) e rfl
      cases e2
      rw [h]; exact Rat.le_refl
    | snoc h0 h1 h2 ih =>
      rename_i ps l q
      obtain ⟨⟨p, r, e, hp, hr⟩, hl⟩ := ih
      have hl := hl _ _ rfl
      have hq : 0 < q.st := by grind
      refine ⟨⟨p, r ++ [q], by rw [e]; rfl, hp, fun q' hq' => ?_⟩, fun qs l' e => ?_⟩
      · rcases List.mem_append.mp hq' with g | g
        · exact hr q' g
        · have : q' = q := by simpa using g
          rw [this]; exact hq
      · obtain ⟨_, e2⟩ := List.append_inj' e rfl
        cases e2
        exact Rat.le_of_lt hq
  exact (this ps h).1
theorem fold_stay (x : Rat) : ∀ (ps : List Pc) (f : Pc), (∀ p ∈ ps, x < p.st) → ps.foldl (fun f p => if x < p.st then f else p) f = f
  | [], _, _ => rfl
  | p :: ps, f, h => by
    rw [List.foldl_cons, if_pos (h p (by simp))]
    exact fold_stay x ps f fun q hq => h q (by simp [hq])
theorem CN.low {ps : List Pc} (h : CN ps) {x : Rat} (hx : x < 0) : pieceAt ps x = pieceAt ps 0 := by
  obtain ⟨p, r, rfl, hp, hr⟩ := h.head
  have e : atE (p :: r) 0 = p := rfl
  simp only [pieceAt, List.foldl_cons, e, ite_self]
  rw [fold_stay x r p fun q hq => by have := hr q hq; grind, fold_stay 0 r p fun q hq => hr q hq]
theorem fold_same {x y : Rat} : ∀ (ps : List Pc) (f : Pc), (∀ p ∈ ps, x < p.st ↔ y < p.st) → ps.foldl (fun f p => if x < p.st then f else p) f = ps.foldl (fun f p => if y < p.st then f else p) f
  | [], _, _ => rfl
  | p :: ps, f, h => by
    rw [List.foldl_cons, List.foldl_cons]
    have e : (if x < p.st then f else p) = if y < p.st then f else p := by
      by_cases g : x < p.st
      · rw [if_pos g, if_pos ((h p (by simp)).mp g)]
      · rw [if_neg g, if_neg fun z => g ((h p (by simp)).mpr z)]
    rw [e]
    exact fold_same ps _ fun q hq => h q (by simp [hq])
theorem pieceAt_same {ps : List Pc} {x y : Rat} (h : ∀ p ∈ ps, x < p.st ↔ y < p.st) : pieceAt ps x = pieceAt ps y := fold_same ps _ h
/-- no jump between neighbouring starts -/
theorem CN.cont {ps : List Pc} (h : CN ps) : ∀ {a b : Rat}, 0 ≤ a → a < b → (∀ p ∈ ps, p.st < b → p.st ≤ a) → tellQ (pieceAt ps b) b = tellQ (pieceAt ps a) b := by
  induction h with
  | one h =>
    intro a b _ _ _
    rw [pieceAt_one, pieceAt_one]
  | snoc h0 h1 h2 ih =>
    rename_i ps l q
    intro a b h3 h4 h5
    rw [pieceAt_snoc q b (snoc_ne ps l), pieceAt_snoc q a (snoc_ne ps l)]
    by_cases g : b < q.st
    · rw [if_pos g, if_pos (by grind)]
      exact ih h3 h4 fun p hp => h5 p (List.mem_append_left _ hp)
    · rw [if_neg g]
      by_cases g2 : a < q.st
      · rw [if_pos g2]
        have e : q.st = b := by
          rcases q_lt_or q.st b with g3 | g3
          · have := h5 q (by simp) g3
            grind
          · grind
        have e2 : pieceAt (ps ++ [l]) a = l := by
          have hl : ¬ a < l.st := by
            have := h5 l (by simp) (by grind)
            grind
          cases ps with
          | nil => exact pieceAt_one l a
          | cons p ps => rw [pieceAt_snoc l a (by simp), if_neg hl]
        rw [e2, ← e, h2]
        simp only [tellQ]
        grind
      · rw [if_neg g2]
/-! ### tidying -/
def tidyS (f : List Pc) (p : Pc) : List Pc := if f = [] ∨ (atE f ((f.length : Int) - 1)).sl ≠ p.sl then f ++ [p] else f
def tidy (ps : List Pc) : List Pc := ps.foldl tidyS []
theorem tidy_snoc (ps : List Pc) (q : Pc) : tidy (ps ++ [q]) = tidyS (tidy ps) q := by simp [tidy]
theorem CN.tidy {ps : List Pc} (h : CN ps) : ∀ qs l, ps = qs ++ [l] → ∃ f k, PD.tidy ps = f ++ [k] ∧ Ln2 (f ++ [k]) ∧ k.sl = l.sl ∧ k.st ≤ l.st ∧ (∀ x, tellQ k x = tellQ l x) ∧ ∀ x, valQ (f ++ [k]) x = valQ ps x := by
  induction h with
  | one h =>
    rename_i p
    intro qs l e
    obtain ⟨rfl, e2⟩ := List.append_inj' (s₁ := []) (t₁ := [p]) e rfl
    cases e2
    exact ⟨[], p, rfl, .one h, rfl, Rat.le_refl, fun _ => rfl, fun _ => rfl⟩
  | snoc h0 h1 h2 ih =>
    rename_i ps l q
    intro qs l' e
    obtain ⟨_, e2⟩ := List.append_inj' e rfl
    cases e2
    obtain ⟨f, k, e1, h3, h4, h5, h6, h7⟩ := ih ps l rfl
    rw [tidy_snoc, e1]
    unfold tidyS
    rw [atE_last]
    by_cases g : k.sl = q.sl
    · rw [if_neg (by simp [g])]
      have ht : ∀ x, tellQ k x = tellQ q x := fun x => by
        have := h6 q.st
        rw [h2] at this
        simp only [tellQ] at this ⊢
        grind
      refine ⟨f, k, rfl, h3, g, by grind, ht, fun x => ?_⟩
      rw [h7]
      unfold valQ
      rw [pieceAt_snoc q x (snoc_ne ps l)]
      by_cases g2 : x < q.st
      · rw [if_pos g2]
      · rw [if_neg g2]
        have := h7 x
        unfold valQ at this
        rw [← this, ← ht x]
        congr 1
        cases f with
        | nil => exact pieceAt_one k x
        | cons p f => rw [pieceAt_snoc k x (by simp), if_neg (by grind)]
    · rw [if_pos (.inr g)]
      refine ⟨f ++ [k], q, rfl, .snoc h3 (by grind) g (by rw [h6, h2]), rfl, Rat.le_refl, fun _ => rfl, fun x => ?_⟩
      have := h7 x
      unfold valQ at this ⊢
      rw [pieceAt_snoc q x (snoc_ne ps l), pieceAt_snoc q x (snoc_ne f k)]
      by_cases g2 : x < q.st
      · rw [if_pos g2, if_pos g2, this]
      · rw [if_neg g2, if_neg g2]
theorem CN.tidy_ok {ps : List Pc} (h : CN ps) : Ln2 (PD.tidy ps) ∧ ∀ x, valQ (PD.tidy ps) x = valQ ps x := by
  obtain ⟨qs, l, e⟩ := snoc_of h.ne
  obtain ⟨f, k, e1, h1, _, _, _, h2⟩ := h.tidy qs l e
  rw [e1]
  exact ⟨h1, h2⟩
theorem tidy_in {P : Pc → Prop} : ∀ (ps f : List Pc), (∀ p ∈ f, P p) → (∀ p ∈ ps, P p) → ∀ p ∈ ps.foldl tidyS f, P p
  | [], _, h, _ => h
  | q :: ps, f, h, h2 => by
    rw [List.foldl_cons]
    refine tidy_in ps _ ?_ fun p hp => h2 p (by simp [hp])
    unfold tidyS
    split
    · intro p hp
      rcases List.mem_append.mp hp with g | g
      · exact h p g
      · have : p = q := by simpa using g
        rw [this]; exact h2 q (by simp)
    · exact h
theorem tidy_len : ∀ (ps f : List Pc), (ps.foldl tidyS f).length ≤ f.length + ps.length
  | [], f => by simp
  | q :: ps, f => by
    rw [List.foldl_cons]
    have := tidy_len ps (tidyS f q)
    have h2 : (tidyS f q).length ≤ f.length + 1 := by unfold tidyS; split <;> simp
    simp only [List.length_cons]
    omega
/-! ### a multiple -/
def mulP (c : Rat) (p : Pc) : Pc := ⟨p.st, c * p.va, c * p.sl⟩
theorem tell_mul (c : Rat) (p : Pc) (x : Rat) : tellQ (mulP c p) x = c * tellQ p x := by
  simp only [tellQ, mulP]; grind
theorem CN.mul {ps : List Pc} (h : CN ps) (c : Rat) : CN (ps.map (mulP c)) ∧ ∀ x, valQ (ps.map (mulP c)) x = c * valQ ps x := by
  have : ∀ ps, CN ps → CN (ps.map (mulP c)) ∧ ∀ x, pieceAt (ps.map (mulP c)) x = mulP c (pieceAt ps x) := by
    intro ps h
    induction h with
    | one h => exact ⟨.one h, fun x => by rw [List.map_cons, List.map_nil, pieceAt_one, pieceAt_one]⟩
    | snoc h0 h1 h2 ih =>
      rename_i ps l q
      simp only [List.map_append, List.map_cons, List.map_nil] at ih ⊢
      refine ⟨.snoc ih.1 h1 ?_, fun x => ?_⟩
      · rw [tell_mul]
        show c * tellQ l q.st = c * q.va
        rw [h2]
      · rw [pieceAt_snoc _ _ (snoc_ne _ _), pieceAt_snoc _ _ (snoc_ne _ _), ih.2]
        show (if x < q.st then _ else _) = _
        split <;> rfl
  obtain ⟨h1, h2⟩ := this ps h
  exact ⟨h1, fun x => by unfold valQ; rw [h2, tell_mul]⟩
/-! ### a sum -/
def addP (ps os : List Pc) (s : Rat) : Pc := ⟨s, tellQ (pieceAt ps s) s + tellQ (pieceAt os s) s, (pieceAt ps s).sl + (pieceAt os s).sl⟩
theorem addP_comm (ps os : List Pc) (s : Rat) : addP ps os s = addP os ps s := by
  simp only [addP, Rat.add_comm]
/-- the starts of both lines -/
structure Sts (ps os : List Pc) (S : List Rat) : Prop where
  inc : S.Pairwise (· < ·)
  mem : ∀ x, x ∈ S ↔ (∃ p ∈ ps, p.st = x) ∨ ∃ p ∈ os, p.st = x
theorem Sts.pos {ps os : List Pc} {S : List Rat} (h : Sts ps os S) (hp : CN ps) (ho : CN os) : ∀ x ∈ S, 0 ≤ x := by
  have k : ∀ qs, CN qs → ∀ p ∈ qs, 0 ≤ p.st := by
    intro qs hq p hp
    obtain ⟨p0, r, rfl, e, hr⟩ := hq.head
    rcases List.mem_cons.mp hp with rfl | g
    · rw [e]; exact Rat.le_refl
    · exact Rat.le_of_lt (hr p g)
  intro x hx
  rcases (h.mem x).mp hx with ⟨p, hp', rfl⟩ | ⟨p, hp', rfl⟩
  · exact k _ hp p hp'
  · exact k _ ho p hp'
theorem inc_eq : ∀ {xs ys : List Rat}, xs.Pairwise (· < ·) → ys.Pairwise (· < ·) → (∀ z, z ∈ xs ↔ z ∈ ys) → xs = ys
  | [], [], _, _, _ => rfl
  | [], y :: ys, _, _, h => by have := (h y).mpr (by simp); simp at this
  | x :: xs, [], _, _, h => by have := (h x).mp (by simp); simp at this
  | x :: xs, y :: ys, hx, hy, h => by
    rw [List.pairwise_cons] at hx hy
    have e : x = y := by
      rcases List.mem_cons.mp ((h x).mp (by simp)) with g | g
      · exact g
      · rcases List.mem_cons.mp ((h y).mpr (by simp)) with g2 | g2
        · exact g2.symm
        · have := hy.1 x g
          have := hx.1 y g2
          grind
    subst e
    congr 1
    refine inc_eq hx.2 hy.2 fun z => ⟨fun hz => ?_, fun hz => ?_⟩
    · rcases List.mem_cons.mp ((h z).mp (by simp [hz])) with g | g
      · have := hx.1 z hz
        rw [g] at this
        exact absurd this (by grind)
      · exact g
    · rcases List.mem_cons.mp ((h z).mpr (by simp [hz])) with g | g
      · have := hy.1 z hz
        rw [g] at this
        exact absurd this (by grind)
      · exact g
theorem Sts.add {ps os : List Pc} {S : List Rat} (h : Sts ps os S) (hp : CN ps) (ho : CN os) : ∀ pre : List Rat, ∀ suf, S = pre ++ suf → pre ≠ [] →
    CN (pre.map (addP ps os)) ∧ ∀ x, (∀ s ∈ suf, x < s) → valQ (pre.map (addP ps os)) x = valQ ps x + valQ os x := by
  have hpos := h.pos hp ho
  refine snoc_ind (fun _ _ h => absurd rfl h) fun pre s ih suf e _ => ?_
  have tell : ∀ x, pieceAt ps x = pieceAt ps s → pieceAt os x = pieceAt os s → tellQ (addP ps os s) x = valQ ps x + valQ os x := fun x e1 e2 => by
    unfold valQ
    rw [e1, e2]
    simp only [tellQ, addP]
    grind
  have inc := h.inc
  rw [e, List.append_assoc, List.pairwise_append] at inc
  have inc2 := inc.2.1
  rw [List.cons_append, List.nil_append, List.pairwise_cons] at inc2
  have hs : s ∈ S := by rw [e]; simp
  -- at a place from s on, ahead of the next start
  have here : ∀ x, ¬ x < s → (∀ t ∈ suf, x < t) → ∀ t ∈ S, (x < t ↔ s < t) := fun x h1 h2 t ht => by
    rw [e] at ht
    rcases List.mem_append.mp ht with g | g
    · rcases List.mem_append.mp g with g | g
      · have := inc.2.2 t g s (by simp)
        grind
      · have : t = s := by simpa using g
        subst this
        grind
    · have h3 := h2 t g
      have h4 := inc2.1 t g
      grind
  have at_ : ∀ x, ¬ x < s → (∀ t ∈ suf, x < t) → pieceAt ps x = pieceAt ps s ∧ pieceAt os x = pieceAt os s := fun x h1 h2 =>
    ⟨pieceAt_same fun p hp => here x h1 h2 p.st ((h.mem _).mpr (.inl ⟨p, hp, rfl⟩)), pieceAt_same fun p hp => here x h1 h2 p.st ((h.mem _).mpr (.inr ⟨p, hp, rfl⟩))⟩
  rcases List.eq_nil_or_concat pre with rfl | ⟨pre', s', rfl⟩
  · -- the first one
    have h0 : s = 0 := by
      obtain ⟨p0, r, e0, h0, _⟩ := hp.head
      have hm : (0 : Rat) ∈ S := (h.mem 0).mpr (.inl ⟨p0, by rw [e0]; simp, h0⟩)
      rw [e] at hm
      rcases List.mem_append.mp hm with g | g
      · have : (0 : Rat) = s := by simpa using g
        exact this.symm
      · have h1 := inc2.1 0 g
        have h2 := hpos s hs
        grind
    refine ⟨.one h0, fun x hx => ?_⟩
    rw [List.nil_append, List.map_cons, List.map_nil]
    unfold valQ
    rw [pieceAt_one]
    by_cases g : x < s
    · have e1 : pieceAt ps x = pieceAt ps s := by rw [h0]; exact hp.low (by grind)
      have e2 : pieceAt os x = pieceAt os s := by rw [h0]; exact ho.low (by grind)
      exact tell x e1 e2
    · exact tell x (at_ x g hx).1 (at_ x g hx).2
  · rw [List.concat_eq_append] at e ih inc ⊢
    obtain ⟨h1, h2⟩ := ih (s :: suf) (by rw [e]; simp) (by simp)
    have lt : s' < s := inc.2.2 s' (by simp) s (by simp)
    have gap : ∀ t ∈ S, t < s → t ≤ s' := fun t ht hts => by
      have i1 := inc.1
      rw [List.pairwise_append] at i1
      rw [e] at ht
      simp only [List.mem_append, List.mem_cons, List.not_mem_nil, or_false] at ht
      rcases ht with ((g | g) | g) | g
      · exact Rat.le_of_lt (i1.2.2 t g s' (by simp))
      · rw [g]; exact Rat.le_refl
      · grind
      · have := inc2.1 t g
        grind
    have pos : 0 ≤ s' := hpos s' (by rw [e]; simp)
    rw [List.map_append, List.map_append, List.map_cons, List.map_nil, List.map_cons, List.map_nil]
    rw [List.map_append, List.map_cons, List.map_nil] at h1 h2
    refine ⟨.snoc h1 lt ?_, fun x hx => ?_⟩
    · have c1 := hp.cont pos lt fun p hp => gap p.st ((h.mem _).mpr (.inl ⟨p, hp, rfl⟩))
      have c2 := ho.cont pos lt fun p hp => gap p.st ((h.mem _).mpr (.inr ⟨p, hp, rfl⟩))
      show tellQ (addP ps os s') s = tellQ (pieceAt ps s) s + tellQ (pieceAt os s) s
      rw [c1, c2]
      simp only [tellQ, addP]
      grind
    · unfold valQ
      rw [pieceAt_snoc _ _ (snoc_ne _ _)]
      show tellQ (if x < s then _ else _) x = _
      by_cases g : x < s
      · rw [if_pos g]
        refine h2 x fun t ht => ?_
        rcases List.mem_cons.mp ht with rfl | ht
        · exact g
        · exact hx t ht
      · rw [if_neg g]
        exact tell x (at_ x g hx).1 (at_ x g hx).2
theorem Sts.add_ok {ps os : List Pc} {S : List Rat} (h : Sts ps os S) (hp : CN ps) (ho : CN os) : CN (S.map (addP ps os)) ∧ ∀ x, valQ (S.map (addP ps os)) x = valQ ps x + valQ os x := by
  have hne : S ≠ [] := by
    obtain ⟨p0, r, e0, h0, _⟩ := hp.head
    intro e
    have := (h.mem 0).mpr (.inl ⟨p0, by rw [e0]; simp, h0⟩)
    rw [e] at this
    simp at this
  obtain ⟨h1, h2⟩ := h.add hp ho S [] (by simp) hne
  exact ⟨h1, fun x => h2 x (by simp)⟩
/-! ### two ascending lists made one -/
def pushQ (f : List Rat) (a : Rat) : List Rat := if f = [] ∨ atE f ((f.length : Int) - 1) ≠ a then f ++ [a] else f
structure MS (L R l r f : List Rat) : Prop where
  il : l.Pairwise (· < ·)
  ir : r.Pairwise (· < ·)
  inc : f.Pairwise (· < ·)
  low : ∀ a ∈ f, ∀ b, b ∈ l ∨ b ∈ r → a ≤ b
  mem : ∀ x, x ∈ f ∨ x ∈ l ∨ x ∈ r ↔ x ∈ L ∨ x ∈ R
  len : f.length + l.length + r.length ≤ L.length + R.length
theorem MS.swap {L R l r f : List Rat} (h : MS L R l r f) : MS R L r l f :=
  ⟨h.ir, h.il, h.inc, fun a ha b hb => h.low a ha b hb.symm, fun x => by rw [Or.comm (a := x ∈ R), ← h.mem x, Or.comm (a := x ∈ r)], by have := h.len; omega⟩
theorem MS.start {L R : List Rat} (h1 : L.Pairwise (· < ·)) (h2 : R.Pairwise (· < ·)) : MS L R L R [] := ⟨h1, h2, .nil, by simp, by simp, by simp⟩
theorem push_mem (f : List Rat) (a : Rat) (x : Rat) : x ∈ pushQ f a ↔ x ∈ f ∨ x = a := by
  unfold pushQ
  split
  · simp
  · rename_i h
    rw [not_or, Classical.not_not] at h
    refine ⟨.inl, fun g => g.elim id fun e => ?_⟩
    have hl : 0 < f.length := List.length_pos_iff.mpr h.1
    rw [e, ← h.2]
    exact atE_mem (by omega)
theorem push_len (f : List Rat) (a : Rat) : (pushQ f a).length ≤ f.length + 1 := by
  unfold pushQ
  split <;> simp
theorem push_inc {f : List Rat} {a : Rat} (h : f.Pairwise (· < ·)) (hl : ∀ x ∈ f, x ≤ a) : (pushQ f a).Pairwise (· < ·) := by
  unfold pushQ
  split
  · rename_i g
    rw [List.pairwise_append]
    refine ⟨h, List.pairwise_singleton _ _, fun x hx y hy => ?_⟩
    have e : y = a := by simpa using hy
    subst e
    rcases List.eq_nil_or_concat f with rfl | ⟨f', l, rfl⟩
    · simp at hx
    · rw [List.concat_eq_append] at h hl hx g
      rw [atE_last] at g
      have g : l ≠ y := g.elim (fun e => by simp at e) id
      have hll := hl l (by simp)
      rw [List.pairwise_append] at h
      rcases List.mem_append.mp hx with g2 | g2
      · have := h.2.2 x g2 l (by simp)
        grind
      · have : x = l := by simpa using g2
        grind
  · exact h
theorem MS.pop {L R l r f : List Rat} {a : Rat} (h : MS L R (a :: l) r f) (hr : ∀ b ∈ r, a ≤ b) : MS L R l r (pushQ f a) := by
  have il := h.il
  rw [List.pairwise_cons] at il
  refine ⟨il.2, h.ir, push_inc h.inc fun x hx => h.low x hx a (.inl (by simp)), fun x hx b hb => ?_, fun x => ?_, ?_⟩
  · rcases (push_mem f a x).mp hx with g | rfl
    · exact h.low x g b (hb.imp (fun z => by simp [z]) id)
    · exact hb.elim (fun z => Rat.le_of_lt (il.1 b z)) (hr b)
  · rw [push_mem, ← h.mem x, List.mem_cons]
    constructor
    · rintro ((g | g) | g | g) <;> simp [g]
    · rintro (g | (g | g) | g) <;> simp [g]
  · have h1 := h.len
    have h2 := push_len f a
    simp only [List.length_cons] at h1
    omega
theorem MS.sts {ps os : List Pc} {f : List Rat} (h : MS (ps.map (·.st)) (os.map (·.st)) [] [] f) : Sts ps os f := ⟨h.inc, fun x => by
  have := h.mem x
  simpa using this⟩
theorem Sts.swap {ps os : List Pc} {S : List Rat} (h : Sts ps os S) : Sts os ps S := ⟨h.inc, fun x => (h.mem x).trans Or.comm⟩
theorem CN.inc {ps : List Pc} (h : CN ps) : (ps.map (·.st)).Pairwise (· < ·) := by
  induction h with
  | one _ => exact List.pairwise_singleton _ _
  | snoc h0 h1 h2 ih =>
    rename_i ps l q
    rw [List.map_append, List.pairwise_append]
    refine ⟨ih, List.pairwise_singleton _ _, fun x hx y hy => ?_⟩
    have e : y = q.st := by simpa using hy
    subst e
    rw [List.map_append, List.mem_append] at hx
    rw [List.map_append, List.pairwise_append] at ih
    rcases hx with g | g
    · have := ih.2.2 x g l.st (by simp)
      grind
    · have : x = l.st := by simpa using g
      rw [this]; exact h1
end PD
set_option Elab.async false
set_option linter.all false
set_option maxRecDepth 100000
set_option maxHeartbeats 8000000
set_option synthInstance.maxHeartbeats 0
set_option synthInstance.maxSize 100000
/-! PdLm: the greater one of two lines. -/
namespace PD
open PySem L2
def mxQ (a b : Rat) : Rat := if a < b then b else a
theorem mxQ_comm (a b : Rat) : mxQ a b = mxQ b a := by unfold mxQ; grind
def atP (p : Pc) (s : Rat) : Pc := ⟨s, tellQ p s, p.sl⟩
theorem tell_at (p : Pc) (s x : Rat) : tellQ (atP p s) x = tellQ p x := by simp only [tellQ, atP]; grind
/-- is the first one less -/
def ltP (a b : Pc) : Bool := decide (a.va < b.va) || (decide (a.va = b.va) && decide (a.sl < b.sl))
def upQ (f g : Pc) (e : Option Rat) : List Pc :=
  if g.sl ≤ f.sl then [f] else
    let m := f.st + (f.va - g.va) / (g.sl - f.sl)
    match e with
    | some t => if t ≤ m then [f] else [f, atP g m]
    | none => [f, atP g m]
def upP (p q : Pc) (s : Rat) (e : Option Rat) : List Pc := if ltP (atP p s) (atP q s) then upQ (atP q s) (atP p s) e else upQ (atP p s) (atP q s) e
theorem upP_comm (p q : Pc) (s : Rat) (e : Option Rat) : upP p q s e = upP q p s e := by
  unfold upP
  by_cases h1 : ltP (atP p s) (atP q s) = true
  · have h2 : ltP (atP q s) (atP p s) = false := by
      simp only [ltP, Bool.or_eq_true, Bool.and_eq_true, decide_eq_true_eq] at h1
      simp only [ltP, Bool.or_eq_false_iff, Bool.and_eq_false_iff, decide_eq_false_iff_not]
      grind
    rw [if_pos h1, h2]; rfl
  · by_cases h2 : ltP (atP q s) (atP p s) = true
    · rw [if_neg h1, if_pos h2]
    · have : atP p s = atP q s := by
        simp only [ltP, Bool.or_eq_true, Bool.and_eq_true, decide_eq_true_eq] at h1 h2
        have e1 : (atP p s).va = (atP q s).va := by grind
        have e2 : (atP p s).sl = (atP q s).sl := by grind
        have e3 : (atP p s).st = (atP q s).st := rfl
        cases h : atP p s
        cases h' : atP q s
        rw [h, h'] at e1 e2 e3
        simp_all
      rw [this]
/-- what the piece or the pieces of a stretch do: f begins, they tell the greater one up to the end -/
structure UpOk (p q : Pc) (s : Rat) (e : Option Rat) (L : List Pc) : Prop where
  ex : ∃ f, f.st = s ∧ f.va = mxQ (tellQ p s) (tellQ q s) ∧
    ((L = [f] ∧ (∀ x, s ≤ x → (∀ t, e = some t → x ≤ t) → tellQ f x = mxQ (tellQ p x) (tellQ q x)) ∧ (e = none → f.sl = mxQ p.sl q.sl)) ∨
     ∃ g, L = [f, g] ∧ s < g.st ∧ tellQ f g.st = g.va ∧ (∀ t, e = some t → g.st < t) ∧ (∀ x, s ≤ x → x ≤ g.st → tellQ f x = mxQ (tellQ p x) (tellQ q x)) ∧ (∀ x, g.st ≤ x → tellQ g x = mxQ (tellQ p x) (tellQ q x)) ∧ (e = none → g.sl = mxQ p.sl q.sl))
theorem mul_nn {a b : Rat} (h1 : 0 ≤ a) (h2 : 0 ≤ b) : 0 ≤ a * b := Rat.mul_nonneg h1 h2
theorem upQ_ok {p q : Pc} {s : Rat} {e : Option Rat} (he : ∀ t, e = some t → s < t) (h : ltP (atP p s) (atP q s) = false) : UpOk p q s e (upQ (atP p s) (atP q s) e) := by
  have h : ¬ tellQ p s < tellQ q s ∧ (¬ tellQ p s = tellQ q s ∨ ¬ p.sl < q.sl) := by
    simp only [ltP, atP, Bool.or_eq_false_iff, Bool.and_eq_false_iff] at h
    exact ⟨of_decide_eq_false h.1, h.2.imp of_decide_eq_false of_decide_eq_false⟩
  have hv : mxQ (tellQ p s) (tellQ q s) = tellQ p s := by unfold mxQ; rw [if_neg h.1]
  -- how they tell from s on
  have tp : ∀ x, tellQ p x = tellQ p s + p.sl * (x - s) := fun x => by simp only [tellQ]; grind
  have tq : ∀ x, tellQ q x = tellQ q s + q.sl * (x - s) := fun x => by simp only [tellQ]; grind
  refine ⟨⟨atP p s, rfl, hv.symm, ?_⟩⟩
  unfold upQ
  by_cases h2 : q.sl ≤ p.sl
  · rw [if_pos (show (atP q s).sl ≤ (atP p s).sl from h2)]
    refine .inl ⟨rfl, fun x hx _ => ?_, fun _ => ?_⟩
    · rw [tell_at]
      unfold mxQ
      rw [if_neg]
      rw [tp x, tq x]
      have : 0 ≤ (p.sl - q.sl) * (x - s) := mul_nn (by grind) (by grind)
      grind
    · show p.sl = mxQ p.sl q.sl
      unfold mxQ
      rw [if_neg (by grind)]
  · rw [if_neg (show ¬ (atP q s).sl ≤ (atP p s).sl from h2)]
    have hd : 0 < q.sl - p.sl := by grind
    have hvl : tellQ q s < tellQ p s := by grind
    have hdn : q.sl - p.sl ≠ 0 := by grind
    generalize hm : s + (tellQ p s - tellQ q s) / (q.sl - p.sl) = m
    have e0 : (m - s) * (q.sl - p.sl) = tellQ p s - tellQ q s := by
      rw [← hm]
      rw [show s + (tellQ p s - tellQ q s) / (q.sl - p.sl) - s = (tellQ p s - tellQ q s) / (q.sl - p.sl) by grind]
      exact Rat.div_mul_cancel hdn
    have hms : s < m := by
      rcases q_lt_or s m with g | g
      · exact g
      · exfalso
        have : 0 ≤ (s - m) * (q.sl - p.sl) := mul_nn (by grind) (by grind)
        grind
    have lo : ∀ x, x ≤ m → tellQ q x ≤ tellQ p x := fun x hx => by
      have : 0 ≤ (m - x) * (q.sl - p.sl) := mul_nn (by grind) (by grind)
      rw [tp x, tq x]
      grind
    have hi : ∀ x, m ≤ x → tellQ p x ≤ tellQ q x := fun x hx => by
      have : 0 ≤ (x - m) * (q.sl - p.sl) := mul_nn (by grind) (by grind)
      rw [tp x, tq x]
      grind
    have mlo : ∀ x, x ≤ m → tellQ (atP p s) x = mxQ (tellQ p x) (tellQ q x) := fun x hx => by
      rw [tell_at]
      unfold mxQ
      rw [if_neg (by have := lo x hx; grind)]
    have mhi : ∀ x, m ≤ x → tellQ (atP (atP q s) m) x = mxQ (tellQ p x) (tellQ q x) := fun x hx => by
      rw [tell_at, tell_at]
      have := hi x hx
      unfold mxQ
      grind
    have two : (∀ t, e = some t → m < t) → UpOk p q s e [atP p s, atP (atP q s) m] → True := fun _ _ => trivial
    have hg : tellQ (atP p s) m = (atP (atP q s) m).va := by
      show _ = tellQ (atP q s) m
      rw [tell_at, tell_at]
      have h1 := lo m Rat.le_refl
      have h2 := hi m Rat.le_refl
      grind
    have hsl : q.sl = mxQ p.sl q.sl := by unfold mxQ; rw [if_pos (by grind)]
    cases e with
    | none => exact .inr ⟨atP (atP q s) m, by show [_, atP (atP q s) (s + (tellQ p s - tellQ q s) / (q.sl - p.sl))] = _; rw [hm], hms, hg, fun _ z => (nomatch z), fun x _ h2 => mlo x h2, mhi, fun _ => hsl⟩
    | some t =>
      show _ ∨ _
      have e3 : (atP p s).st + ((atP p s).va - (atP q s).va) / ((atP q s).sl - (atP p s).sl) = m := hm
      simp only [e3]
      by_cases g : t ≤ m
      · rw [if_pos g]
        exact .inl ⟨rfl, fun x _ h2 => mlo x (by have := h2 t rfl; grind), fun z => nomatch z⟩
      · rw [if_neg g]
        exact .inr ⟨atP (atP q s) m, rfl, hms, hg, fun t' z => by cases z; show m < t; grind, fun x _ h2 => mlo x h2, mhi, fun z => nomatch z⟩
theorem UpOk.swap {p q : Pc} {s : Rat} {e : Option Rat} {L : List Pc} (h : UpOk p q s e L) : UpOk q p s e L := by
  obtain ⟨f, h1, h2, h3⟩ := h.ex
  refine ⟨f, h1, by rw [h2, mxQ_comm], ?_⟩
  rcases h3 with ⟨h3, h4, h5⟩ | ⟨g, h3, h4, h5, h6, h7, h8, h9⟩
  · exact .inl ⟨h3, fun x a b => by rw [h4 x a b, mxQ_comm], fun z => by rw [h5 z, mxQ_comm]⟩
  · exact .inr ⟨g, h3, h4, h5, h6, fun x a b => by rw [h7 x a b, mxQ_comm], fun x a => by rw [h8 x a, mxQ_comm], fun z => by rw [h9 z, mxQ_comm]⟩
theorem upP_ok {p q : Pc} {s : Rat} {e : Option Rat} (he : ∀ t, e = some t → s < t) : UpOk p q s e (upP p q s e) := by
  unfold upP
  by_cases h : ltP (atP p s) (atP q s) = true
  · rw [if_pos h]
    refine (upQ_ok he ?_).swap
    simp only [ltP, Bool.or_eq_true, Bool.and_eq_true, decide_eq_true_eq] at h
    simp only [ltP, Bool.or_eq_false_iff, Bool.and_eq_false_iff, decide_eq_false_iff_not]
    grind
  · rw [if_neg h]
    exact upQ_ok he (by simpa using h)
/-! ### all stretches -/
def nextE (r : List Rat) (e : Option Rat) : Option Rat := match r with
  | [] => e
  | t :: _ => some t
def segs (ps os : List Pc) : List Rat → Option Rat → List Pc
  | [], _ => []
  | s :: r, e => upP (pieceAt ps s) (pieceAt os s) s (nextE r e) ++ segs ps os r e
theorem segs_snoc (ps os : List Pc) (s : Rat) (e : Option Rat) : ∀ r : List Rat, segs ps os (r ++ [s]) e = segs ps os r (some s) ++ upP (pieceAt ps s) (pieceAt os s) s e
  | [] => by simp [segs, nextE]
  | t :: r => by
    have ih := segs_snoc ps os s e r
    simp only [List.cons_append, segs, ih, List.append_assoc]
    congr 2
    cases r <;> rfl
theorem segs_comm (ps os : List Pc) (e : Option Rat) : ∀ r : List Rat, segs ps os r e = segs os ps r e
  | [] => rfl
  | t :: r => by simp only [segs, segs_comm ps os e r, upP_comm (pieceAt ps t)]
/-- up to a next start (or without end) -/
structure SgOk (ps os : List Pc) (s : Rat) (e : Option Rat) (L : List Pc) : Prop where
  cn : CN L
  lt : ∀ t, e = some t → ∀ p ∈ L, p.st < t
  val : ∀ x, 0 ≤ x → (∀ t, e = some t → x ≤ t) → valQ L x = mxQ (valQ ps x) (valQ os x)
  sl : e = none → ∀ L' l, L = L' ++ [l] → l.sl = mxQ (pieceAt ps s).sl (pieceAt os s).sl
theorem next_mem {r : List Rat} {t : Rat} (h : nextE r none = some t) : ∃ r', r = t :: r' := by
  cases r with
  | nil => simp [nextE] at h
  | cons a r => simp only [nextE, Option.some.injEq] at h; exact ⟨r, by rw [h]⟩
/-- from a start to the next one -/
theorem val_reach {qs : List Pc} {S pre suf : List Rat} {s : Rat} (hq : CN qs) (hm : ∀ p ∈ qs, p.st ∈ S) (inc : S.Pairwise (· < ·)) (e : S = pre ++ [s] ++ suf) (h0 : 0 ≤ s) {x : Rat} (h1 : s ≤ x) (h2 : ∀ t, nextE suf none = some t → x ≤ t) : valQ qs x = tellQ (pieceAt qs s) x := by
  rw [e, List.append_assoc, List.pairwise_append] at inc
  have inc2 := inc.2.1
  rw [List.cons_append, List.nil_append, List.pairwise_cons] at inc2
  have where_ : ∀ y ∈ S, y ≤ s ∨ y ∈ suf := fun y hy => by
    rw [e] at hy
    simp only [List.mem_append, List.mem_cons, List.not_mem_nil, or_false] at hy
    rcases hy with (g | g) | g
    · exact .inl (Rat.le_of_lt (inc.2.2 y g s (by simp)))
    · exact .inl (by rw [g]; exact Rat.le_refl)
    · exact .inr g
  by_cases hx : nextE suf none = some x
  · obtain ⟨r', rfl⟩ := next_mem hx
    have i3 := inc2.2
    rw [List.pairwise_cons] at i3
    refine hq.cont h0 (inc2.1 x (by simp)) fun p hp hlt => ?_
    rcases where_ _ (hm p hp) with g | g
    · exact g
    · rcases List.mem_cons.mp g with g | g
      · grind
      · have := i3.1 _ g
        grind
  · have hs : ∀ t ∈ suf, x < t := fun t ht => by
      cases suf with
      | nil => simp at ht
      | cons a r =>
        have h3 := h2 a rfl
        have h4 : x ≠ a := fun z => hx (by rw [z]; rfl)
        have i3 := inc2.2
        rw [List.pairwise_cons] at i3
        rcases List.mem_cons.mp ht with g | g
        · grind
        · have := i3.1 t g
          grind
    unfold valQ
    congr 1
    refine pieceAt_same fun p hp => ?_
    rcases where_ _ (hm p hp) with g | g
    · grind
    · have := hs _ g
      have := inc2.1 _ g
      grind
theorem Sts.up {ps os : List Pc} {S : List Rat} (h : Sts ps os S) (hp : CN ps) (ho : CN os) : ∀ pre : List Rat, ∀ s suf, S = pre ++ [s] ++ suf → SgOk ps os s (nextE suf none) (segs ps os (pre ++ [s]) (nextE suf none)) := by
  have hpos := h.pos hp ho
  have mp : ∀ p ∈ ps, p.st ∈ S := fun p hp => (h.mem _).mpr (.inl ⟨p, hp, rfl⟩)
  have mo : ∀ p ∈ os, p.st ∈ S := fun p hp => (h.mem _).mpr (.inr ⟨p, hp, rfl⟩)
  refine snoc_ind (fun s suf e => ?_) fun pre' s' ih s suf e => ?_
  · have h0 : s = 0 := by
      have inc := h.inc
      rw [e, List.nil_append, List.cons_append, List.nil_append, List.pairwise_cons] at inc
      obtain ⟨p0, r, e0, h0, _⟩ := hp.head
      have hm : (0 : Rat) ∈ S := by rw [← h0]; exact mp p0 (by rw [e0]; simp)
      rw [e] at hm
      rcases List.mem_cons.mp hm with g | g
      · exact g.symm
      · have h1 := inc.1 0 g
        have h2 := hpos s (by rw [e]; simp)
        grind
    have nx : ∀ t, nextE suf none = some t → s < t := fun t ht => by
      obtain ⟨r', rfl⟩ := next_mem ht
      have inc := h.inc
      rw [e, List.nil_append, List.cons_append, List.nil_append, List.pairwise_cons] at inc
      exact inc.1 t (by simp)
    have U := upP_ok (p := pieceAt ps s) (q := pieceAt os s) nx
    have vp : ∀ x, s ≤ x → (∀ t, nextE suf none = some t → x ≤ t) → mxQ (tellQ (pieceAt ps s) x) (tellQ (pieceAt os s) x) = mxQ (valQ ps x) (valQ os x) := fun x h1 h2 => by
      rw [val_reach hp mp h.inc e (by rw [h0]; exact Rat.le_refl) h1 h2, val_reach ho mo h.inc e (by rw [h0]; exact Rat.le_refl) h1 h2]
    have eL : segs ps os ([] ++ [s]) (nextE suf none) = upP (pieceAt ps s) (pieceAt os s) s (nextE suf none) := by
      simp [segs, nextE]
    rw [eL]
    generalize upP (pieceAt ps s) (pieceAt os s) s (nextE suf none) = L at *
    obtain ⟨f, f1, f2, f3⟩ := U.ex
    rcases f3 with ⟨rfl, f4, f5⟩ | ⟨g, rfl, g1, g2, g3, g4, g5, g6⟩
    · refine ⟨.one (by rw [f1, h0]), fun t ht p hp => ?_, fun x hx hx2 => ?_, fun z L' l e2 => ?_⟩
      · have : p = f := by simpa using hp
        rw [this, f1]; exact nx t ht
      · rw [show valQ [f] x = tellQ f x by unfold valQ; rw [pieceAt_one], f4 x (by rw [h0]; exact hx) hx2]
        exact vp x (by rw [h0]; exact hx) hx2
      · obtain ⟨_, e3⟩ := List.append_inj' (s₁ := []) (t₁ := [f]) e2 rfl
        cases e3
        exact f5 z
    · have fl : f.st < g.st := by rw [f1]; exact g1
      refine ⟨CN.snoc (ps := []) (.one (by rw [f1, h0])) fl g2, fun t ht p hp => ?_, fun x hx hx2 => ?_, fun z L' l e2 => ?_⟩
      · simp only [List.mem_cons, List.not_mem_nil, or_false] at hp
        rcases hp with rfl | rfl
        · rw [f1]; exact nx t ht
        · exact g3 t ht
      · have hsx : s ≤ x := by rw [h0]; exact hx
        rw [← vp x hsx hx2]
        unfold valQ
        rw [show ([f, g] : List Pc) = [f] ++ [g] from rfl, pieceAt_snoc g x (by simp), pieceAt_one]
        by_cases hg : x < g.st
        · rw [if_pos hg]; exact g4 x hsx (Rat.le_of_lt hg)
        · rw [if_neg hg]; exact g5 x (by grind)
      · obtain ⟨_, e3⟩ := List.append_inj' (s₁ := [f]) (t₁ := [g]) e2 rfl
        cases e3
        exact g6 z
  · have I := ih s' (s :: suf) (by rw [e]; simp)
    have inc := h.inc
    rw [e, List.append_assoc, List.pairwise_append] at inc
    have inc2 := inc.2.1
    rw [List.cons_append, List.nil_append, List.pairwise_cons] at inc2
    have h0 : 0 ≤ s := hpos s (by rw [e]; simp)
    have nx : ∀ t, nextE suf none = some t → s < t := fun t ht => by
      obtain ⟨r', rfl⟩ := next_mem ht
      exact inc2.1 t (by simp)
    have U := upP_ok (p := pieceAt ps s) (q := pieceAt os s) nx
    have vp : ∀ x, s ≤ x → (∀ t, nextE suf none = some t → x ≤ t) → mxQ (tellQ (pieceAt ps s) x) (tellQ (pieceAt os s) x) = mxQ (valQ ps x) (valQ os x) := fun x h1 h2 => by
      rw [val_reach hp mp h.inc e h0 h1 h2, val_reach ho mo h.inc e h0 h1 h2]
    have eN : nextE (s :: suf) none = some s := rfl
    rw [eN] at I
    rw [segs_snoc]
    generalize segs ps os (pre' ++ [s']) (some s) = L0 at *
    generalize upP (pieceAt ps s) (pieceAt os s) s (nextE suf none) = L at *
    obtain ⟨L', l, rfl⟩ := snoc_of I.cn.ne
    obtain ⟨f, f1, f2, f3⟩ := U.ex
    have ll : l.st < s := I.lt s rfl l (by simp)
    have lf : l.st < f.st := by rw [f1]; exact ll
    have ht : tellQ l f.st = f.va := by
      rw [f1, f2]
      have := I.val s h0 fun t z => by cases z; exact Rat.le_refl
      rw [show mxQ (tellQ (pieceAt ps s) s) (tellQ (pieceAt os s) s) = mxQ (valQ ps s) (valQ os s) from rfl, ← this]
      unfold valQ
      congr 1
      symm
      cases L' with
      | nil => exact pieceAt_one l s
      | cons a L' => rw [pieceAt_snoc l s (by simp), if_neg (by grind)]
    have C1 : CN (L' ++ [l] ++ [f]) := .snoc I.cn lf ht
    have low : ∀ x, 0 ≤ x → x < s → tellQ (pieceAt (L' ++ [l]) x) x = mxQ (valQ ps x) (valQ os x) := fun x h1 h2 => I.val x h1 fun t z => by cases z; exact Rat.le_of_lt h2
    rcases f3 with ⟨rfl, f4, f5⟩ | ⟨g, rfl, g1, g2, g3, g4, g5, g6⟩
    · refine ⟨C1, fun t ht p hp => ?_, fun x hx hx2 => ?_, fun z L2 l2 e2 => ?_⟩
      · rcases List.mem_append.mp hp with g | g
        · have := I.lt s rfl p g
          have := nx t ht
          grind
        · have : p = f := by simpa using g
          rw [this, f1]; exact nx t ht
      · unfold valQ
        rw [pieceAt_snoc f x (by simp), f1]
        by_cases hs : x < s
        · rw [if_pos hs]; exact low x hx hs
        · rw [if_neg hs, f4 x (by grind) hx2]
          exact vp x (by grind) hx2
      · obtain ⟨_, e3⟩ := List.append_inj' e2 rfl
        cases e3
        exact f5 z
    · have fl : f.st < g.st := by rw [f1]; exact g1
      rw [show L' ++ [l] ++ [f, g] = L' ++ [l] ++ [f] ++ [g] by simp]
      refine ⟨.snoc C1 fl g2, fun t ht p hp => ?_, fun x hx hx2 => ?_, fun z L2 l2 e2 => ?_⟩
      · rcases List.mem_append.mp hp with k | k
        · rcases List.mem_append.mp k with k | k
          · have := I.lt s rfl p k
            have := nx t ht
            grind
          · have : p = f := by simpa using k
            rw [this, f1]; exact nx t ht
        · have : p = g := by simpa using k
          rw [this]; exact g3 t ht
      · unfold valQ
        rw [pieceAt_snoc g x (by simp)]
        by_cases hg : x < g.st
        · rw [if_pos hg, pieceAt_snoc f x (by simp), f1]
          by_cases hs : x < s
          · rw [if_pos hs]; exact low x hx hs
          · rw [if_neg hs, g4 x (by grind) (Rat.le_of_lt hg)]
            exact vp x (by grind) hx2
        · rw [if_neg hg, g5 x (by grind)]
          exact vp x (by grind) hx2
      · obtain ⟨_, e3⟩ := List.append_inj' e2 rfl
        cases e3
        exact g6 z
theorem CN.last {ps : List Pc} (h : CN ps) : ∀ qs l, ps = qs ++ [l] → ∀ p ∈ ps, p.st ≤ l.st := by
  intro qs l e p hp
  have := h.inc
  rw [e, List.map_append, List.pairwise_append] at this
  rw [e] at hp
  rcases List.mem_append.mp hp with g | g
  · exact Rat.le_of_lt (this.2.2 p.st (List.mem_map.mpr ⟨p, g, rfl⟩) l.st (by simp))
  · have : p = l := by simpa using g
    rw [this]; exact Rat.le_refl
theorem at_last {ps : List Pc} {l : Pc} {qs : List Pc} (e : ps = qs ++ [l]) {x : Rat} (h : l.st ≤ x) : pieceAt ps x = l := by
  rw [e]
  cases qs with
  | nil => exact pieceAt_one l x
  | cons a qs => rw [pieceAt_snoc l x (by simp), if_neg (by grind)]
def lastP (ps : List Pc) : Pc := atE ps ((ps.length : Int) - 1)
theorem lastP_snoc (qs : List Pc) (l : Pc) : lastP (qs ++ [l]) = l := atE_last qs l
/-- the greater line, tidied -/
theorem Sts.up_ok {ps os : List Pc} {S : List Rat} (h : Sts ps os S) (hp : CN ps) (ho : CN os) : CN (segs ps os S none) ∧ (∀ x, 0 ≤ x → valQ (segs ps os S none) x = mxQ (valQ ps x) (valQ os x)) ∧ (lastP (segs ps os S none)).sl = mxQ (lastP ps).sl (lastP os).sl := by
  have hne : S ≠ [] := by
    obtain ⟨p0, r, e0, h0, _⟩ := hp.head
    intro e
    have := (h.mem 0).mpr (.inl ⟨p0, by rw [e0]; simp, h0⟩)
    rw [e] at this
    simp at this
  obtain ⟨pre, s, rfl⟩ := snoc_of hne
  have I := h.up hp ho pre s [] (by simp)
  refine ⟨I.cn, fun x hx => I.val x hx fun t z => (nomatch z), ?_⟩
  obtain ⟨L', l, e⟩ := snoc_of I.cn.ne
  obtain ⟨ps', pl, rfl⟩ := snoc_of hp.ne
  obtain ⟨os', ol, rfl⟩ := snoc_of ho.ne
  have hs : ∀ y ∈ pre ++ [s], y ≤ s := fun y hy => by
    have inc := h.inc
    rw [List.pairwise_append] at inc
    rcases List.mem_append.mp hy with g | g
    · exact Rat.le_of_lt (inc.2.2 y g s (by simp))
    · have : y = s := by simpa using g
      rw [this]; exact Rat.le_refl
  have e1 : pieceAt (ps' ++ [pl]) s = pl := at_last rfl (hs _ ((h.mem _).mpr (.inl ⟨pl, by simp, rfl⟩)))
  have e2 : pieceAt (os' ++ [ol]) s = ol := at_last rfl (hs _ ((h.mem _).mpr (.inr ⟨ol, by simp, rfl⟩)))
  have e3 := I.sl rfl L' l e
  rw [e1, e2] at e3
  rw [show segs (ps' ++ [pl]) (os' ++ [ol]) (pre ++ [s]) none = L' ++ [l] from e, lastP_snoc, lastP_snoc, lastP_snoc, e3]
theorem CN.tidy_last {ps : List Pc} (h : CN ps) : (lastP (PD.tidy ps)).sl = (lastP ps).sl := by
  obtain ⟨qs, l, rfl⟩ := snoc_of h.ne
  obtain ⟨f, k, e1, h1, h2, _⟩ := h.tidy qs l rfl
  rw [e1, lastP_snoc, lastP_snoc, h2]
theorem lastP_mul {ps : List Pc} (c : Rat) (h : ps ≠ []) : lastP (ps.map (mulP c)) = mulP c (lastP ps) := by
  obtain ⟨qs, l, rfl⟩ := snoc_of h
  rw [List.map_append, List.map_cons, List.map_nil, lastP_snoc, lastP_snoc]
/-- of a def that never comes to an end, nothing is asked -/
theorem cal_stuck {P : Program} {w : World} {K : PySem.W.Frag} {mg : Str → Option Value} {base : Heap} {xc : XcT} {k : Nat} {x qual : Str} {st : Stmt} {f : Addr} {fd : FuncData} {ps : List Str} {fk : List Nat} (F : Fun K x qual st f fd) (hm : mg x = some (.ref f)) (hbi : Binds K fd ps []) : Cal P w K mg base xc k x (fun _ => .stuck) fk :=
  ⟨f, fd, ps, ⟨fun _ _ _ _ h => by obtain ⟨_, _, _, _, _, _, _, z⟩ := h; exact z.elim, fun _ _ _ _ _ _ _ _ _ _ _ _ _ h => by obtain ⟨_, _, _, _, _, _, _, z⟩ := h; exact z.elim⟩, hm, F.kp, hbi⟩
end PD
set_option Elab.async false
set_option linter.all false
set_option maxRecDepth 100000
set_option maxHeartbeats 8000000
set_option synthInstance.maxHeartbeats 0
set_option synthInstance.maxSize 100000
/-! PdTx: words and texts; amounts, conditions and clauses as data. -/
namespace PD
open PySem L2
theorem s_assoc (a b c : Str) : a ++ b ++ c = a ++ (b ++ c) := by
  cases a; cases b; cases c
  show (⟨_⟩ : Str) = ⟨_⟩
  congr 1
  exact Array.append_assoc
theorem s_len (a b : Str) : (a ++ b).length = a.length + b.length := by
  show (a.cps ++ b.cps).size = _
  simp [Str.length]
abbrev sp1 : Str := Str.ofString " "
def tx (ws : List Str) : Str := Txt.join sp1 ws
theorem tx_eq (ws : List Str) : tx ws = Str.join sp1 ws := StrLaws.glued_eq_join _ _
theorem tx_one (a : Str) : tx [a] = a := by rw [tx_eq]; rfl
theorem tx_cons (a b : Str) (r : List Str) : tx (a :: b :: r) = a ++ (sp1 ++ tx (b :: r)) := by
  rw [tx_eq, tx_eq, ← s_assoc]; rfl
theorem tx_app : ∀ (xs ys : List Str), xs ≠ [] → ys ≠ [] → tx (xs ++ ys) = tx xs ++ (sp1 ++ tx ys)
  | [], _, h, _ => absurd rfl h
  | [x], [], _, h => absurd rfl h
  | [x], y :: ys, _, _ => by rw [tx_one]; exact tx_cons x y ys
  | x :: x2 :: xs, ys, _, hy => by
    have ih := tx_app (x2 :: xs) ys (by simp) hy
    rw [List.cons_append, List.cons_append, tx_cons, ← List.cons_append, ih, tx_cons, s_assoc, s_assoc]
theorem tx_len {n : Nat} : ∀ (xs : List Str), (∀ x ∈ xs, x.length ≤ n) → (tx xs).length ≤ xs.length * (n + 1)
  | [], _ => by rw [tx_eq]; exact Nat.zero_le _
  | [x], h => by
    rw [tx_one]
    have := h x (by simp)
    simp; omega
  | x :: y :: r, h => by
    have ih := tx_len (y :: r) fun z hz => h z (by simp at hz; simp [hz])
    have h1 := h x (by simp)
    have h2 : sp1.length = 1 := by decide +kernel
    rw [tx_cons, s_len, s_len, h2]
    have e : (x :: y :: r).length * (n + 1) = (n + 1) + (y :: r).length * (n + 1) := by
      rw [List.length_cons, Nat.add_mul, Nat.one_mul]; omega
    rw [e]
    omega
theorem emp_app (y : Str) : Str.empty ++ y = y := fs_empty y
/-- a number, written -/
def numT (q : Rat) : Str := if q.den = 1 then Str.ofString (toString q.num) else Str.ofString (toString q.num) ++ (Str.ofString "/" ++ Str.ofString (toString (q.den : Int)))
theorem int_len {i : Int} (h : i.natAbs < 2 ^ 100) : (Str.ofString (toString i)).length ≤ 101 ∧ i.natAbs.log2 < 1920 := by
  have h1 : i.natAbs.log2 < 100 := PySem.Flt.log2_lt_of (by decide) h
  have h2 := int_text_length_le (a := i) (k := 100) (by decide) h1
  have e : (Str.ofString (toString i)).length = (toString i).length := ofString_length _
  exact ⟨by omega, by omega⟩
theorem numT_len {q : Rat} (h : Qb q 100) : (numT q).length ≤ 210 := by
  have h1 := (int_len h.h.1).1
  have h2 := (int_len (i := (q.den : Int)) (by simpa using h.h.2)).1
  have h3 : (Str.ofString "/").length = 1 := by decide +kernel
  unfold numT
  split
  · omega
  · rw [s_len, s_len, h3]; omega
instance (priority := low) mt_pop {α : Type} [Inhabited α] {f : α → D} {xs : List α} : Mt .pop (xs.map f) [] (0 < xs.length) (f (atE xs ((xs.length : Int) - 1))) ((xs.eraseIdx (xs.length - 1)).map f) := ⟨fun c => by
  have e : ((xs.length : Int) - 1).toNat = xs.length - 1 := by omega
  simp only [M1.ev, List.length_map, List.getElem?_map, atE, e, erase_map]
  rw [List.getElem?_eq_getElem (by omega)]
  rfl⟩
instance (priority := low - 1) rv_any {o : Ow} {ds : List D} [h : RtL ds] : Rv (.lst o ds) (.lst .own ds.reverse) := ⟨by simp [revD, h.h]⟩
theorem inV_strs (k : Str) : ∀ ns : List Str, inV (D.str k).toV ((ns.map D.str).map D.toV) = decide (k ∈ ns)
  | [] => rfl
  | n :: ns => by
    have ih := inV_strs k ns
    have e : inV (D.str k).toV (((n :: ns).map D.str).map D.toV) = (eqV (D.str n).toV (D.str k).toV || inV (D.str k).toV ((ns.map D.str).map D.toV)) := rfl
    have e2 : eqV (D.str n).toV (D.str k).toV = decide (n = k) := by simp only [D.toV, eqV]; rw [Bool.eq_iff_iff]; simp
    rw [e, ih, e2, Bool.eq_iff_iff]
    simp only [Bool.or_eq_true, decide_eq_true_eq, List.mem_cons]
    exact ⟨fun h => h.imp (·.symm) id, fun h => h.imp (·.symm) id⟩
theorem inD_strs (k : Str) (ns : List Str) : inD (.str k) (ns.map D.str) = some (decide (k ∈ ns)) := by
  have e : (ns.map D.str).all D.flat = true := by simp [List.all_map, D.flat]
  have e2 : (D.str k).flat = true := rfl
  simp only [inD, e, e2, Bool.and_self, if_true, inV_strs]
instance in_tup_strs {k : Str} {ds : List D} {ns : List Str} [m : ML D.str ds ns] : Op .isin (.str k) (.tup ds) True (.bl (decide (k ∈ ns))) := ⟨fun _ => by
  rw [m.h]
  simp only [O2.ev, inD_strs, Option.map_some]⟩
instance (priority := high) sc_tail {d : D} {ds : List D} [h : RtL ds] : Sc (.tup (d :: ds)) (some 1) none (d.ret = true) (.tup ds) := ⟨fun hd => by
  have e : cutD (d :: ds) (some 1) none = ds := cutA_hi (d :: ds) 1
  have hr : D.retL (d :: ds) = true := by simp only [D.retL, hd, h.h, Bool.and_self]
  simp only [slD, hr, if_true, e]⟩
theorem allS_app : ∀ {xs ys : List D} {as bs : List Str}, allS xs = some as → allS ys = some bs → allS (xs ++ ys) = some (as ++ bs)
  | [], ys, as, bs, h, h2 => by
    simp only [allS, Option.some.injEq] at h
    subst h
    exact h2
  | .str x :: xs, ys, as, bs, h, h2 => by
    simp only [allS, Option.map_eq_some_iff] at h
    obtain ⟨cs, h1, rfl⟩ := h
    simp only [List.cons_append, allS, allS_app h1 h2, Option.map_some]
  | .non :: _, _, _, _, h, _ => by simp [allS] at h
  | .bl _ :: _, _, _, _, h, _ => by simp [allS] at h
  | .int _ :: _, _, _, _, h, _ => by simp [allS] at h
  | .tup _ :: _, _, _, _, h, _ => by simp [allS] at h
  | .lst _ _ :: _, _, _, _, h, _ => by simp [allS] at h
instance as_app {xs ys : List D} {as bs : List Str} [h : AS' xs as] [h2 : AS' ys bs] : AS' (xs ++ ys) (as ++ bs) := ⟨allS_app h.h h2.h⟩
/-! ### amounts, conditions, clauses -/
inductive Am where
  | num (q : Rat) | name (s : Str) | pay (s : Str) | time | times (q : Rat) (a : Am) | bin (w : Str) (a b : Am)
inductive Cn where
  | leaf | cmp (w : Str) (a b : Am) | not (c : Cn) | bin (w : Str) (a b : Cn)
inductive Ck where
  | nothing | pay (a : Am) | next (s : Str) | ife (c : Cn) (a b : Ck) | both (a b : Ck) | choice (w : Str) (a b : Ck)
abbrev so (s : String) : Str := Str.ofString s
def amD : Am → D
  | .num q => .tup [.str (so "number"), qD q]
  | .name s => .tup [.str (so "name"), .str s]
  | .pay s => .tup [.str (so "payout"), .str s]
  | .time => .tup [.str (so "time")]
  | .times q a => .tup [.str (so "times"), qD q, amD a]
  | .bin w a b => .tup [.str w, amD a, amD b]
def cnD : Cn → D
  | .leaf => .tup [.str (so "leaf")]
  | .cmp w a b => .tup [.str (so "compare"), .str w, amD a, amD b]
  | .not c => .tup [.str (so "not"), cnD c]
  | .bin w a b => .tup [.str w, cnD a, cnD b]
def ckD : Ck → D
  | .nothing => .tup [.str (so "nothing")]
  | .pay a => .tup [.str (so "pay"), amD a]
  | .next s => .tup [.str (so "next"), .str s]
  | .ife c a b => .tup [.str (so "if"), cnD c, ckD a, ckD b]
  | .both a b => .tup [.str (so "both"), ckD a, ckD b]
  | .choice w a b => .tup [.str (so "choice"), .str w, ckD a, ckD b]
theorem q_fz (q : Rat) : (qD q).fz = true := (inferInstance : Fzn (qD q)).h
theorem am_fz : ∀ a : Am, (amD a).fz = true
  | .num q => by simp [amD, D.fz, D.fzL, q_fz]
  | .name s => by simp [amD, D.fz, D.fzL]
  | .pay s => by simp [amD, D.fz, D.fzL]
  | .time => by simp [amD, D.fz, D.fzL]
  | .times q a => by simp [amD, D.fz, D.fzL, q_fz, am_fz a]
  | .bin w a b => by simp [amD, D.fz, D.fzL, am_fz a, am_fz b]
theorem cn_fz : ∀ a : Cn, (cnD a).fz = true
  | .leaf => by simp [cnD, D.fz, D.fzL]
  | .cmp w a b => by simp [cnD, D.fz, D.fzL, am_fz]
  | .not c => by simp [cnD, D.fz, D.fzL, cn_fz c]
  | .bin w a b => by simp [cnD, D.fz, D.fzL, cn_fz a, cn_fz b]
theorem ck_fz : ∀ a : Ck, (ckD a).fz = true
  | .nothing => by simp [ckD, D.fz, D.fzL]
  | .pay a => by simp [ckD, D.fz, D.fzL, am_fz]
  | .next s => by simp [ckD, D.fz, D.fzL]
  | .ife c a b => by simp [ckD, D.fz, D.fzL, cn_fz, ck_fz a, ck_fz b]
  | .both a b => by simp [ckD, D.fz, D.fzL, ck_fz a, ck_fz b]
  | .choice w a b => by simp [ckD, D.fz, D.fzL, ck_fz a, ck_fz b]
instance {a : Am} : Fzn (amD a) := ⟨am_fz a⟩
instance {a : Am} : Rt (amD a) := ⟨fz_ret _ (am_fz a)⟩
instance {a : Cn} : Fzn (cnD a) := ⟨cn_fz a⟩
instance {a : Cn} : Rt (cnD a) := ⟨fz_ret _ (cn_fz a)⟩
instance {a : Ck} : Fzn (ckD a) := ⟨ck_fz a⟩
instance {a : Ck} : Rt (ckD a) := ⟨fz_ret _ (ck_fz a)⟩
inductive AmOk : Nat → Am → Prop
  | num {n : Nat} {q : Rat} : Qb q 100 → AmOk n (.num q)
  | name {n : Nat} {s : Str} : s.length ≤ 210 → AmOk n (.name s)
  | pay {n : Nat} {s : Str} : s.length ≤ 210 → AmOk n (.pay s)
  | time {n : Nat} : AmOk n .time
  | times {n : Nat} {q : Rat} {a : Am} : Qb q 100 → AmOk n a → AmOk (n + 1) (.times q a)
  | bin {n : Nat} {w : Str} {a b : Am} : w = so "plus" ∨ w = so "max" ∨ w = so "min" → AmOk n a → AmOk n b → AmOk (n + 1) (.bin w a b)
inductive CnOk : Nat → Cn → Prop
  | leaf {n : Nat} : CnOk n .leaf
  | cmp {n : Nat} {w : Str} {a b : Am} : w.length ≤ 210 → AmOk 1 a → AmOk 1 b → CnOk n (.cmp w a b)
  | not {n : Nat} {c : Cn} : CnOk n c → CnOk (n + 1) (.not c)
  | bin {n : Nat} {w : Str} {a b : Cn} : w = so "and" ∨ w = so "or" → CnOk n a → CnOk n b → CnOk (n + 1) (.bin w a b)
inductive CkOk : Nat → Ck → Prop
  | nothing {n : Nat} : CkOk n .nothing
  | pay {n : Nat} {a : Am} : AmOk 1 a → CkOk n (.pay a)
  | next {n : Nat} {s : Str} : s.length ≤ 210 → CkOk n (.next s)
  | ife {n : Nat} {c : Cn} {a b : Ck} : CnOk 1 c → CkOk n a → CkOk n b → CkOk (n + 1) (.ife c a b)
  | both {n : Nat} {a b : Ck} : CkOk n a → CkOk n b → CkOk (n + 1) (.both a b)
  | choice {n : Nat} {w : Str} {a b : Ck} : w.length ≤ 210 → CkOk n a → CkOk n b → CkOk (n + 1) (.choice w a b)
theorem AmOk.up {n m : Nat} {a : Am} (h : AmOk n a) (hm : n ≤ m) : AmOk m a := by
  induction h generalizing m with
  | num h => exact .num h
  | name h => exact .name h
  | pay h => exact .pay h
  | time => exact .time
  | times h h0 ih => obtain ⟨k, rfl⟩ : ∃ k, m = k + 1 := ⟨m - 1, by omega⟩; exact .times h (ih (by omega))
  | bin h h01 h02 ih1 ih2 => obtain ⟨k, rfl⟩ : ∃ k, m = k + 1 := ⟨m - 1, by omega⟩; exact .bin h (ih1 (by omega)) (ih2 (by omega))
def wA : Am → List Str
  | .num q => [so "number", numT q]
  | .name s => [so "name", s]
  | .pay s => [so "payout", s]
  | .time => [so "time"]
  | .times q a => so "times" :: numT q :: wA a
  | .bin w a b => w :: (wA a ++ wA b)
def wC : Cn → List Str
  | .leaf => [so "leaf"]
  | .cmp w a b => so "compare" :: w :: (wA a ++ wA b)
  | .not c => so "not" :: wC c
  | .bin w a b => w :: (wC a ++ wC b)
def wK : Ck → List Str
  | .nothing => [so "nothing"]
  | .pay a => so "pay" :: wA a
  | .next s => [so "next", s]
  | .ife c a b => so "if" :: (wC c ++ (wK a ++ wK b))
  | .both a b => so "both" :: (wK a ++ wK b)
  | .choice w a b => w :: (wK a ++ wK b)
theorem wA_ne (a : Am) : wA a ≠ [] := by cases a <;> simp [wA]
theorem wC_ne (a : Cn) : wC a ≠ [] := by cases a <;> simp [wC]
theorem wK_ne (a : Ck) : wK a ≠ [] := by cases a <;> simp [wK]
theorem wA_ok {n : Nat} {a : Am} (h : AmOk n a) : (wA a).length + 2 ≤ 4 * 2 ^ n ∧ ∀ x ∈ wA a, x.length ≤ 210 := by
  induction h with
  | num h =>
    rename_i n q
    have p : 1 ≤ 2 ^ n := Nat.one_le_two_pow
    refine ⟨by simp [wA]; omega, fun x hx => ?_⟩
    simp only [wA, List.mem_cons, List.not_mem_nil, or_false] at hx
    rcases hx with rfl | rfl
    · decide +kernel
    · exact numT_len h
  | name h =>
    rename_i n s
    have p : 1 ≤ 2 ^ n := Nat.one_le_two_pow
    refine ⟨by simp [wA]; omega, fun x hx => ?_⟩
    simp only [wA, List.mem_cons, List.not_mem_nil, or_false] at hx
    rcases hx with rfl | rfl
    · decide +kernel
    · exact h
  | pay h =>
    rename_i n s
    have p : 1 ≤ 2 ^ n := Nat.one_le_two_pow
    refine ⟨by simp [wA]; omega, fun x hx => ?_⟩
    simp only [wA, List.mem_cons, List.not_mem_nil, or_false] at hx
    rcases hx with rfl | rfl
    · decide +kernel
    · exact h
  | time =>
    rename_i n
    have p : 1 ≤ 2 ^ n := Nat.one_le_two_pow
    refine ⟨by simp [wA]; omega, fun x hx => ?_⟩
    simp only [wA, List.mem_cons, List.not_mem_nil, or_false] at hx
    rw [hx]
    decide +kernel
  | times h h0 ih =>
    rename_i n q a
    have p : 1 ≤ 2 ^ n := Nat.one_le_two_pow
    refine ⟨by simp [wA, Nat.pow_succ]; omega, fun x hx => ?_⟩
    simp only [wA, List.mem_cons] at hx
    rcases hx with rfl | rfl | hx
    · decide +kernel
    · exact numT_len h
    · exact ih.2 x hx
  | bin h h01 h02 ih1 ih2 =>
    rename_i n w a b
    have p : 1 ≤ 2 ^ n := Nat.one_le_two_pow
    refine ⟨by simp [wA, Nat.pow_succ]; omega, fun x hx => ?_⟩
    simp only [wA, List.mem_cons, List.mem_append] at hx
    rcases hx with rfl | hx | hx
    · rcases h with rfl | rfl | rfl <;> decide +kernel
    · exact ih1.2 x hx
    · exact ih2.2 x hx
theorem wC_ok {n : Nat} {a : Cn} (h : CnOk n a) : (wC a).length + 2 ≤ 16 * 2 ^ n ∧ ∀ x ∈ wC a, x.length ≤ 210 := by
  induction h with
  | leaf =>
    rename_i n
    have p : 1 ≤ 2 ^ n := Nat.one_le_two_pow
    refine ⟨by simp [wC]; omega, fun x hx => ?_⟩
    simp only [wC, List.mem_cons, List.not_mem_nil, or_false] at hx
    rw [hx]
    decide +kernel
  | cmp h ha hb =>
    rename_i n w a b
    have p : 1 ≤ 2 ^ n := Nat.one_le_two_pow
    have h1 := wA_ok ha
    have h2 := wA_ok hb
    refine ⟨by simp [wC]; omega, fun x hx => ?_⟩
    simp only [wC, List.mem_cons, List.mem_append] at hx
    rcases hx with rfl | rfl | hx | hx
    · decide +kernel
    · exact h
    · exact h1.2 x hx
    · exact h2.2 x hx
  | not h0 ih =>
    rename_i n c
    have p : 1 ≤ 2 ^ n := Nat.one_le_two_pow
    refine ⟨by simp [wC, Nat.pow_succ]; omega, fun x hx => ?_⟩
    simp only [wC, List.mem_cons] at hx
    rcases hx with rfl | hx
    · decide +kernel
    · exact ih.2 x hx
  | bin h h01 h02 ih1 ih2 =>
    rename_i n w a b
    have p : 1 ≤ 2 ^ n := Nat.one_le_two_pow
    refine ⟨by simp [wC, Nat.pow_succ]; omega, fun x hx => ?_⟩
    simp only [wC, List.mem_cons, List.mem_append] at hx
    rcases hx with rfl | hx | hx
    · rcases h with rfl | rfl <;> decide +kernel
    · exact ih1.2 x hx
    · exact ih2.2 x hx
theorem wK_ok {n : Nat} {a : Ck} (h : CkOk n a) : (wK a).length + 31 ≤ 40 * 2 ^ n ∧ ∀ x ∈ wK a, x.length ≤ 210 := by
  induction h with
  | nothing =>
    rename_i n
    have p : 1 ≤ 2 ^ n := Nat.one_le_two_pow
    refine ⟨by simp [wK]; omega, fun x hx => ?_⟩
    simp only [wK, List.mem_cons, List.not_mem_nil, or_false] at hx
    rw [hx]
    decide +kernel
  | pay ha =>
    rename_i n a
    have p : 1 ≤ 2 ^ n := Nat.one_le_two_pow
    have h1 := wA_ok ha
    refine ⟨by simp [wK]; omega, fun x hx => ?_⟩
    simp only [wK, List.mem_cons] at hx
    rcases hx with rfl | hx
    · decide +kernel
    · exact h1.2 x hx
  | next h =>
    rename_i n s
    have p : 1 ≤ 2 ^ n := Nat.one_le_two_pow
    refine ⟨by simp [wK]; omega, fun x hx => ?_⟩
    simp only [wK, List.mem_cons, List.not_mem_nil, or_false] at hx
    rcases hx with rfl | rfl
    · decide +kernel
    · exact h
  | ife hc h01 h02 ih1 ih2 =>
    rename_i n c a b
    have p : 1 ≤ 2 ^ n := Nat.one_le_two_pow
    have h1 := wC_ok hc
    refine ⟨by simp [wK, Nat.pow_succ]; omega, fun x hx => ?_⟩
    simp only [wK, List.mem_cons, List.mem_append] at hx
    rcases hx with rfl | hx | hx | hx
    · decide +kernel
    · exact h1.2 x hx
    · exact ih1.2 x hx
    · exact ih2.2 x hx
  | both h01 h02 ih1 ih2 =>
    rename_i n a b
    have p : 1 ≤ 2 ^ n := Nat.one_le_two_pow
    refine ⟨by simp [wK, Nat.pow_succ]; omega, fun x hx => ?_⟩
    simp only [wK, List.mem_cons, List.mem_append] at hx
    rcases hx with rfl | hx | hx
    · decide +kernel
    · exact ih1.2 x hx
    · exact ih2.2 x hx
  | choice h h01 h02 ih1 ih2 =>
    rename_i n w a b
    have p : 1 ≤ 2 ^ n := Nat.one_le_two_pow
    refine ⟨by simp [wK, Nat.pow_succ]; omega, fun x hx => ?_⟩
    simp only [wK, List.mem_cons, List.mem_append] at hx
    rcases hx with rfl | hx | hx
    · exact h
    · exact ih1.2 x hx
    · exact ih2.2 x hx
/-- texts are short -/
theorem tx_ok {ws : List Str} {n : Nat} (h : ws.length ≤ n) (h2 : ∀ x ∈ ws, x.length ≤ 210) (hn : n ≤ 2000) : (tx ws).length ≤ 422000 := by
  have h1 := tx_len (n := 210) ws h2
  have h3 : ws.length * (210 + 1) ≤ 2000 * 211 := Nat.mul_le_mul (by omega) (by omega)
  omega
end PD
set_option Elab.async false
set_option linter.all false
set_option maxRecDepth 100000
set_option maxHeartbeats 8000000
set_option synthInstance.maxHeartbeats 0
set_option synthInstance.maxSize 100000
/-! PdMw: markets with wider numbers; amounts and conditions over them, and what they are at a node. -/
namespace PD
open PySem L2
structure NwOk (a s i : Nat) (v : Nd) : Prop where
  par : -1 ≤ v.par ∧ v.par < i
  par0 : i ≠ 0 → 0 ≤ v.par
  gr : Qb v.gr 40
  rules : v.rules.length = a ∧ ∀ x ∈ v.rules, SB x 10
  pr : v.pr.length = a ∧ QbL v.pr 40
  pay : v.pay.length = a ∧ QbL v.pay 40
  val : v.val.length = s ∧ QbL v.val 40
structure MwOk (m : Mk) (n : Nat) : Prop where
  as : 1 ≤ m.as.length ∧ m.as.length ≤ 4 ∧ ∀ x ∈ m.as, SB x 25
  seen : m.seen.length ≤ 4 ∧ ∀ x ∈ m.seen, SB x 25
  len : 1 ≤ m.nodes.length ∧ m.nodes.length ≤ n
  nd : ∀ (i : Nat) (v : Nd), m.nodes[i]? = some v → NwOk m.as.length m.seen.length i v
theorem MwOk.at {m : Mk} {n : Nat} (h : MwOk m n) {i : Int} (h0 : 0 ≤ i) (h1 : i < m.nodes.length) : NwOk m.as.length m.seen.length i.toNat (atE m.nodes i) := by
  refine h.nd i.toNat _ ?_
  unfold atE
  have : i.toNat < m.nodes.length := by omega
  rw [List.getElem?_eq_getElem this]
  rfl
theorem rp_nw {a s i : Nat} {v : Nd} (h : NwOk a s i v) (ha : a ≤ 4) (hs : s ≤ 4) (hi : i ≤ 1000) : Rp (ndD v) 3000 3 := by
  have h1 := h.par
  have h2 := h.rules.1
  have h3 := h.pr.1
  have h4 := h.pay.1
  have h5 := h.val.1
  exact (rp_tup (rpl_cons (rp_int (i := v.par) (by omega)) (rpl_cons (rp_q (h.gr.mono (by decide))) (rpl_cons (rp_strs h.rules.2) (rpl_cons (rp_qs h.pr.2 (by decide)) (rpl_cons (rp_qs h.pay.2 (by decide)) (rpl_cons (rp_qs h.val.2 (by decide)) (rpl_nil (k := 0))))))))).mono (by rw [h2, h3, h4, h5]; omega) (by decide)
theorem rp_mw {m : Mk} {n : Nat} (h : MwOk m n) (hn : n ≤ 13) : Rp (mkD m) 40000 5 := by
  have h1 := h.as
  have h2 := h.seen
  have h3 := h.len
  exact (rp_tup (rpl_cons (rp_strs h.as.2.2) (rpl_cons (rp_strs h.seen.2) (rpl_cons (rp_lst (rpl_map m.nodes fun v hv => by
    obtain ⟨i, hi⟩ := List.mem_iff_getElem?.mp hv
    have hl : i < m.nodes.length := by
      rcases Nat.lt_or_ge i m.nodes.length with g | g
      · exact g
      · rw [List.getElem?_eq_none g] at hi; cases hi
    exact rp_nw (h.nd i v hi) (by omega) (by omega) (by omega))) (rpl_nil (k := 0)))))).mono (by omega) (by decide)
/-- the way up -/
def upX (m : Mk) : Nat → Int → List Int → List Int
  | 0, c, rs => c :: rs
  | n + 1, c, rs => if c = 0 then c :: rs else upX m n (atE m.nodes c).par (c :: rs)
def wayX (m : Mk) (node : Int) : List Int := upX m m.nodes.length node []
theorem upX_len (m : Mk) : ∀ (n : Nat) (c : Int) (rs : List Int), (upX m n c rs).length ≤ n + 1 + rs.length ∧ 1 + rs.length ≤ (upX m n c rs).length
  | 0, c, rs => by simp [upX]; omega
  | n + 1, c, rs => by
    unfold upX
    split
    · simp; omega
    · have := upX_len m n (atE m.nodes c).par (c :: rs)
      simp only [List.length_cons] at this
      omega
theorem upX_0 (m : Mk) (n : Nat) (rs : List Int) : (upX m n 0 rs).length = rs.length + 1 := by
  cases n <;> simp [upX]
instance in_lst_strs {o : Ow} {k : Str} {ns : List Str} : Op .isin (.str k) (.lst o (ns.map D.str)) True (.bl (decide (k ∈ ns))) := ⟨fun _ => by simp only [O2.ev, inL, inD_strs, Option.map_some]⟩
instance {kp : List Nat} {ts : TgL} {m : Mk} {ρ ρ' : Ev} [h : TSL kp ts [.lst .frz (m.as.map D.str), .lst .frz (m.seen.map D.str), .lst .frz (m.nodes.map ndD)] ρ ρ'] : TS kp (.tup ts) (mkD m) ρ ρ' := ⟨by simp only [mkD, Tg.st, h.h]⟩
/-! ### amounts and conditions -/
inductive AmW (m : Mk) : Nat → Am → Prop
  | num {n : Nat} {q : Rat} : Qb q 40 → AmW m n (.num q)
  | name {n : Nat} {s : Str} : s ∈ m.as ∨ s ∈ m.seen → AmW m n (.name s)
  | pay {n : Nat} {s : Str} : s ∈ m.as → AmW m n (.pay s)
  | time {n : Nat} : AmW m n .time
  | times {n : Nat} {q : Rat} {a : Am} : Qb q 40 → AmW m n a → AmW m (n + 1) (.times q a)
  | bin {n : Nat} {w : Str} {a b : Am} : w = so "plus" ∨ w = so "max" ∨ w = so "min" → AmW m n a → AmW m n b → AmW m (n + 1) (.bin w a b)
inductive CnW (m : Mk) : Nat → Cn → Prop
  | leaf {n : Nat} : CnW m n .leaf
  | cmp {n : Nat} {w : Str} {a b : Am} : w ∈ [so "=", so "!=", so "<", so "<=", so ">", so ">="] → AmW m 1 a → AmW m 1 b → CnW m n (.cmp w a b)
  | not {n : Nat} {c : Cn} : CnW m n c → CnW m (n + 1) (.not c)
  | bin {n : Nat} {w : Str} {a b : Cn} : w = so "and" ∨ w = so "or" → CnW m n a → CnW m n b → CnW m (n + 1) (.bin w a b)
theorem AmW.up {mk : Mk} {n m : Nat} {a : Am} (h : AmW mk n a) (hm : n ≤ m) : AmW mk m a := by
  induction h generalizing m with
  | num h => exact .num h
  | name h => exact .name h
  | pay h => exact .pay h
  | time => exact .time
  | times h h0 ih => obtain ⟨k, rfl⟩ : ∃ k, m = k + 1 := ⟨m - 1, by omega⟩; exact .times h (ih (by omega))
  | bin h h01 h02 ih1 ih2 => obtain ⟨k, rfl⟩ : ∃ k, m = k + 1 := ⟨m - 1, by omega⟩; exact .bin h (ih1 (by omega)) (ih2 (by omega))
def valA (m : Mk) (k : Int) : Am → Rat
  | .num q => q
  | .name s => if s ∈ m.as then atE (atE m.nodes k).pr (m.as.idxOf s : Nat) else atE (atE m.nodes k).val (m.seen.idxOf s : Nat)
  | .pay s => atE (atE m.nodes k).pay (m.as.idxOf s : Nat)
  | .time => ((((wayX m k).length : Int) - 1 : Int) : Rat)
  | .times q a => q * valA m k a
  | .bin w a b => if w = so "plus" then valA m k a + valA m k b else if w = so "max" then (if valA m k a < valA m k b then valA m k b else valA m k a) else (if valA m k a < valA m k b then valA m k a else valA m k b)
def cmpS (w : Str) (x y : Rat) : Bool := if w = so "=" then decide (x = y) else if w = so "!=" then decide (x ≠ y) else if w = so "<" then decide (x < y) else if w = so "<=" then !decide (y < x) else if w = so ">" then decide (y < x) else !decide (x < y)
def holC (m : Mk) (k : Int) : Cn → Bool
  | .leaf => decide (chil m k = [])
  | .cmp w a b => cmpS w (valA m k a) (valA m k b)
  | .not c => !holC m k c
  | .bin w a b => if w = so "and" then holC m k a && holC m k b else holC m k a || holC m k b
theorem time_eq (m : Mk) (k : Int) : D.tup [.int (((wayX m k).length : Int) - 1), .int 1] = qD (valA m k .time) := rfl
theorem atE_b {qs : List Rat} {n : Nat} (h : QbL qs n) {i : Int} (hi : 0 ≤ i ∧ i < qs.length) : Qb (atE qs i) n := ⟨h.h _ (atE_mem hi)⟩
theorem idx_lt {s : Str} {xs : List Str} (h : s ∈ xs) : 0 ≤ ((xs.idxOf s : Nat) : Int) ∧ ((xs.idxOf s : Nat) : Int) < xs.length := ⟨by omega, by
  have := List.idxOf_lt_length_of_mem h
  omega⟩
theorem way_b {m : Mk} {k : Int} (hm : m.nodes.length ≤ 13) : 1 ≤ (wayX m k).length ∧ (wayX m k).length ≤ 14 := by
  have := upX_len m m.nodes.length k []
  simp only [List.length_nil] at this
  unfold wayX
  omega
theorem valA_b {m : Mk} (hm : MwOk m 13) {k : Int} (hk : 0 ≤ k ∧ k < m.nodes.length) {n : Nat} {a : Am} (h : AmW m n a) : Qb (valA m k a) (41 * 2 ^ n - 1) := by
  have hN := hm.at hk.1 hk.2
  induction h with
  | num h =>
    rename_i n q
    have p : 1 ≤ 2 ^ n := Nat.one_le_two_pow
    exact h.mono (by omega)
  | name h =>
    rename_i n s
    have p : 1 ≤ 2 ^ n := Nat.one_le_two_pow
    refine Qb.mono (n := 40) ?_ (by omega)
    unfold valA
    split
    · rename_i hs
      exact atE_b hN.pr.2 (by rw [hN.pr.1]; exact idx_lt hs)
    · rename_i hs
      exact atE_b hN.val.2 (by rw [hN.val.1]; exact idx_lt (h.elim (fun y => absurd y hs) id))
  | pay h =>
    rename_i n s
    have p : 1 ≤ 2 ^ n := Nat.one_le_two_pow
    exact Qb.mono (n := 40) (atE_b hN.pay.2 (by rw [hN.pay.1]; exact idx_lt h)) (by omega)
  | time =>
    rename_i n
    have p : 1 ≤ 2 ^ n := Nat.one_le_two_pow
    have := way_b (m := m) (k := k) hm.len.2
    refine Qb.mono (n := 40) ⟨?_, ?_⟩ (by omega)
    · have e : ((((wayX m k).length : Int) - 1).natAbs) < 2 ^ 10 := by omega
      exact Nat.lt_of_lt_of_le e (Nat.pow_le_pow_right (by decide) (by decide))
    · show 1 < 2 ^ 40
      decide
  | times h h0 ih =>
    rename_i n q a
    have p : 1 ≤ 2 ^ n := Nat.one_le_two_pow
    have := (qb_mul (h := h) (h2 := ih)).mono (m := 41 * 2 ^ (n + 1) - 1) (by rw [Nat.pow_succ]; omega)
    exact this
  | bin h h1 h2 ih1 ih2 =>
    rename_i n w a b
    have p : 1 ≤ 2 ^ n := Nat.one_le_two_pow
    have e : 41 * 2 ^ n - 1 ≤ 41 * 2 ^ (n + 1) - 1 := by rw [Nat.pow_succ]; omega
    unfold valA
    split
    · exact (qb_add (h := ih1) (h2 := ih2)).mono (by rw [Nat.pow_succ]; omega)
    · split
      · split
        · exact ih2.mono e
        · exact ih1.mono e
      · split
        · exact ih1.mono e
        · exact ih2.mono e
theorem rp_am {m : Mk} (hm : MwOk m 13) {n : Nat} {a : Am} (h : AmW m n a) : Rp (amD a) (2 ^ n * 500 - 240) (n + 3) := by
  have sb : ∀ s : Str, s ∈ m.as ∨ s ∈ m.seen → SB s 25 := fun s h => h.elim (hm.as.2.2 s) (hm.seen.2 s)
  induction h with
  | num h =>
    rename_i n q
    have p : 1 ≤ 2 ^ n := Nat.one_le_two_pow
    have h1 : Rp (.str (so "number")) 6 0 := rp_str ⟨by decide +kernel, by decide +kernel⟩
    exact (rp_tup (rpl_cons h1 (rpl_cons (rp_q (h.mono (by decide))) (rpl_nil (k := 0))))).mono (by omega) (by omega)
  | name h =>
    rename_i n s
    have p : 1 ≤ 2 ^ n := Nat.one_le_two_pow
    have h1 : Rp (.str (so "name")) 6 0 := rp_str ⟨by decide +kernel, by decide +kernel⟩
    exact (rp_tup (rpl_cons h1 (rpl_cons (rp_str (sb s h)) (rpl_nil (k := 0))))).mono (by omega) (by omega)
  | pay h =>
    rename_i n s
    have p : 1 ≤ 2 ^ n := Nat.one_le_two_pow
    have h1 : Rp (.str (so "payout")) 6 0 := rp_str ⟨by decide +kernel, by decide +kernel⟩
    exact (rp_tup (rpl_cons h1 (rpl_cons (rp_str (sb s (.inl h))) (rpl_nil (k := 0))))).mono (by omega) (by omega)
  | time =>
    rename_i n
    have p : 1 ≤ 2 ^ n := Nat.one_le_two_pow
    have h1 : Rp (.str (so "time")) 6 0 := rp_str ⟨by decide +kernel, by decide +kernel⟩
    exact (rp_tup (rpl_cons h1 (rpl_nil (k := 0)))).mono (by omega) (by omega)
  | times h h0 ih =>
    rename_i n q a
    have p : 1 ≤ 2 ^ n := Nat.one_le_two_pow
    have h1 : Rp (.str (so "times")) 6 0 := rp_str ⟨by decide +kernel, by decide +kernel⟩
    exact (rp_tup (rpl_cons h1 (rpl_cons (rp_q (h.mono (by decide))) (rpl_cons ih (rpl_nil (k := 0)))))).mono (by rw [Nat.pow_succ]; omega) (by omega)
  | bin h h1 h2 ih1 ih2 =>
    rename_i n w a b
    have p : 1 ≤ 2 ^ n := Nat.one_le_two_pow
    have h1 : Rp (.str w) 6 0 := by rcases h with rfl | rfl | rfl <;> exact rp_str ⟨by decide +kernel, by decide +kernel⟩
    exact (rp_tup (rpl_cons h1 (rpl_cons ih1 (rpl_cons ih2 (rpl_nil (k := 0)))))).mono (by rw [Nat.pow_succ]; omega) (by omega)
theorem rp_cn {m : Mk} (hm : MwOk m 13) {n : Nat} {a : Cn} (h : CnW m n a) : Rp (cnD a) (2 ^ n * 2000 - 100) (n + 6) := by
  induction h with
  | leaf =>
    rename_i n
    have p : 1 ≤ 2 ^ n := Nat.one_le_two_pow
    have h1 : Rp (.str (so "leaf")) 6 0 := rp_str ⟨by decide +kernel, by decide +kernel⟩
    exact (rp_tup (rpl_cons h1 (rpl_nil (k := 0)))).mono (by omega) (by omega)
  | cmp h ha hb =>
    rename_i n w a b
    have p : 1 ≤ 2 ^ n := Nat.one_le_two_pow
    have h1 : Rp (.str (so "compare")) 7 0 := rp_str ⟨by decide +kernel, by decide +kernel⟩
    have h2 : Rp (.str w) 6 0 := by
      simp only [List.mem_cons, List.not_mem_nil, or_false] at h
      rcases h with rfl | rfl | rfl | rfl | rfl | rfl <;> exact rp_str ⟨by decide +kernel, by decide +kernel⟩
    exact (rp_tup (rpl_cons h1 (rpl_cons h2 (rpl_cons (rp_am hm ha) (rpl_cons (rp_am hm hb) (rpl_nil (k := 0))))))).mono (by omega) (by omega)
  | not h ih =>
    rename_i n c
    have p : 1 ≤ 2 ^ n := Nat.one_le_two_pow
    have h1 : Rp (.str (so "not")) 6 0 := rp_str ⟨by decide +kernel, by decide +kernel⟩
    exact (rp_tup (rpl_cons h1 (rpl_cons ih (rpl_nil (k := 0))))).mono (by rw [Nat.pow_succ]; omega) (by omega)
  | bin h h1 h2 ih1 ih2 =>
    rename_i n w a b
    have p : 1 ≤ 2 ^ n := Nat.one_le_two_pow
    have h1 : Rp (.str w) 6 0 := by rcases h with rfl | rfl <;> exact rp_str ⟨by decide +kernel, by decide +kernel⟩
    exact (rp_tup (rpl_cons h1 (rpl_cons ih1 (rpl_cons ih2 (rpl_nil (k := 0)))))).mono (by rw [Nat.pow_succ]; omega) (by omega)
end PD
set_option Elab.async false
set_option linter.all false
set_option maxRecDepth 100000
set_option maxHeartbeats 8000000
set_option synthInstance.maxHeartbeats 0
set_option synthInstance.maxSize 100000
namespace PD
open PySem L2
local macro_rules | `(tactic| decreasing_trivial) => `(tactic| first | ((try simp [mulOk, rngOk, szOk, szl]) <;> (try and_intros) <;> (try intros) <;> (try and_intros) <;> first | done | rfl | omega | assumption | decide) | ((try and_intros) <;> (try intros) <;> (try and_intros) <;> first | trivial | rfl | assumption | omega | (simp [mulOk, rngOk, szOk, szl] <;> omega)))
local macro_rules | `(tactic| get_elem_tactic_trivial) => `(tactic| first | exact w_nil (by assumption) | refine w_seq (w_wip ?_) | refine w_end (w_wip ?_) | refine w_end (w_ret (by decreasing_trivial) ?_) | refine w_seq (w_asg (by decreasing_trivial) ?_) | refine w_end (w_asg (by decreasing_trivial) ?_))
def c_law_draws : CD := { np := 2, nn := 9, body := .cons (.asg (.nm 2) (.lc [6] (.nm 6) (.seq (.var .brw 0)) (.nil) (.var .brw 6))) (.cons (.asg (.nm 3) (.lst (.nil))) (.cons (.fors (.nm 4) (.rng1 (.var .brw 1)) (.cons (.asg (.nm 5) (.lit (.int 0))) (.cons (.ifs (.op2 .gt (.blt .len (.cons (.var .brw 2) .nil)) (.lit (.int 0))) (.cons (.asg (.nm 7) (.op2 .mod (.blt .int (.cons (.var .brw 4) .nil)) (.blt .len (.cons (.var .brw 2) .nil)))) (.cons (.ifs (.op2 .ge (.idx (.var .brw 2) (.var .brw 7)) (.op2 .pow (.lit (.int 10)) (.lit (.int 18)))) (.cons (.asg (.nm 5) (.op2 .mod (.blt .int (.cons (.idx (.var .brw 2) (.var .brw 7)) .nil)) (.lit (.int 1000)))) (.cons (.set 2 (.var .brw 7) (.op2 .fdiv (.idx (.var .brw 2) (.var .brw 7)) (.lit (.int 1000)))) .nil)) (.cons (.asg (.nm 8) (.op2 .mod (.blt .int (.cons (.op2 .add (.op2 .add (.op2 .mul (.idx (.var .brw 2) (.var .brw 7)) (.lit (.int 48271))) (.op2 .mul (.var .brw 4) (.lit (.int 69621)))) (.lit (.int 11))) .nil)) (.lit (.int 2147483647)))) (.cons (.asg (.nm 8) (.op2 .mod (.blt .int (.cons (.op2 .add (.op2 .mul (.var .brw 8) (.lit (.int 16807))) (.var .brw 7)) .nil)) (.lit (.int 2147483629)))) (.cons (.asg (.nm 5) (.op2 .mod (.blt .int (.cons (.op2 .fdiv (.var .brw 8) (.lit (.int 7))) .nil)) (.lit (.int 1000)))) (.cons (.wip [8]) .nil))))) (.cons (.wip [7, 8]) .nil))) (.nil)) (.cons (.exp (.mth .append 3 (.cons (.var .brw 5) .nil))) (.cons (.wip [4, 5, 7, 8]) .nil))))) (.cons (.wip [4, 5, 7, 8]) (.cons (.ret (.var .frz 3)) .nil)))) }
def g_law_draws : Gs := { fn := fun i => match i with  | _ => fun _ => .stuck, fk := fun i => match i with  | _ => [], gl := fun i => match i with  | _ => none, kp := [] }
def f_law_draws : List D → RF := c_law_draws.run g_law_draws
def c_law_names : CD := { np := 3, nn := 9, body := .cons (.asg (.nm 3) (.lit (.str "abcdefghijklmnopqrstuvwxyz"))) (.cons (.ifs (.op2 .eq (.op2 .mod (.blt .int (.cons (.var .brw 0) .nil)) (.lit (.int 5))) (.lit (.int 0))) (.cons (.ret (.fz (.lc [8] (.nm 8) (.rng1 (.var .brw 2)) (.nil) (.idx (.var .brw 3) (.op2 .mod (.blt .int (.cons (.op2 .add (.var .brw 1) (.op2 .mul (.lit (.int 5)) (.var .brw 8))) .nil)) (.lit (.int 26))))))) .nil) (.nil)) (.cons (.asg (.nm 4) (.op2 .add (.var .brw 3) (.lit (.str "0123456789")))) (.cons (.asg (.nm 5) (.op2 .mod (.blt .int (.cons (.var .brw 0) .nil)) (.lit (.int 4)))) (.cons (.ifs (.op2 .eq (.op2 .mod (.blt .int (.cons (.var .brw 0) .nil)) (.lit (.int 9))) (.lit (.int 8))) (.cons (.asg (.nm 5) (.lit (.int 10))) .nil) (.nil)) (.cons (.asg (.nm 6) (.op2 .add (.idx (.var .brw 3) (.op2 .mod (.blt .int (.cons (.var .brw 1) .nil)) (.lit (.int 26)))) (.jn "" (.lc [8] (.nm 8) (.rng1 (.var .brw 5)) (.nil) (.idx (.var .brw 4) (.op2 .mod (.blt .int (.cons (.op2 .add (.var .brw 0) (.op2 .mul (.lit (.int 7)) (.var .brw 8))) .nil)) (.lit (.int 36)))))))) (.cons (.asg (.nm 7) (.op2 .add (.lit (.int 1)) (.op2 .mod (.blt .int (.cons (.var .brw 1) .nil)) (.op2 .add (.var .brw 5) (.lit (.int 1)))))) (.cons (.ret (.fz (.lc [8] (.nm 8) (.rng1 (.var .brw 2)) (.nil) (.fz (.op2 .add (.op2 .add (.sl (.var .brw 6) .none (.some (.var .brw 7))) (.idx (.var .brw 4) (.op2 .mod (.blt .int (.cons (.op2 .add (.var .brw 1) (.op2 .mul (.lit (.int 5)) (.var .brw 8))) .nil)) (.lit (.int 36))))) (.sl (.var .brw 6) (.some (.var .brw 7)) .none)))))) .nil))))))) }
def g_law_names : Gs := { fn := fun i => match i with  | _ => fun _ => .stuck, fk := fun i => match i with  | _ => [], gl := fun i => match i with  | _ => none, kp := [] }
def f_law_names : List D → RF := c_law_names.run g_law_names
def c_law_lowest : CD := { np := 2, nn := 5, body := .cons (.par 3 4 (.var .brw 0) (.var .brw 1)) (.cons (.ifs (.op2 .lt (.var .brw 3) (.lit (.int 0))) (.cons (.asg (.nm 3) (.op1 .neg (.var .brw 3))) .nil) (.nil)) (.cons (.fors (.nm 2) (.rng1 (.lit (.int 4000))) (.cons (.ifs (.op2 .eq (.var .brw 4) (.lit (.int 0))) (.cons (.wip [2, 4]) (.cons (.brk) .nil)) (.nil)) (.cons (.par 3 4 (.var .brw 4) (.op2 .mod (.blt .int (.cons (.var .brw 3) .nil)) (.var .brw 4))) (.cons (.wip [2]) .nil)))) (.cons (.wip [2, 4]) (.cons (.ret (.tup (.cons (.op2 .fdiv (.var .brw 0) (.var .brw 3)) (.cons (.op2 .fdiv (.var .brw 1) (.var .brw 3)) .nil)))) .nil)))) }
def g_law_lowest : Gs := { fn := fun i => match i with  | _ => fun _ => .stuck, fk := fun i => match i with  | _ => [], gl := fun i => match i with  | _ => none, kp := [] }
def f_law_lowest : List D → RF := c_law_lowest.run g_law_lowest
def c_law_number : CD := { np := 2, nn := 2, body := .cons (.ifs (.op2 .eq (.op2 .mod (.blt .int (.cons (.var .brw 0) .nil)) (.lit (.int 11))) (.lit (.int 10))) (.cons (.ret (.idx (.lst (.cons (.tup (.cons (.lit (.int 999999999999)) (.cons (.lit (.int 1)) .nil))) (.cons (.tup (.cons (.op1 .neg (.lit (.int 999999999999))) (.cons (.lit (.int 1)) .nil))) (.cons (.tup (.cons (.lit (.int 1)) (.cons (.lit (.int 999999999999)) .nil))) (.cons (.tup (.cons (.op1 .neg (.lit (.int 7))) (.cons (.lit (.int 999999999998)) .nil))) .nil))))) (.op2 .mod (.blt .int (.cons (.var .brw 1) .nil)) (.lit (.int 4))))) .nil) (.nil)) (.cons (.ret (.cal 0 (.cons (.op2 .sub (.op2 .mod (.blt .int (.cons (.op2 .fdiv (.var .brw 0) (.lit (.int 11))) .nil)) (.lit (.int 25))) (.lit (.int 12))) (.cons (.op2 .add (.lit (.int 1)) (.op2 .mod (.blt .int (.cons (.var .brw 1) .nil)) (.lit (.int 6)))) .nil)))) .nil) }
def g_law_number : Gs := { fn := fun i => match i with | 0 => f_law_lowest | _ => fun _ => .stuck, fk := fun i => match i with | 0 => [] | _ => [], gl := fun i => match i with  | _ => none, kp := [] }
def f_law_number : List D → RF := c_law_number.run g_law_number
def c_law_market : CD := { np := 2, nn := 15, body := .cons (.asg (.nm 2) (.fz (.sl (.var .brw 1) .none (.some (.idx (.lst (.cons (.lit (.int 1)) (.cons (.lit (.int 2)) (.cons (.lit (.int 1)) (.cons (.lit (.int 2)) (.cons (.lit (.int 3)) (.cons (.lit (.int 4)) .nil))))))) (.op2 .mod (.blt .int (.cons (.idx (.var .brw 0) (.lit (.int 0))) .nil)) (.lit (.int 6)))))))) (.cons (.asg (.nm 3) (.fz (.sl (.var .brw 1) (.some (.lit (.int 4))) (.some (.op2 .add (.lit (.int 4)) (.idx (.lst (.cons (.lit (.int 0)) (.cons (.lit (.int 1)) (.cons (.lit (.int 2)) (.cons (.lit (.int 0)) (.cons (.lit (.int 3)) (.cons (.lit (.int 4)) .nil))))))) (.op2 .mod (.blt .int (.cons (.idx (.var .brw 0) (.lit (.int 1))) .nil)) (.lit (.int 6))))))))) (.cons (.asg (.nm 4) (.op2 .add (.lit (.int 1)) (.op2 .mod (.blt .int (.cons (.idx (.var .brw 0) (.lit (.int 2))) .nil)) (.lit (.int 6))))) (.cons (.ifs (.op2 .eq (.op2 .mod (.blt .int (.cons (.idx (.var .brw 0) (.lit (.int 2))) .nil)) (.lit (.int 8))) (.lit (.int 7))) (.cons (.asg (.nm 4) (.lit (.int 13))) .nil) (.nil)) (.cons (.asg (.nm 5) (.lst (.nil))) (.cons (.fors (.nm 6) (.rng1 (.var .brw 4)) (.cons (.asg (.nm 7) (.fz (.lc [14] (.nm 14) (.rng1 (.lit (.int 31))) (.nil) (.idx (.var .brw 0) (.op2 .mod (.blt .int (.cons (.op2 .add (.op2 .add (.lit (.int 10)) (.op2 .mul (.lit (.int 31)) (.var .brw 6))) (.var .brw 14)) .nil)) (.blt .len (.cons (.var .brw 0) .nil))))))) (.cons (.asg (.nm 8) (.op1 .neg (.lit (.int 1)))) (.cons (.ifs (.op2 .gt (.var .brw 6) (.lit (.int 0))) (.cons (.asg (.nm 8) (.op2 .sub (.op2 .sub (.var .brw 6) (.lit (.int 1))) (.op2 .mod (.blt .int (.cons (.idx (.var .brw 7) (.lit (.int 0))) .nil)) (.var .brw 6)))) .nil) (.nil)) (.cons (.ifs (.con (.cons (.op2 .gt (.var .brw 6) (.lit (.int 1))) (.cons (.op2 .eq (.var .brw 4) (.lit (.int 13))) .nil))) (.cons (.asg (.nm 8) (.op2 .sub (.op2 .sub (.var .brw 6) (.lit (.int 1))) (.op2 .mod (.blt .int (.cons (.idx (.var .brw 7) (.lit (.int 0))) .nil)) (.lit (.int 2))))) .nil) (.nil)) (.cons (.asg (.nm 9) (.cal 0 (.cons (.op2 .add (.lit (.int 1)) (.op2 .mod (.blt .int (.cons (.idx (.var .brw 7) (.lit (.int 1))) .nil)) (.lit (.int 5)))) (.cons (.op2 .add (.lit (.int 1)) (.op2 .mod (.blt .int (.cons (.idx (.var .brw 7) (.lit (.int 2))) .nil)) (.lit (.int 4)))) .nil)))) (.cons (.asg (.nm 10) (.fz (.lc [14] (.nm 14) (.rng1 (.blt .len (.cons (.var .brw 2) .nil))) (.nil) (.idx (.lst (.cons (.lit (.str "any")) (.cons (.lit (.str "long")) (.cons (.lit (.str "short")) (.cons (.lit (.str "none")) .nil))))) (.op2 .mod (.blt .int (.cons (.idx (.var .brw 7) (.op2 .add (.lit (.int 3)) (.var .brw 14))) .nil)) (.lit (.int 4))))))) (.cons (.asg (.nm 11) (.fz (.lc [14] (.nm 14) (.rng1 (.blt .len (.cons (.var .brw 2) .nil))) (.nil) (.cal 1 (.cons (.idx (.var .brw 7) (.op2 .add (.lit (.int 7)) (.op2 .mul (.lit (.int 2)) (.var .brw 14)))) (.cons (.idx (.var .brw 7) (.op2 .add (.lit (.int 8)) (.op2 .mul (.lit (.int 2)) (.var .brw 14)))) .nil)))))) (.cons (.asg (.nm 12) (.fz (.lc [14] (.nm 14) (.rng1 (.blt .len (.cons (.var .brw 2) .nil))) (.nil) (.cal 1 (.cons (.idx (.var .brw 7) (.op2 .add (.lit (.int 15)) (.op2 .mul (.lit (.int 2)) (.var .brw 14)))) (.cons (.idx (.var .brw 7) (.op2 .add (.lit (.int 16)) (.op2 .mul (.lit (.int 2)) (.var .brw 14)))) .nil)))))) (.cons (.asg (.nm 13) (.fz (.lc [14] (.nm 14) (.rng1 (.blt .len (.cons (.var .brw 3) .nil))) (.nil) (.cal 1 (.cons (.idx (.var .brw 7) (.op2 .add (.lit (.int 23)) (.op2 .mul (.lit (.int 2)) (.var .brw 14)))) (.cons (.idx (.var .brw 7) (.op2 .add (.lit (.int 24)) (.op2 .mul (.lit (.int 2)) (.var .brw 14)))) .nil)))))) (.cons (.exp (.mth .append 5 (.cons (.tup (.cons (.var .brw 8) (.cons (.var .brw 9) (.cons (.var .brw 10) (.cons (.var .brw 11) (.cons (.var .brw 12) (.cons (.var .brw 13) .nil))))))) .nil))) (.cons (.wip [6, 7, 8, 9, 10, 11, 12, 13]) .nil)))))))))))) (.cons (.wip [6, 7, 8, 9, 10, 11, 12, 13]) (.cons (.ret (.tup (.cons (.var .brw 2) (.cons (.var .brw 3) (.cons (.var .frz 5) .nil))))) .nil))))))) }
def g_law_market : Gs := { fn := fun i => match i with | 0 => f_law_lowest | 1 => f_law_number | _ => fun _ => .stuck, fk := fun i => match i with | 0 => [] | 1 => [] | _ => [], gl := fun i => match i with  | _ => none, kp := [] }
def f_law_market : List D → RF := c_law_market.run g_law_market
def c_law_take : CD := { np := 1, nn := 1, body := .cons (.ifs (.op2 .eq (.blt .len (.cons (.var .brw 0) .nil)) (.lit (.int 0))) (.cons (.ret (.lit (.int 0))) .nil) (.nil)) (.cons (.ret (.mth .pop 0 (.nil))) .nil) }
def g_law_take : Gs := { fn := fun i => match i with  | _ => fun _ => .stuck, fk := fun i => match i with  | _ => [], gl := fun i => match i with  | _ => none, kp := [0] }
def f_law_take : List D → RF := c_law_take.run g_law_take
def c_law_amount : CD := { np := 3, nn := 7, body := .cons (.asg (.nm 3) (.cal 0 (.cons (.lnd 1) .nil))) (.cons (.asg (.nm 4) (.cal 0 (.cons (.lnd 1) .nil))) (.cons (.asg (.nm 5) (.op2 .mod (.blt .int (.cons (.var .brw 3) .nil)) (.lit (.int 8)))) (.cons (.ifs (.con (.cons (.op2 .eq (.var .brw 2) (.lit (.int 0))) (.cons (.op2 .gt (.var .brw 5) (.lit (.int 3))) .nil))) (.cons (.asg (.nm 5) (.op2 .mod (.blt .int (.cons (.op2 .fdiv (.var .brw 3) (.lit (.int 8))) .nil)) (.lit (.int 4)))) .nil) (.nil)) (.cons (.ifs (.op2 .eq (.var .brw 5) (.lit (.int 0))) (.cons (.ret (.tup (.cons (.lit (.str "number")) (.cons (.cal 1 (.cons (.var .brw 4) (.cons (.op2 .fdiv (.var .brw 3) (.lit (.int 8))) .nil))) .nil)))) .nil) (.nil)) (.cons (.ifs (.op2 .eq (.var .brw 5) (.lit (.int 1))) (.cons (.ret (.tup (.cons (.lit (.str "name")) (.cons (.idx (.op2 .add (.idx (.var .brw 0) (.lit (.int 0))) (.idx (.var .brw 0) (.lit (.int 1)))) (.op2 .mod (.blt .int (.cons (.var .brw 4) .nil)) (.op2 .add (.blt .len (.cons (.idx (.var .brw 0) (.lit (.int 0))) .nil)) (.blt .len (.cons (.idx (.var .brw 0) (.lit (.int 1))) .nil))))) .nil)))) .nil) (.nil)) (.cons (.ifs (.op2 .eq (.var .brw 5) (.lit (.int 2))) (.cons (.ret (.tup (.cons (.lit (.str "payout")) (.cons (.idx (.idx (.var .brw 0) (.lit (.int 0))) (.op2 .mod (.blt .int (.cons (.var .brw 4) .nil)) (.blt .len (.cons (.idx (.var .brw 0) (.lit (.int 0))) .nil)))) .nil)))) .nil) (.nil)) (.cons (.ifs (.op2 .eq (.var .brw 5) (.lit (.int 3))) (.cons (.ret (.tup (.cons (.lit (.str "time")) .nil))) .nil) (.nil)) (.cons (.asg (.nm 6) (.cal 2 (.cons (.var .brw 0) (.cons (.lnd 1) (.cons (.op2 .sub (.var .brw 2) (.lit (.int 1))) .nil))))) (.cons (.ifs (.op2 .eq (.var .brw 5) (.lit (.int 4))) (.cons (.ret (.tup (.cons (.lit (.str "times")) (.cons (.cal 1 (.cons (.var .brw 4) (.cons (.op2 .fdiv (.var .brw 3) (.lit (.int 8))) .nil))) (.cons (.var .brw 6) .nil))))) .nil) (.nil)) (.cons (.ret (.tup (.cons (.idx (.lst (.cons (.lit (.str "plus")) (.cons (.lit (.str "max")) (.cons (.lit (.str "min")) .nil)))) (.op2 .sub (.var .brw 5) (.lit (.int 5)))) (.cons (.var .brw 6) (.cons (.cal 2 (.cons (.var .brw 0) (.cons (.lnd 1) (.cons (.op2 .sub (.var .brw 2) (.lit (.int 1))) .nil)))) .nil))))) .nil)))))))))) }
def g_law_amount (self : List D → RF) : Gs := { fn := fun i => match i with | 0 => f_law_take | 1 => f_law_number | 2 => self | _ => fun _ => .stuck, fk := fun i => match i with | 0 => [0] | 1 => [] | 2 => [1] | _ => [], gl := fun i => match i with  | _ => none, kp := [1] }
def fr_law_amount : Nat → List D → RF
  | 0 => fun _ => .stuck
  | n + 1 => c_law_amount.run (g_law_amount (fr_law_amount n))
def f_law_amount : List D → RF := fr_law_amount 8
def c_law_condition : CD := { np := 3, nn := 7, body := .cons (.asg (.nm 3) (.cal 0 (.cons (.lnd 1) .nil))) (.cons (.asg (.nm 4) (.op2 .mod (.blt .int (.cons (.var .brw 3) .nil)) (.lit (.int 6)))) (.cons (.ifs (.con (.cons (.op2 .eq (.var .brw 2) (.lit (.int 0))) (.cons (.op2 .gt (.var .brw 4) (.lit (.int 2))) .nil))) (.cons (.asg (.nm 4) (.op2 .mod (.blt .int (.cons (.op2 .fdiv (.var .brw 3) (.lit (.int 6))) .nil)) (.lit (.int 3)))) .nil) (.nil)) (.cons (.ifs (.op2 .eq (.var .brw 4) (.lit (.int 0))) (.cons (.ret (.tup (.cons (.lit (.str "leaf")) .nil))) .nil) (.nil)) (.cons (.ifs (.op2 .lt (.var .brw 4) (.lit (.int 3))) (.cons (.asg (.nm 6) (.idx (.lst (.cons (.lit (.str "=")) (.cons (.lit (.str "!=")) (.cons (.lit (.str "<")) (.cons (.lit (.str "<=")) (.cons (.lit (.str ">")) (.cons (.lit (.str ">=")) .nil))))))) (.op2 .mod (.blt .int (.cons (.op2 .fdiv (.var .brw 3) (.lit (.int 6))) .nil)) (.lit (.int 6))))) (.cons (.asg (.nm 5) (.cal 1 (.cons (.var .brw 0) (.cons (.lnd 1) (.cons (.blt .min (.cons (.var .brw 2) (.cons (.lit (.int 1)) .nil))) .nil))))) (.cons (.ret (.tup (.cons (.lit (.str "compare")) (.cons (.var .brw 6) (.cons (.var .brw 5) (.cons (.cal 1 (.cons (.var .brw 0) (.cons (.lnd 1) (.cons (.blt .min (.cons (.var .brw 2) (.cons (.lit (.int 1)) .nil))) .nil)))) .nil)))))) .nil))) (.nil)) (.cons (.asg (.nm 5) (.cal 2 (.cons (.var .brw 0) (.cons (.lnd 1) (.cons (.op2 .sub (.var .brw 2) (.lit (.int 1))) .nil))))) (.cons (.ifs (.op2 .eq (.var .brw 4) (.lit (.int 3))) (.cons (.ret (.tup (.cons (.lit (.str "not")) (.cons (.var .brw 5) .nil)))) .nil) (.nil)) (.cons (.ret (.tup (.cons (.idx (.lst (.cons (.lit (.str "and")) (.cons (.lit (.str "or")) .nil))) (.op2 .sub (.var .brw 4) (.lit (.int 4)))) (.cons (.var .brw 5) (.cons (.cal 2 (.cons (.var .brw 0) (.cons (.lnd 1) (.cons (.op2 .sub (.var .brw 2) (.lit (.int 1))) .nil)))) .nil))))) .nil))))))) }
def g_law_condition (self : List D → RF) : Gs := { fn := fun i => match i with | 0 => f_law_take | 1 => f_law_amount | 2 => self | _ => fun _ => .stuck, fk := fun i => match i with | 0 => [0] | 1 => [1] | 2 => [1] | _ => [], gl := fun i => match i with  | _ => none, kp := [1] }
def fr_law_condition : Nat → List D → RF
  | 0 => fun _ => .stuck
  | n + 1 => c_law_condition.run (g_law_condition (fr_law_condition n))
def f_law_condition : List D → RF := fr_law_condition 8
def c_named : CD := { np := 3, nn := 6, body := .cons (.asg (.tup (.cons (.nm 3) (.cons (.nm 4) (.cons (.nm 5) .nil)))) (.var .brw 0)) (.cons (.ifs (.op2 .isin (.var .brw 2) (.var .brw 3)) (.cons (.ret (.idx (.idx (.idx (.var .brw 5) (.var .brw 1)) (.lit (.int 3))) (.pm .index (.var .brw 3) (.cons (.var .brw 2) .nil)))) .nil) (.nil)) (.cons (.ret (.idx (.idx (.idx (.var .brw 5) (.var .brw 1)) (.lit (.int 5))) (.pm .index (.var .brw 4) (.cons (.var .brw 2) .nil)))) .nil)) }
def g_named : Gs := { fn := fun i => match i with  | _ => fun _ => .stuck, fk := fun i => match i with  | _ => [], gl := fun i => match i with  | _ => none, kp := [] }
def f_named : List D → RF := c_named.run g_named
def c_path_to : CD := { np := 2, nn := 4, body := .cons (.asg (.nm 2) (.lst (.cons (.var .brw 1) .nil))) (.cons (.fors (.nm 3) (.rng1 (.blt .len (.cons (.idx (.var .brw 0) (.lit (.int 2))) .nil))) (.cons (.ifs (.op2 .eq (.idx (.var .brw 2) (.op1 .neg (.lit (.int 1)))) (.lit (.int 0))) (.cons (.wip [3]) (.cons (.brk) .nil)) (.nil)) (.cons (.exp (.mth .append 2 (.cons (.idx (.idx (.idx (.var .brw 0) (.lit (.int 2))) (.idx (.var .brw 2) (.op1 .neg (.lit (.int 1))))) (.lit (.int 0))) .nil))) (.cons (.wip [3]) .nil)))) (.cons (.wip [3]) (.cons (.ret (.fz (.rev (.var .brw 2)))) .nil))) }
def g_path_to : Gs := { fn := fun i => match i with  | _ => fun _ => .stuck, fk := fun i => match i with  | _ => [], gl := fun i => match i with  | _ => none, kp := [] }
def f_path_to : List D → RF := c_path_to.run g_path_to
def c_number : CD := { np := 2, nn := 3, body := .cons (.ifs (.op2 .lt (.var .brw 1) (.lit (.int 0))) (.cons (.par 0 1 (.op1 .neg (.var .brw 0)) (.op1 .neg (.var .brw 1))) .nil) (.nil)) (.cons (.asg (.nm 2) (.blt .gcd (.cons (.var .brw 0) (.cons (.var .brw 1) .nil)))) (.cons (.ret (.tup (.cons (.op2 .fdiv (.var .brw 0) (.var .brw 2)) (.cons (.op2 .fdiv (.var .brw 1) (.var .brw 2)) .nil)))) .nil)) }
def g_number : Gs := { fn := fun i => match i with  | _ => fun _ => .stuck, fk := fun i => match i with  | _ => [], gl := fun i => match i with  | _ => none, kp := [] }
def f_number : List D → RF := c_number.run g_number
def c_times : CD := { np := 2, nn := 2, body := .cons (.ret (.cal 0 (.cons (.op2 .mul (.idx (.var .brw 0) (.lit (.int 0))) (.idx (.var .brw 1) (.lit (.int 0)))) (.cons (.op2 .mul (.idx (.var .brw 0) (.lit (.int 1))) (.idx (.var .brw 1) (.lit (.int 1)))) .nil)))) .nil }
def g_times : Gs := { fn := fun i => match i with | 0 => f_number | _ => fun _ => .stuck, fk := fun i => match i with | 0 => [] | _ => [], gl := fun i => match i with  | _ => none, kp := [] }
def f_times : List D → RF := c_times.run g_times
def c_plus : CD := { np := 2, nn := 2, body := .cons (.ret (.cal 0 (.cons (.op2 .add (.op2 .mul (.idx (.var .brw 0) (.lit (.int 0))) (.idx (.var .brw 1) (.lit (.int 1)))) (.op2 .mul (.idx (.var .brw 1) (.lit (.int 0))) (.idx (.var .brw 0) (.lit (.int 1))))) (.cons (.op2 .mul (.idx (.var .brw 0) (.lit (.int 1))) (.idx (.var .brw 1) (.lit (.int 1)))) .nil)))) .nil }
def g_plus : Gs := { fn := fun i => match i with | 0 => f_number | _ => fun _ => .stuck, fk := fun i => match i with | 0 => [] | _ => [], gl := fun i => match i with  | _ => none, kp := [] }
def f_plus : List D → RF := c_plus.run g_plus
def c_compare : CD := { np := 2, nn := 4, body := .cons (.par 2 3 (.op2 .mul (.idx (.var .brw 0) (.lit (.int 0))) (.idx (.var .brw 1) (.lit (.int 1)))) (.op2 .mul (.idx (.var .brw 1) (.lit (.int 0))) (.idx (.var .brw 0) (.lit (.int 1))))) (.cons (.ifs (.op2 .lt (.var .brw 2) (.var .brw 3)) (.cons (.ret (.op1 .neg (.lit (.int 1)))) .nil) (.nil)) (.cons (.ret (.blt .int (.cons (.op2 .gt (.var .brw 2) (.var .brw 3)) .nil))) .nil)) }
def g_compare : Gs := { fn := fun i => match i with  | _ => fun _ => .stuck, fk := fun i => match i with  | _ => [], gl := fun i => match i with  | _ => none, kp := [] }
def f_compare : List D → RF := c_compare.run g_compare
def c_amount_at : CD := { np := 3, nn := 6, body := .cons (.asg (.nm 3) (.idx (.var .brw 2) (.lit (.int 0)))) (.cons (.ifs (.op2 .eq (.var .brw 3) (.lit (.str "number"))) (.cons (.ret (.idx (.var .brw 2) (.lit (.int 1)))) .nil) (.nil)) (.cons (.ifs (.op2 .eq (.var .brw 3) (.lit (.str "name"))) (.cons (.ret (.cal 0 (.cons (.var .brw 0) (.cons (.var .brw 1) (.cons (.idx (.var .brw 2) (.lit (.int 1))) .nil))))) .nil) (.nil)) (.cons (.ifs (.op2 .eq (.var .brw 3) (.lit (.str "payout"))) (.cons (.ret (.idx (.idx (.idx (.idx (.var .brw 0) (.lit (.int 2))) (.var .brw 1)) (.lit (.int 4))) (.pm .index (.idx (.var .brw 0) (.lit (.int 0))) (.cons (.idx (.var .brw 2) (.lit (.int 1))) .nil)))) .nil) (.nil)) (.cons (.ifs (.op2 .eq (.var .brw 3) (.lit (.str "time"))) (.cons (.ret (.tup (.cons (.op2 .sub (.blt .len (.cons (.cal 1 (.cons (.var .brw 0) (.cons (.var .brw 1) .nil))) .nil)) (.lit (.int 1))) (.cons (.lit (.int 1)) .nil)))) .nil) (.nil)) (.cons (.asg (.nm 4) (.cal 2 (.cons (.var .brw 0) (.cons (.var .brw 1) (.cons (.idx (.var .brw 2) (.lit (.int 2))) .nil))))) (.cons (.ifs (.op2 .eq (.var .brw 3) (.lit (.str "times"))) (.cons (.ret (.cal 3 (.cons (.idx (.var .brw 2) (.lit (.int 1))) (.cons (.var .brw 4) .nil)))) .nil) (.nil)) (.cons (.asg (.nm 5) (.cal 2 (.cons (.var .brw 0) (.cons (.var .brw 1) (.cons (.idx (.var .brw 2) (.lit (.int 1))) .nil))))) (.cons (.ifs (.op2 .eq (.var .brw 3) (.lit (.str "plus"))) (.cons (.ret (.cal 4 (.cons (.var .brw 5) (.cons (.var .brw 4) .nil)))) .nil) (.nil)) (.cons (.ifs (.op2 .eq (.var .brw 3) (.lit (.str "max"))) (.cons (.ret (.ite (.op2 .lt (.cal 5 (.cons (.var .brw 5) (.cons (.var .brw 4) .nil))) (.lit (.int 0))) (.var .brw 4) (.var .brw 5))) .nil) (.nil)) (.cons (.ret (.ite (.op2 .lt (.cal 5 (.cons (.var .brw 5) (.cons (.var .brw 4) .nil))) (.lit (.int 0))) (.var .brw 5) (.var .brw 4))) .nil)))))))))) }
def g_amount_at (self : List D → RF) : Gs := { fn := fun i => match i with | 0 => f_named | 1 => f_path_to | 2 => self | 3 => f_times | 4 => f_plus | 5 => f_compare | _ => fun _ => .stuck, fk := fun i => match i with | 0 => [] | 1 => [] | 2 => [] | 3 => [] | 4 => [] | 5 => [] | _ => [], gl := fun i => match i with  | _ => none, kp := [] }
def fr_amount_at : Nat → List D → RF
  | 0 => fun _ => .stuck
  | n + 1 => c_amount_at.run (g_amount_at (fr_amount_at n))
def f_amount_at : List D → RF := fr_amount_at 8
def c_law_depth : CD := { np := 2, nn := 4, body := .cons (.asg (.nm 2) (.lit (.int 0))) (.cons (.fors (.nm 3) (.rng1 (.lit (.int 60))) (.cons (.ifs (.op2 .eq (.var .brw 1) (.lit (.int 0))) (.cons (.wip [3]) (.cons (.brk) .nil)) (.nil)) (.cons (.asg (.nm 1) (.idx (.idx (.idx (.var .brw 0) (.lit (.int 2))) (.var .brw 1)) (.lit (.int 0)))) (.cons (.asg (.nm 2) (.op2 .add (.var .brw 2) (.lit (.int 1)))) (.cons (.wip [3]) .nil))))) (.cons (.wip [3]) (.cons (.ret (.var .brw 2)) .nil))) }
def g_law_depth : Gs := { fn := fun i => match i with  | _ => fun _ => .stuck, fk := fun i => match i with  | _ => [], gl := fun i => match i with  | _ => none, kp := [] }
def f_law_depth : List D → RF := c_law_depth.run g_law_depth
def c_law_times : CD := { np := 2, nn := 2, body := .cons (.ret (.cal 0 (.cons (.op2 .mul (.idx (.var .brw 0) (.lit (.int 0))) (.idx (.var .brw 1) (.lit (.int 0)))) (.cons (.op2 .mul (.idx (.var .brw 0) (.lit (.int 1))) (.idx (.var .brw 1) (.lit (.int 1)))) .nil)))) .nil }
def g_law_times : Gs := { fn := fun i => match i with | 0 => f_law_lowest | _ => fun _ => .stuck, fk := fun i => match i with | 0 => [] | _ => [], gl := fun i => match i with  | _ => none, kp := [] }
def f_law_times : List D → RF := c_law_times.run g_law_times
def c_law_plus : CD := { np := 2, nn := 2, body := .cons (.ret (.cal 0 (.cons (.op2 .add (.op2 .mul (.idx (.var .brw 0) (.lit (.int 0))) (.idx (.var .brw 1) (.lit (.int 1)))) (.op2 .mul (.idx (.var .brw 1) (.lit (.int 0))) (.idx (.var .brw 0) (.lit (.int 1))))) (.cons (.op2 .mul (.idx (.var .brw 0) (.lit (.int 1))) (.idx (.var .brw 1) (.lit (.int 1)))) .nil)))) .nil }
def g_law_plus : Gs := { fn := fun i => match i with | 0 => f_law_lowest | _ => fun _ => .stuck, fk := fun i => match i with | 0 => [] | _ => [], gl := fun i => match i with  | _ => none, kp := [] }
def f_law_plus : List D → RF := c_law_plus.run g_law_plus
def c_law_less : CD := { np := 2, nn := 2, body := .cons (.ret (.op2 .lt (.op2 .mul (.idx (.var .brw 0) (.lit (.int 0))) (.idx (.var .brw 1) (.lit (.int 1)))) (.op2 .mul (.idx (.var .brw 1) (.lit (.int 0))) (.idx (.var .brw 0) (.lit (.int 1)))))) .nil }
def g_law_less : Gs := { fn := fun i => match i with  | _ => fun _ => .stuck, fk := fun i => match i with  | _ => [], gl := fun i => match i with  | _ => none, kp := [] }
def f_law_less : List D → RF := c_law_less.run g_law_less
def c_law_value : CD := { np := 3, nn := 7, body := .cons (.asg (.nm 3) (.idx (.var .brw 2) (.lit (.int 0)))) (.cons (.asg (.nm 4) (.idx (.idx (.var .brw 0) (.lit (.int 2))) (.var .brw 1))) (.cons (.ifs (.op2 .eq (.var .brw 3) (.lit (.str "number"))) (.cons (.ret (.idx (.var .brw 2) (.lit (.int 1)))) .nil) (.nil)) (.cons (.ifs (.con (.cons (.op2 .eq (.var .brw 3) (.lit (.str "name"))) (.cons (.op2 .isin (.idx (.var .brw 2) (.lit (.int 1))) (.idx (.var .brw 0) (.lit (.int 0)))) .nil))) (.cons (.ret (.idx (.idx (.var .brw 4) (.lit (.int 3))) (.pm .index (.idx (.var .brw 0) (.lit (.int 0))) (.cons (.idx (.var .brw 2) (.lit (.int 1))) .nil)))) .nil) (.nil)) (.cons (.ifs (.op2 .eq (.var .brw 3) (.lit (.str "name"))) (.cons (.ret (.idx (.idx (.var .brw 4) (.lit (.int 5))) (.pm .index (.idx (.var .brw 0) (.lit (.int 1))) (.cons (.idx (.var .brw 2) (.lit (.int 1))) .nil)))) .nil) (.nil)) (.cons (.ifs (.op2 .eq (.var .brw 3) (.lit (.str "payout"))) (.cons (.ret (.idx (.idx (.var .brw 4) (.lit (.int 4))) (.pm .index (.idx (.var .brw 0) (.lit (.int 0))) (.cons (.idx (.var .brw 2) (.lit (.int 1))) .nil)))) .nil) (.nil)) (.cons (.ifs (.op2 .eq (.var .brw 3) (.lit (.str "time"))) (.cons (.ret (.tup (.cons (.cal 0 (.cons (.var .brw 0) (.cons (.var .brw 1) .nil))) (.cons (.lit (.int 1)) .nil)))) .nil) (.nil)) (.cons (.ifs (.op2 .eq (.var .brw 3) (.lit (.str "times"))) (.cons (.ret (.cal 2 (.cons (.idx (.var .brw 2) (.lit (.int 1))) (.cons (.cal 1 (.cons (.var .brw 0) (.cons (.var .brw 1) (.cons (.idx (.var .brw 2) (.lit (.int 2))) .nil)))) .nil)))) .nil) (.nil)) (.cons (.par 5 6 (.cal 1 (.cons (.var .brw 0) (.cons (.var .brw 1) (.cons (.idx (.var .brw 2) (.lit (.int 1))) .nil)))) (.cal 1 (.cons (.var .brw 0) (.cons (.var .brw 1) (.cons (.idx (.var .brw 2) (.lit (.int 2))) .nil))))) (.cons (.ifs (.op2 .eq (.var .brw 3) (.lit (.str "plus"))) (.cons (.ret (.cal 3 (.cons (.var .brw 5) (.cons (.var .brw 6) .nil)))) .nil) (.nil)) (.cons (.ifs (.op2 .eq (.cal 4 (.cons (.var .brw 5) (.cons (.var .brw 6) .nil))) (.op2 .eq (.var .brw 3) (.lit (.str "max")))) (.cons (.ret (.var .brw 6)) .nil) (.nil)) (.cons (.ret (.var .brw 5)) .nil))))))))))) }
def g_law_value (self : List D → RF) : Gs := { fn := fun i => match i with | 0 => f_law_depth | 1 => self | 2 => f_law_times | 3 => f_law_plus | 4 => f_law_less | _ => fun _ => .stuck, fk := fun i => match i with | 0 => [] | 1 => [] | 2 => [] | 3 => [] | 4 => [] | _ => [], gl := fun i => match i with  | _ => none, kp := [] }
def fr_law_value : Nat → List D → RF
  | 0 => fun _ => .stuck
  | n + 1 => c_law_value.run (g_law_value (fr_law_value n))
def f_law_value : List D → RF := fr_law_value 8
def c_law_same : CD := { np := 2, nn := 3, body := .cons (.ifs (.dis (.cons (.blt (.isi .list) (.cons (.var .brw 1) .nil)) (.cons (.blt (.isi .tuple) (.cons (.var .brw 1) .nil)) .nil))) (.cons (.ifs (.dis (.cons (.op2 .ne (.blt (.isi .list) (.cons (.var .brw 1) .nil)) (.blt (.isi .list) (.cons (.var .brw 0) .nil))) (.cons (.op2 .ne (.blt (.isi .tuple) (.cons (.var .brw 1) .nil)) (.blt (.isi .tuple) (.cons (.var .brw 0) .nil))) .nil))) (.cons (.ret (.lit (.bl false))) .nil) (.nil)) (.cons (.ifs (.op2 .ne (.blt .len (.cons (.var .brw 0) .nil)) (.blt .len (.cons (.var .brw 1) .nil))) (.cons (.ret (.lit (.bl false))) .nil) (.nil)) (.cons (.ret (.blt .all (.cons (.lc [2] (.nm 2) (.rng1 (.blt .len (.cons (.var .brw 1) .nil))) (.nil) (.cal 0 (.cons (.idx (.var .brw 0) (.var .brw 2)) (.cons (.idx (.var .brw 1) (.var .brw 2)) .nil)))) .nil))) .nil))) (.nil)) (.cons (.ifs (.dis (.cons (.blt (.isi .bool) (.cons (.var .brw 1) .nil)) (.cons (.blt (.isi .bool) (.cons (.var .brw 0) .nil)) .nil))) (.cons (.ret (.con (.cons (.blt (.isi .bool) (.cons (.var .brw 1) .nil)) (.cons (.blt (.isi .bool) (.cons (.var .brw 0) .nil)) (.cons (.op2 .eq (.var .brw 0) (.var .brw 1)) .nil))))) .nil) (.nil)) (.cons (.ifs (.blt (.isi .int) (.cons (.var .brw 1) .nil)) (.cons (.ret (.con (.cons (.blt (.isi .int) (.cons (.var .brw 0) .nil)) (.cons (.op2 .eq (.var .brw 0) (.var .brw 1)) .nil)))) .nil) (.nil)) (.cons (.ret (.con (.cons (.blt (.isi .str) (.cons (.var .brw 1) .nil)) (.cons (.blt (.isi .str) (.cons (.var .brw 0) .nil)) (.cons (.op2 .eq (.var .brw 0) (.var .brw 1)) .nil))))) .nil))) }
def g_law_same (self : List D → RF) : Gs := { fn := fun i => match i with | 0 => self | _ => fun _ => .stuck, fk := fun i => match i with | 0 => [] | _ => [], gl := fun i => match i with  | _ => none, kp := [] }
def fr_law_same : Nat → List D → RF
  | 0 => fun _ => .stuck
  | n + 1 => c_law_same.run (g_law_same (fr_law_same n))
def f_law_same : List D → RF := fr_law_same 8
def c_children : CD := { np := 2, nn := 3, body := .cons (.ret (.fz (.lc [2] (.nm 2) (.rng1 (.blt .len (.cons (.idx (.var .brw 0) (.lit (.int 2))) .nil))) (.cons (.op2 .eq (.idx (.idx (.idx (.var .brw 0) (.lit (.int 2))) (.var .brw 2)) (.lit (.int 0))) (.var .brw 1)) .nil) (.var .brw 2)))) .nil }
def g_children : Gs := { fn := fun i => match i with  | _ => fun _ => .stuck, fk := fun i => match i with  | _ => [], gl := fun i => match i with  | _ => none, kp := [] }
def f_children : List D → RF := c_children.run g_children
def c_agrees : CD := { np := 2, nn := 2, body := .cons (.ifs (.op2 .eq (.var .brw 0) (.lit (.str "="))) (.cons (.ret (.op2 .eq (.var .brw 1) (.lit (.int 0)))) .nil) (.nil)) (.cons (.ifs (.op2 .eq (.var .brw 0) (.lit (.str "!="))) (.cons (.ret (.op2 .ne (.var .brw 1) (.lit (.int 0)))) .nil) (.nil)) (.cons (.ifs (.op2 .eq (.var .brw 0) (.lit (.str "<"))) (.cons (.ret (.op2 .lt (.var .brw 1) (.lit (.int 0)))) .nil) (.nil)) (.cons (.ifs (.op2 .eq (.var .brw 0) (.lit (.str "<="))) (.cons (.ret (.op2 .le (.var .brw 1) (.lit (.int 0)))) .nil) (.nil)) (.cons (.ifs (.op2 .eq (.var .brw 0) (.lit (.str ">"))) (.cons (.ret (.op2 .gt (.var .brw 1) (.lit (.int 0)))) .nil) (.nil)) (.cons (.ret (.op2 .ge (.var .brw 1) (.lit (.int 0)))) .nil))))) }
def g_agrees : Gs := { fn := fun i => match i with  | _ => fun _ => .stuck, fk := fun i => match i with  | _ => [], gl := fun i => match i with  | _ => none, kp := [] }
def f_agrees : List D → RF := c_agrees.run g_agrees
def c_holds_at : CD := { np := 3, nn := 6, body := .cons (.asg (.nm 3) (.idx (.var .brw 2) (.lit (.int 0)))) (.cons (.ifs (.op2 .eq (.var .brw 3) (.lit (.str "leaf"))) (.cons (.ret (.op2 .eq (.cal 0 (.cons (.var .brw 0) (.cons (.var .brw 1) .nil))) (.lst (.nil)))) .nil) (.nil)) (.cons (.ifs (.op2 .eq (.var .brw 3) (.lit (.str "compare"))) (.cons (.par 4 5 (.cal 1 (.cons (.var .brw 0) (.cons (.var .brw 1) (.cons (.idx (.var .brw 2) (.lit (.int 2))) .nil)))) (.cal 1 (.cons (.var .brw 0) (.cons (.var .brw 1) (.cons (.idx (.var .brw 2) (.lit (.int 3))) .nil))))) (.cons (.ret (.cal 3 (.cons (.idx (.var .brw 2) (.lit (.int 1))) (.cons (.cal 2 (.cons (.var .brw 4) (.cons (.var .brw 5) .nil))) .nil)))) .nil)) (.nil)) (.cons (.ifs (.op2 .eq (.var .brw 3) (.lit (.str "not"))) (.cons (.ret (.op1 .not (.cal 4 (.cons (.var .brw 0) (.cons (.var .brw 1) (.cons (.idx (.var .brw 2) (.lit (.int 1))) .nil)))))) .nil) (.nil)) (.cons (.ifs (.op2 .eq (.var .brw 3) (.lit (.str "and"))) (.cons (.ret (.con (.cons (.cal 4 (.cons (.var .brw 0) (.cons (.var .brw 1) (.cons (.idx (.var .brw 2) (.lit (.int 1))) .nil)))) (.cons (.cal 4 (.cons (.var .brw 0) (.cons (.var .brw 1) (.cons (.idx (.var .brw 2) (.lit (.int 2))) .nil)))) .nil)))) .nil) (.nil)) (.cons (.ret (.dis (.cons (.cal 4 (.cons (.var .brw 0) (.cons (.var .brw 1) (.cons (.idx (.var .brw 2) (.lit (.int 1))) .nil)))) (.cons (.cal 4 (.cons (.var .brw 0) (.cons (.var .brw 1) (.cons (.idx (.var .brw 2) (.lit (.int 2))) .nil)))) .nil)))) .nil))))) }
def g_holds_at (self : List D → RF) : Gs := { fn := fun i => match i with | 0 => f_children | 1 => f_amount_at | 2 => f_compare | 3 => f_agrees | 4 => self | _ => fun _ => .stuck, fk := fun i => match i with | 0 => [] | 1 => [] | 2 => [] | 3 => [] | 4 => [] | _ => [], gl := fun i => match i with  | _ => none, kp := [] }
def fr_holds_at : Nat → List D → RF
  | 0 => fun _ => .stuck
  | n + 1 => c_holds_at.run (g_holds_at (fr_holds_at n))
def f_holds_at : List D → RF := fr_holds_at 8
def c_law_holds : CD := { np := 3, nn := 11, body := .cons (.asg (.nm 3) (.idx (.var .brw 2) (.lit (.int 0)))) (.cons (.ifs (.op2 .eq (.var .brw 3) (.lit (.str "leaf"))) (.cons (.ret (.op1 .not (.blt .any (.cons (.lc [7] (.nm 7) (.seq (.idx (.var .brw 0) (.lit (.int 2)))) (.nil) (.op2 .eq (.idx (.var .brw 7) (.lit (.int 0))) (.var .brw 1))) .nil)))) .nil) (.nil)) (.cons (.ifs (.op2 .eq (.var .brw 3) (.lit (.str "compare"))) (.cons (.asg (.nm 6) (.cal 0 (.cons (.var .brw 0) (.cons (.var .brw 1) (.cons (.idx (.var .brw 2) (.lit (.int 2))) .nil))))) (.cons (.asg (.nm 7) (.cal 0 (.cons (.var .brw 0) (.cons (.var .brw 1) (.cons (.idx (.var .brw 2) (.lit (.int 3))) .nil))))) (.cons (.par 9 10 (.cal 1 (.cons (.var .brw 6) (.cons (.var .brw 7) .nil))) (.cal 1 (.cons (.var .brw 7) (.cons (.var .brw 6) .nil)))) (.dret 8 ["=", "!=", "<", "<=", ">", ">="] (.cons (.op2 .eq (.var .brw 6) (.var .brw 7)) (.cons (.op2 .ne (.var .brw 6) (.var .brw 7)) (.cons (.var .brw 9) (.cons (.op1 .not (.var .brw 10)) (.cons (.var .brw 10) (.cons (.op1 .not (.var .brw 9)) .nil)))))) (.idx (.var .brw 2) (.lit (.int 1))))))) (.nil)) (.cons (.ifs (.op2 .eq (.var .brw 3) (.lit (.str "not"))) (.cons (.ret (.op1 .not (.cal 2 (.cons (.var .brw 0) (.cons (.var .brw 1) (.cons (.idx (.var .brw 2) (.lit (.int 1))) .nil)))))) .nil) (.nil)) (.cons (.asg (.nm 4) (.cal 2 (.cons (.var .brw 0) (.cons (.var .brw 1) (.cons (.idx (.var .brw 2) (.lit (.int 1))) .nil))))) (.cons (.asg (.nm 5) (.cal 2 (.cons (.var .brw 0) (.cons (.var .brw 1) (.cons (.idx (.var .brw 2) (.lit (.int 2))) .nil))))) (.cons (.ifs (.op2 .eq (.var .brw 3) (.lit (.str "and"))) (.cons (.ret (.con (.cons (.var .brw 4) (.cons (.var .brw 5) .nil)))) .nil) (.nil)) (.cons (.ret (.dis (.cons (.var .brw 4) (.cons (.var .brw 5) .nil)))) .nil))))))) }
def g_law_holds (self : List D → RF) : Gs := { fn := fun i => match i with | 0 => f_law_value | 1 => f_law_less | 2 => self | _ => fun _ => .stuck, fk := fun i => match i with | 0 => [] | 1 => [] | 2 => [] | _ => [], gl := fun i => match i with  | _ => none, kp := [] }
def fr_law_holds : Nat → List D → RF
  | 0 => fun _ => .stuck
  | n + 1 => c_law_holds.run (g_law_holds (fr_law_holds n))
def f_law_holds : List D → RF := fr_law_holds 8
def c_law : CD := { np := 1, nn := 10, body := .cons (.asg (.nm 1) (.cal 0 (.cons (.var .brw 0) (.cons (.lit (.int 420)) .nil)))) (.cons (.asg (.nm 2) (.cal 1 (.cons (.idx (.var .brw 1) (.lit (.int 0))) (.cons (.idx (.var .brw 1) (.lit (.int 1))) (.cons (.lit (.int 8)) .nil))))) (.cons (.asg (.nm 3) (.cal 2 (.cons (.fz (.sl (.var .brw 1) (.some (.lit (.int 2))) (.some (.lit (.int 132))))) (.cons (.var .brw 2) .nil)))) (.cons (.asg (.nm 4) (.sl (.var .brw 1) (.some (.lit (.int 140))) .none)) (.cons (.fors (.nm 5) (.rng1 (.lit (.int 2))) (.cons (.asg (.nm 6) (.cal 3 (.cons (.var .brw 3) (.cons (.lnd 4) (.cons (.lit (.int 3)) .nil))))) (.cons (.asg (.nm 7) (.cal 4 (.cons (.var .brw 3) (.cons (.lnd 4) (.cons (.lit (.int 3)) .nil))))) (.cons (.asg (.nm 8) (.op2 .mod (.blt .int (.cons (.idx (.var .brw 1) (.op2 .add (.lit (.int 132)) (.var .brw 5))) .nil)) (.blt .len (.cons (.idx (.var .brw 3) (.lit (.int 2))) .nil)))) (.cons (.asg (.nm 9) (.blt .repr (.cons (.tup (.cons (.var .brw 3) (.cons (.var .brw 6) (.cons (.var .brw 7) .nil)))) .nil))) (.cons (.ifs (.op1 .not (.cal 7 (.cons (.cal 5 (.cons (.var .brw 3) (.cons (.var .brw 8) (.cons (.var .brw 6) .nil)))) (.cons (.cal 6 (.cons (.var .brw 3) (.cons (.var .brw 8) (.cons (.var .brw 6) .nil)))) .nil)))) (.cons (.ret (.lit (.bl false))) .nil) (.nil)) (.cons (.ifs (.op1 .not (.cal 7 (.cons (.cal 8 (.cons (.var .brw 3) (.cons (.var .brw 8) (.cons (.var .brw 7) .nil)))) (.cons (.cal 9 (.cons (.var .brw 3) (.cons (.var .brw 8) (.cons (.var .brw 7) .nil)))) .nil)))) (.cons (.ret (.lit (.bl false))) .nil) (.nil)) (.cons (.ifs (.op2 .ne (.blt .repr (.cons (.tup (.cons (.var .brw 3) (.cons (.var .brw 6) (.cons (.var .brw 7) .nil)))) .nil)) (.var .brw 9)) (.cons (.ret (.lit (.bl false))) .nil) (.nil)) (.cons (.wip [5, 6, 7, 8, 9]) .nil))))))))) (.cons (.wip [5, 6, 7, 8, 9]) (.cons (.ret (.lit (.bl true))) .nil)))))) }
def g_law : Gs := { fn := fun i => match i with | 0 => f_law_draws | 1 => f_law_names | 2 => f_law_market | 3 => f_law_amount | 4 => f_law_condition | 5 => f_amount_at | 6 => f_law_value | 7 => f_law_same | 8 => f_holds_at | 9 => f_law_holds | _ => fun _ => .stuck, fk := fun i => match i with | 0 => [] | 1 => [] | 2 => [] | 3 => [1] | 4 => [1] | 5 => [] | 6 => [] | 7 => [] | 8 => [] | 9 => [] | _ => [], gl := fun i => match i with  | _ => none, kp := [] }
def f_law : List D → RF := c_law.run g_law
end PD
set_option Elab.async false
set_option linter.all false
set_option maxRecDepth 100000
set_option maxHeartbeats 8000000
set_option synthInstance.maxHeartbeats 0
set_option synthInstance.maxSize 100000
namespace PD
open PySem L2
local macro_rules | `(tactic| decreasing_trivial) => `(tactic| first | ((try simp [mulOk, rngOk, szOk, szl]) <;> (try and_intros) <;> (try intros) <;> (try and_intros) <;> first | done | rfl | omega | assumption | decide) | ((try and_intros) <;> (try intros) <;> (try and_intros) <;> first | trivial | rfl | assumption | omega | (simp [mulOk, rngOk, szOk, szl] <;> omega)))
local macro_rules | `(tactic| get_elem_tactic_trivial) => `(tactic| first | exact w_nil (by assumption) | refine w_seq (w_wip ?_) | refine w_end (w_wip ?_) | refine w_end (w_ret (by decreasing_trivial) ?_) | refine w_seq (w_asg (by decreasing_trivial) ?_) | refine w_end (w_asg (by decreasing_trivial) ?_))
instance {i : Nat} : Kpt g_law_draws i := ⟨rfl⟩
theorem st_law_draws {P : D → Prop} (x0 x1 : D) (h : (c_law_draws.body.ev g_law_draws [some x0, some x1, none, none, none, none, none, none, none]).wp (fun _ _ _ => False) (fun d _ => P d) (fun _ => False) (fun _ => False) (fun _ => P .non)) : ∃ d, f_law_draws [x0, x1] = .ok d [] ∧ P d := run_ex rfl rfl rfl h
theorem se_law_draws {x : D} (x0 x1 : D) (h : (c_law_draws.body.ev g_law_draws [some x0, some x1, none, none, none, none, none, none, none]).wp (fun _ _ _ => False) (fun d _ => d = x) (fun _ => False) (fun _ => False) (fun _ => .non = x)) : f_law_draws [x0, x1] = .ok x [] := run_eq rfl rfl rfl h
instance {i : Nat} : Kpt g_law_names i := ⟨rfl⟩
theorem st_law_names {P : D → Prop} (x0 x1 x2 : D) (h : (c_law_names.body.ev g_law_names [some x0, some x1, some x2, none, none, none, none, none, none]).wp (fun _ _ _ => False) (fun d _ => P d) (fun _ => False) (fun _ => False) (fun _ => P .non)) : ∃ d, f_law_names [x0, x1, x2] = .ok d [] ∧ P d := run_ex rfl rfl rfl h
theorem se_law_names {x : D} (x0 x1 x2 : D) (h : (c_law_names.body.ev g_law_names [some x0, some x1, some x2, none, none, none, none, none, none]).wp (fun _ _ _ => False) (fun d _ => d = x) (fun _ => False) (fun _ => False) (fun _ => .non = x)) : f_law_names [x0, x1, x2] = .ok x [] := run_eq rfl rfl rfl h
instance {i : Nat} : Kpt g_law_lowest i := ⟨rfl⟩
theorem st_law_lowest {P : D → Prop} (x0 x1 : D) (h : (c_law_lowest.body.ev g_law_lowest [some x0, some x1, none, none, none]).wp (fun _ _ _ => False) (fun d _ => P d) (fun _ => False) (fun _ => False) (fun _ => P .non)) : ∃ d, f_law_lowest [x0, x1] = .ok d [] ∧ P d := run_ex rfl rfl rfl h
theorem se_law_lowest {x : D} (x0 x1 : D) (h : (c_law_lowest.body.ev g_law_lowest [some x0, some x1, none, none, none]).wp (fun _ _ _ => False) (fun d _ => d = x) (fun _ => False) (fun _ => False) (fun _ => .non = x)) : f_law_lowest [x0, x1] = .ok x [] := run_eq rfl rfl rfl h
instance {i : Nat} : Kpt g_law_number i := ⟨rfl⟩
instance : GF g_law_number 0 f_law_lowest [] := ⟨rfl, rfl⟩
theorem st_law_number {P : D → Prop} (x0 x1 : D) (h : (c_law_number.body.ev g_law_number [some x0, some x1]).wp (fun _ _ _ => False) (fun d _ => P d) (fun _ => False) (fun _ => False) (fun _ => P .non)) : ∃ d, f_law_number [x0, x1] = .ok d [] ∧ P d := run_ex rfl rfl rfl h
theorem se_law_number {x : D} (x0 x1 : D) (h : (c_law_number.body.ev g_law_number [some x0, some x1]).wp (fun _ _ _ => False) (fun d _ => d = x) (fun _ => False) (fun _ => False) (fun _ => .non = x)) : f_law_number [x0, x1] = .ok x [] := run_eq rfl rfl rfl h
instance {i : Nat} : Kpt g_law_market i := ⟨rfl⟩
instance : GF g_law_market 0 f_law_lowest [] := ⟨rfl, rfl⟩
instance : GF g_law_market 1 f_law_number [] := ⟨rfl, rfl⟩
theorem st_law_market {P : D → Prop} (x0 x1 : D) (h : (c_law_market.body.ev g_law_market [some x0, some x1, none, none, none, none, none, none, none, none, none, none, none, none, none]).wp (fun _ _ _ => False) (fun d _ => P d) (fun _ => False) (fun _ => False) (fun _ => P .non)) : ∃ d, f_law_market [x0, x1] = .ok d [] ∧ P d := run_ex rfl rfl rfl h
theorem se_law_market {x : D} (x0 x1 : D) (h : (c_law_market.body.ev g_law_market [some x0, some x1, none, none, none, none, none, none, none, none, none, none, none, none, none]).wp (fun _ _ _ => False) (fun d _ => d = x) (fun _ => False) (fun _ => False) (fun _ => .non = x)) : f_law_market [x0, x1] = .ok x [] := run_eq rfl rfl rfl h
theorem sk_law_take {P : D → List D → Prop} (x0 : D) (h : (c_law_take.body.ev g_law_take [some x0]).wp (fun _ _ _ => False) (fun d ρ => ∃ o, outs g_law_take.kp ρ = some o ∧ P d o) (fun _ => False) (fun _ => False) (fun ρ => ∃ o, outs g_law_take.kp ρ = some o ∧ P .non o)) : ∃ d o, f_law_take [x0] = .ok d o ∧ P d o := run_kp rfl rfl h
instance {self : List D → RF} : Kpt (g_law_amount self) 0 := ⟨rfl⟩
instance {self : List D → RF} : Kpt (g_law_amount self) 2 := ⟨rfl⟩
instance {self : List D → RF} : Kpt (g_law_amount self) 3 := ⟨rfl⟩
instance {self : List D → RF} : Kpt (g_law_amount self) 4 := ⟨rfl⟩
instance {self : List D → RF} : Kpt (g_law_amount self) 5 := ⟨rfl⟩
instance {self : List D → RF} : Kpt (g_law_amount self) 6 := ⟨rfl⟩
instance {self : List D → RF} : GF (g_law_amount self) 0 f_law_take [0] := ⟨rfl, rfl⟩
instance {self : List D → RF} : GF (g_law_amount self) 1 f_law_number [] := ⟨rfl, rfl⟩
instance {self : List D → RF} : GF (g_law_amount self) 2 self [1] := ⟨rfl, rfl⟩
theorem sk_law_amount {n : Nat} {P : D → List D → Prop} (x0 x1 x2 : D) (h : (c_law_amount.body.ev (g_law_amount (fr_law_amount n)) [some x0, some x1, some x2, none, none, none, none]).wp (fun _ _ _ => False) (fun d ρ => ∃ o, outs (g_law_amount (fr_law_amount n)).kp ρ = some o ∧ P d o) (fun _ => False) (fun _ => False) (fun ρ => ∃ o, outs (g_law_amount (fr_law_amount n)).kp ρ = some o ∧ P .non o)) : ∃ d o, fr_law_amount (n + 1) [x0, x1, x2] = .ok d o ∧ P d o := run_kp rfl rfl h
instance {self : List D → RF} : Kpt (g_law_condition self) 0 := ⟨rfl⟩
instance {self : List D → RF} : Kpt (g_law_condition self) 2 := ⟨rfl⟩
instance {self : List D → RF} : Kpt (g_law_condition self) 3 := ⟨rfl⟩
instance {self : List D → RF} : Kpt (g_law_condition self) 4 := ⟨rfl⟩
instance {self : List D → RF} : Kpt (g_law_condition self) 5 := ⟨rfl⟩
instance {self : List D → RF} : Kpt (g_law_condition self) 6 := ⟨rfl⟩
instance {self : List D → RF} : GF (g_law_condition self) 0 f_law_take [0] := ⟨rfl, rfl⟩
instance {self : List D → RF} : GF (g_law_condition self) 1 f_law_amount [1] := ⟨rfl, rfl⟩
instance {self : List D → RF} : GF (g_law_condition self) 2 self [1] := ⟨rfl, rfl⟩
theorem sk_law_condition {n : Nat} {P : D → List D → Prop} (x0 x1 x2 : D) (h : (c_law_condition.body.ev (g_law_condition (fr_law_condition n)) [some x0, some x1, some x2, none, none, none, none]).wp (fun _ _ _ => False) (fun d ρ => ∃ o, outs (g_law_condition (fr_law_condition n)).kp ρ = some o ∧ P d o) (fun _ => False) (fun _ => False) (fun ρ => ∃ o, outs (g_law_condition (fr_law_condition n)).kp ρ = some o ∧ P .non o)) : ∃ d o, fr_law_condition (n + 1) [x0, x1, x2] = .ok d o ∧ P d o := run_kp rfl rfl h
instance {i : Nat} : Kpt g_named i := ⟨rfl⟩
theorem st_named {P : D → Prop} (x0 x1 x2 : D) (h : (c_named.body.ev g_named [some x0, some x1, some x2, none, none, none]).wp (fun _ _ _ => False) (fun d _ => P d) (fun _ => False) (fun _ => False) (fun _ => P .non)) : ∃ d, f_named [x0, x1, x2] = .ok d [] ∧ P d := run_ex rfl rfl rfl h
theorem se_named {x : D} (x0 x1 x2 : D) (h : (c_named.body.ev g_named [some x0, some x1, some x2, none, none, none]).wp (fun _ _ _ => False) (fun d _ => d = x) (fun _ => False) (fun _ => False) (fun _ => .non = x)) : f_named [x0, x1, x2] = .ok x [] := run_eq rfl rfl rfl h
instance {i : Nat} : Kpt g_path_to i := ⟨rfl⟩
theorem st_path_to {P : D → Prop} (x0 x1 : D) (h : (c_path_to.body.ev g_path_to [some x0, some x1, none, none]).wp (fun _ _ _ => False) (fun d _ => P d) (fun _ => False) (fun _ => False) (fun _ => P .non)) : ∃ d, f_path_to [x0, x1] = .ok d [] ∧ P d := run_ex rfl rfl rfl h
theorem se_path_to {x : D} (x0 x1 : D) (h : (c_path_to.body.ev g_path_to [some x0, some x1, none, none]).wp (fun _ _ _ => False) (fun d _ => d = x) (fun _ => False) (fun _ => False) (fun _ => .non = x)) : f_path_to [x0, x1] = .ok x [] := run_eq rfl rfl rfl h
instance {i : Nat} : Kpt g_number i := ⟨rfl⟩
theorem st_number {P : D → Prop} (x0 x1 : D) (h : (c_number.body.ev g_number [some x0, some x1, none]).wp (fun _ _ _ => False) (fun d _ => P d) (fun _ => False) (fun _ => False) (fun _ => P .non)) : ∃ d, f_number [x0, x1] = .ok d [] ∧ P d := run_ex rfl rfl rfl h
theorem se_number {x : D} (x0 x1 : D) (h : (c_number.body.ev g_number [some x0, some x1, none]).wp (fun _ _ _ => False) (fun d _ => d = x) (fun _ => False) (fun _ => False) (fun _ => .non = x)) : f_number [x0, x1] = .ok x [] := run_eq rfl rfl rfl h
instance {i : Nat} : Kpt g_times i := ⟨rfl⟩
instance : GF g_times 0 f_number [] := ⟨rfl, rfl⟩
theorem st_times {P : D → Prop} (x0 x1 : D) (h : (c_times.body.ev g_times [some x0, some x1]).wp (fun _ _ _ => False) (fun d _ => P d) (fun _ => False) (fun _ => False) (fun _ => P .non)) : ∃ d, f_times [x0, x1] = .ok d [] ∧ P d := run_ex rfl rfl rfl h
theorem se_times {x : D} (x0 x1 : D) (h : (c_times.body.ev g_times [some x0, some x1]).wp (fun _ _ _ => False) (fun d _ => d = x) (fun _ => False) (fun _ => False) (fun _ => .non = x)) : f_times [x0, x1] = .ok x [] := run_eq rfl rfl rfl h
instance {i : Nat} : Kpt g_plus i := ⟨rfl⟩
instance : GF g_plus 0 f_number [] := ⟨rfl, rfl⟩
theorem st_plus {P : D → Prop} (x0 x1 : D) (h : (c_plus.body.ev g_plus [some x0, some x1]).wp (fun _ _ _ => False) (fun d _ => P d) (fun _ => False) (fun _ => False) (fun _ => P .non)) : ∃ d, f_plus [x0, x1] = .ok d [] ∧ P d := run_ex rfl rfl rfl h
theorem se_plus {x : D} (x0 x1 : D) (h : (c_plus.body.ev g_plus [some x0, some x1]).wp (fun _ _ _ => False) (fun d _ => d = x) (fun _ => False) (fun _ => False) (fun _ => .non = x)) : f_plus [x0, x1] = .ok x [] := run_eq rfl rfl rfl h
instance {i : Nat} : Kpt g_compare i := ⟨rfl⟩
theorem st_compare {P : D → Prop} (x0 x1 : D) (h : (c_compare.body.ev g_compare [some x0, some x1, none, none]).wp (fun _ _ _ => False) (fun d _ => P d) (fun _ => False) (fun _ => False) (fun _ => P .non)) : ∃ d, f_compare [x0, x1] = .ok d [] ∧ P d := run_ex rfl rfl rfl h
theorem se_compare {x : D} (x0 x1 : D) (h : (c_compare.body.ev g_compare [some x0, some x1, none, none]).wp (fun _ _ _ => False) (fun d _ => d = x) (fun _ => False) (fun _ => False) (fun _ => .non = x)) : f_compare [x0, x1] = .ok x [] := run_eq rfl rfl rfl h
instance {self : List D → RF} {i : Nat} : Kpt (g_amount_at self) i := ⟨rfl⟩
instance {self : List D → RF} : GF (g_amount_at self) 0 f_named [] := ⟨rfl, rfl⟩
instance {self : List D → RF} : GF (g_amount_at self) 1 f_path_to [] := ⟨rfl, rfl⟩
instance {self : List D → RF} : GF (g_amount_at self) 2 self [] := ⟨rfl, rfl⟩
instance {self : List D → RF} : GF (g_amount_at self) 3 f_times [] := ⟨rfl, rfl⟩
instance {self : List D → RF} : GF (g_amount_at self) 4 f_plus [] := ⟨rfl, rfl⟩
instance {self : List D → RF} : GF (g_amount_at self) 5 f_compare [] := ⟨rfl, rfl⟩
theorem st_amount_at {n : Nat} {P : D → Prop} (x0 x1 x2 : D) (h : (c_amount_at.body.ev (g_amount_at (fr_amount_at n)) [some x0, some x1, some x2, none, none, none]).wp (fun _ _ _ => False) (fun d _ => P d) (fun _ => False) (fun _ => False) (fun _ => P .non)) : ∃ d, fr_amount_at (n + 1) [x0, x1, x2] = .ok d [] ∧ P d := run_ex rfl rfl rfl h
theorem se_amount_at {n : Nat} {x : D} (x0 x1 x2 : D) (h : (c_amount_at.body.ev (g_amount_at (fr_amount_at n)) [some x0, some x1, some x2, none, none, none]).wp (fun _ _ _ => False) (fun d _ => d = x) (fun _ => False) (fun _ => False) (fun _ => .non = x)) : fr_amount_at (n + 1) [x0, x1, x2] = .ok x [] := run_eq rfl rfl rfl h
instance {i : Nat} : Kpt g_law_depth i := ⟨rfl⟩
theorem st_law_depth {P : D → Prop} (x0 x1 : D) (h : (c_law_depth.body.ev g_law_depth [some x0, some x1, none, none]).wp (fun _ _ _ => False) (fun d _ => P d) (fun _ => False) (fun _ => False) (fun _ => P .non)) : ∃ d, f_law_depth [x0, x1] = .ok d [] ∧ P d := run_ex rfl rfl rfl h
theorem se_law_depth {x : D} (x0 x1 : D) (h : (c_law_depth.body.ev g_law_depth [some x0, some x1, none, none]).wp (fun _ _ _ => False) (fun d _ => d = x) (fun _ => False) (fun _ => False) (fun _ => .non = x)) : f_law_depth [x0, x1] = .ok x [] := run_eq rfl rfl rfl h
instance {i : Nat} : Kpt g_law_times i := ⟨rfl⟩
instance : GF g_law_times 0 f_law_lowest [] := ⟨rfl, rfl⟩
theorem st_law_times {P : D → Prop} (x0 x1 : D) (h : (c_law_times.body.ev g_law_times [some x0, some x1]).wp (fun _ _ _ => False) (fun d _ => P d) (fun _ => False) (fun _ => False) (fun _ => P .non)) : ∃ d, f_law_times [x0, x1] = .ok d [] ∧ P d := run_ex rfl rfl rfl h
theorem se_law_times {x : D} (x0 x1 : D) (h : (c_law_times.body.ev g_law_times [some x0, some x1]).wp (fun _ _ _ => False) (fun d _ => d = x) (fun _ => False) (fun _ => False) (fun _ => .non = x)) : f_law_times [x0, x1] = .ok x [] := run_eq rfl rfl rfl h
instance {i : Nat} : Kpt g_law_plus i := ⟨rfl⟩
instance : GF g_law_plus 0 f_law_lowest [] := ⟨rfl, rfl⟩
theorem st_law_plus {P : D → Prop} (x0 x1 : D) (h : (c_law_plus.body.ev g_law_plus [some x0, some x1]).wp (fun _ _ _ => False) (fun d _ => P d) (fun _ => False) (fun _ => False) (fun _ => P .non)) : ∃ d, f_law_plus [x0, x1] = .ok d [] ∧ P d := run_ex rfl rfl rfl h
theorem se_law_plus {x : D} (x0 x1 : D) (h : (c_law_plus.body.ev g_law_plus [some x0, some x1]).wp (fun _ _ _ => False) (fun d _ => d = x) (fun _ => False) (fun _ => False) (fun _ => .non = x)) : f_law_plus [x0, x1] = .ok x [] := run_eq rfl rfl rfl h
instance {i : Nat} : Kpt g_law_less i := ⟨rfl⟩
theorem st_law_less {P : D → Prop} (x0 x1 : D) (h : (c_law_less.body.ev g_law_less [some x0, some x1]).wp (fun _ _ _ => False) (fun d _ => P d) (fun _ => False) (fun _ => False) (fun _ => P .non)) : ∃ d, f_law_less [x0, x1] = .ok d [] ∧ P d := run_ex rfl rfl rfl h
theorem se_law_less {x : D} (x0 x1 : D) (h : (c_law_less.body.ev g_law_less [some x0, some x1]).wp (fun _ _ _ => False) (fun d _ => d = x) (fun _ => False) (fun _ => False) (fun _ => .non = x)) : f_law_less [x0, x1] = .ok x [] := run_eq rfl rfl rfl h
instance {self : List D → RF} {i : Nat} : Kpt (g_law_value self) i := ⟨rfl⟩
instance {self : List D → RF} : GF (g_law_value self) 0 f_law_depth [] := ⟨rfl, rfl⟩
instance {self : List D → RF} : GF (g_law_value self) 1 self [] := ⟨rfl, rfl⟩
instance {self : List D → RF} : GF (g_law_value self) 2 f_law_times [] := ⟨rfl, rfl⟩
instance {self : List D → RF} : GF (g_law_value self) 3 f_law_plus [] := ⟨rfl, rfl⟩
instance {self : List D → RF} : GF (g_law_value self) 4 f_law_less [] := ⟨rfl, rfl⟩
theorem st_law_value {n : Nat} {P : D → Prop} (x0 x1 x2 : D) (h : (c_law_value.body.ev (g_law_value (fr_law_value n)) [some x0, some x1, some x2, none, none, none, none]).wp (fun _ _ _ => False) (fun d _ => P d) (fun _ => False) (fun _ => False) (fun _ => P .non)) : ∃ d, fr_law_value (n + 1) [x0, x1, x2] = .ok d [] ∧ P d := run_ex rfl rfl rfl h
theorem se_law_value {n : Nat} {x : D} (x0 x1 x2 : D) (h : (c_law_value.body.ev (g_law_value (fr_law_value n)) [some x0, some x1, some x2, none, none, none, none]).wp (fun _ _ _ => False) (fun d _ => d = x) (fun _ => False) (fun _ => False) (fun _ => .non = x)) : fr_law_value (n + 1) [x0, x1, x2] = .ok x [] := run_eq rfl rfl rfl h
instance {self : List D → RF} {i : Nat} : Kpt (g_law_same self) i := ⟨rfl⟩
instance {self : List D → RF} : GF (g_law_same self) 0 self [] := ⟨rfl, rfl⟩
theorem st_law_same {n : Nat} {P : D → Prop} (x0 x1 : D) (h : (c_law_same.body.ev (g_law_same (fr_law_same n)) [some x0, some x1, none]).wp (fun _ _ _ => False) (fun d _ => P d) (fun _ => False) (fun _ => False) (fun _ => P .non)) : ∃ d, fr_law_same (n + 1) [x0, x1] = .ok d [] ∧ P d := run_ex rfl rfl rfl h
theorem se_law_same {n : Nat} {x : D} (x0 x1 : D) (h : (c_law_same.body.ev (g_law_same (fr_law_same n)) [some x0, some x1, none]).wp (fun _ _ _ => False) (fun d _ => d = x) (fun _ => False) (fun _ => False) (fun _ => .non = x)) : fr_law_same (n + 1) [x0, x1] = .ok x [] := run_eq rfl rfl rfl h
instance {i : Nat} : Kpt g_children i := ⟨rfl⟩
theorem st_children {P : D → Prop} (x0 x1 : D) (h : (c_children.body.ev g_children [some x0, some x1, none]).wp (fun _ _ _ => False) (fun d _ => P d) (fun _ => False) (fun _ => False) (fun _ => P .non)) : ∃ d, f_children [x0, x1] = .ok d [] ∧ P d := run_ex rfl rfl rfl h
theorem se_children {x : D} (x0 x1 : D) (h : (c_children.body.ev g_children [some x0, some x1, none]).wp (fun _ _ _ => False) (fun d _ => d = x) (fun _ => False) (fun _ => False) (fun _ => .non = x)) : f_children [x0, x1] = .ok x [] := run_eq rfl rfl rfl h
instance {i : Nat} : Kpt g_agrees i := ⟨rfl⟩
theorem st_agrees {P : D → Prop} (x0 x1 : D) (h : (c_agrees.body.ev g_agrees [some x0, some x1]).wp (fun _ _ _ => False) (fun d _ => P d) (fun _ => False) (fun _ => False) (fun _ => P .non)) : ∃ d, f_agrees [x0, x1] = .ok d [] ∧ P d := run_ex rfl rfl rfl h
theorem se_agrees {x : D} (x0 x1 : D) (h : (c_agrees.body.ev g_agrees [some x0, some x1]).wp (fun _ _ _ => False) (fun d _ => d = x) (fun _ => False) (fun _ => False) (fun _ => .non = x)) : f_agrees [x0, x1] = .ok x [] := run_eq rfl rfl rfl h
instance {self : List D → RF} {i : Nat} : Kpt (g_holds_at self) i := ⟨rfl⟩
instance {self : List D → RF} : GF (g_holds_at self) 0 f_children [] := ⟨rfl, rfl⟩
instance {self : List D → RF} : GF (g_holds_at self) 1 f_amount_at [] := ⟨rfl, rfl⟩
instance {self : List D → RF} : GF (g_holds_at self) 2 f_compare [] := ⟨rfl, rfl⟩
instance {self : List D → RF} : GF (g_holds_at self) 3 f_agrees [] := ⟨rfl, rfl⟩
instance {self : List D → RF} : GF (g_holds_at self) 4 self [] := ⟨rfl, rfl⟩
theorem st_holds_at {n : Nat} {P : D → Prop} (x0 x1 x2 : D) (h : (c_holds_at.body.ev (g_holds_at (fr_holds_at n)) [some x0, some x1, some x2, none, none, none]).wp (fun _ _ _ => False) (fun d _ => P d) (fun _ => False) (fun _ => False) (fun _ => P .non)) : ∃ d, fr_holds_at (n + 1) [x0, x1, x2] = .ok d [] ∧ P d := run_ex rfl rfl rfl h
theorem se_holds_at {n : Nat} {x : D} (x0 x1 x2 : D) (h : (c_holds_at.body.ev (g_holds_at (fr_holds_at n)) [some x0, some x1, some x2, none, none, none]).wp (fun _ _ _ => False) (fun d _ => d = x) (fun _ => False) (fun _ => False) (fun _ => .non = x)) : fr_holds_at (n + 1) [x0, x1, x2] = .ok x [] := run_eq rfl rfl rfl h
instance {self : List D → RF} {i : Nat} : Kpt (g_law_holds self) i := ⟨rfl⟩
instance {self : List D → RF} : GF (g_law_holds self) 0 f_law_value [] := ⟨rfl, rfl⟩
instance {self : List D → RF} : GF (g_law_holds self) 1 f_law_less [] := ⟨rfl, rfl⟩
instance {self : List D → RF} : GF (g_law_holds self) 2 self [] := ⟨rfl, rfl⟩
theorem st_law_holds {n : Nat} {P : D → Prop} (x0 x1 x2 : D) (h : (c_law_holds.body.ev (g_law_holds (fr_law_holds n)) [some x0, some x1, some x2, none, none, none, none, none, none, none, none]).wp (fun _ _ _ => False) (fun d _ => P d) (fun _ => False) (fun _ => False) (fun _ => P .non)) : ∃ d, fr_law_holds (n + 1) [x0, x1, x2] = .ok d [] ∧ P d := run_ex rfl rfl rfl h
theorem se_law_holds {n : Nat} {x : D} (x0 x1 x2 : D) (h : (c_law_holds.body.ev (g_law_holds (fr_law_holds n)) [some x0, some x1, some x2, none, none, none, none, none, none, none, none]).wp (fun _ _ _ => False) (fun d _ => d = x) (fun _ => False) (fun _ => False) (fun _ => .non = x)) : fr_law_holds (n + 1) [x0, x1, x2] = .ok x [] := run_eq rfl rfl rfl h
instance {i : Nat} : Kpt g_law i := ⟨rfl⟩
instance : GF g_law 0 f_law_draws [] := ⟨rfl, rfl⟩
instance : GF g_law 1 f_law_names [] := ⟨rfl, rfl⟩
instance : GF g_law 2 f_law_market [] := ⟨rfl, rfl⟩
instance : GF g_law 3 f_law_amount [1] := ⟨rfl, rfl⟩
instance : GF g_law 4 f_law_condition [1] := ⟨rfl, rfl⟩
instance : GF g_law 5 f_amount_at [] := ⟨rfl, rfl⟩
instance : GF g_law 6 f_law_value [] := ⟨rfl, rfl⟩
instance : GF g_law 7 f_law_same [] := ⟨rfl, rfl⟩
instance : GF g_law 8 f_holds_at [] := ⟨rfl, rfl⟩
instance : GF g_law 9 f_law_holds [] := ⟨rfl, rfl⟩
theorem st_law {P : D → Prop} (x0 : D) (h : (c_law.body.ev g_law [some x0, none, none, none, none, none, none, none, none, none]).wp (fun _ _ _ => False) (fun d _ => P d) (fun _ => False) (fun _ => False) (fun _ => P .non)) : ∃ d, f_law [x0] = .ok d [] ∧ P d := run_ex rfl rfl rfl h
theorem se_law {x : D} (x0 : D) (h : (c_law.body.ev g_law [some x0, none, none, none, none, none, none, none, none, none]).wp (fun _ _ _ => False) (fun d _ => d = x) (fun _ => False) (fun _ => False) (fun _ => .non = x)) : f_law [x0] = .ok x [] := run_eq rfl rfl rfl h
theorem e_law_draws (ns : List Int) (n : Int) (hl : ns.length ≤ 63) (h0 : 0 ≤ n) (hn : n ≤ 10000) : ∃ d, f_law_draws [.lst .frz (ns.map D.int), .int n] = .ok d [] ∧ ∃ ms : List Int, d = .lst .frz (ms.map D.int) ∧ ms.length = n ∧ ∀ z ∈ ms, 0 ≤ z ∧ z < 1000 := by
  have hz : (63 : Nat) ≤ sizeLine := by decide
  have hz2 : (10001 : Nat) ≤ sizeLine := by decide
  refine st_law_draws _ _ ?_
  refine w_seq (w_asg (by simp; omega) ?_)
  refine w_seq (w_asg (by simp; decide) ?_)
  refine w_cut (fun ρ => ∃ (rs ms : List Int), ρ = [some (.lst .frz (ns.map D.int)), some (.int n), some (.lst .own (rs.map D.int)), some (.lst .own (ms.map D.int)), ρ.getD 4 none, none, none, none, none] ∧ ms.length = n ∧ ∀ z ∈ ms, 0 ≤ z ∧ z < 1000) ?_ ?_
  · refine w_forr (by simp [rngOk]; omega) (fun k ρ => ∃ (rs ms : List Int), ρ = [some (.lst .frz (ns.map D.int)), some (.int n), some (.lst .own (rs.map D.int)), some (.lst .own (ms.map D.int)), none, none, none, none, none] ∧ rs.length = ns.length ∧ ms.length = k ∧ ∀ z ∈ ms, 0 ≤ z ∧ z < 1000) h0 ⟨ns, [], rfl, rfl, rfl, by simp⟩ ?_ ?_
    · rintro ρ ⟨rs, ms, rfl, _, h2, h3⟩
      exact ⟨rs, ms, rfl, h2, h3⟩
    · rintro k ρ hk0 hk1 ⟨rs, ms, rfl, h1, h2, h3⟩
      refine w_st ?_
      refine w_seq (w_asg (by simp) ?_)
      refine w_cut (fun ρ => ∃ (rs : List Int) (v : Int), ρ = [some (.lst .frz (ns.map D.int)), some (.int n), some (.lst .own (rs.map D.int)), some (.lst .own (ms.map D.int)), some (.int k), some (.int v), none, none, none] ∧ rs.length = ns.length ∧ 0 ≤ v ∧ v < 1000) ?_ ?_
      · refine w_ifD (by simp) (fun h => ?_) (fun h => w_nil ⟨rs, 0, rfl, h1, by omega, by omega⟩)
        refine w_seq (w_asgI (by simp; omega) fun at' hat => ?_)
        have ha0 : 0 ≤ at' ∧ at' < rs.length := by rw [hat]; exact ⟨Int.emod_nonneg _ (by omega), Int.emod_lt_of_pos _ h⟩
        refine w_cut (fun ρ => ∃ (rs : List Int) (v : Int), ρ = [some (.lst .frz (ns.map D.int)), some (.int n), some (.lst .own (rs.map D.int)), some (.lst .own (ms.map D.int)), some (.int k), some (.int v), none, some (.int at'), none] ∧ rs.length = ns.length ∧ 0 ≤ v ∧ v < 1000) ?_ ?_
        · refine w_ifD (by simp; omega) (fun h5 => ?_) (fun h5 => ?_)
          · refine w_seq (w_asgI (by simp; omega) fun v hv => ?_)
            refine w_end (w_set (by simp; omega) (by simp) ?_ ?_)
            · simpa using ha0
            · exact ⟨_, v, rfl, by simpa using h1, by omega, by omega⟩
          · refine w_seq (w_asgI (by simp [mulOk]; omega) fun m hm => ?_)
            refine w_seq (w_asgI (by simp [mulOk]) fun m2 hm2 => ?_)
            refine w_seq (w_asgI (by simp) fun v hv => ?_)
            refine w_end (w_wip ?_)
            exact ⟨rs, v, rfl, h1, by omega, by omega⟩
        · rintro ρ ⟨rs, v, rfl, h1, hv0, hv1⟩
          exact w_end (w_wip ⟨rs, v, rfl, h1, hv0, hv1⟩)
      · rintro ρ ⟨rs, v, rfl, h1, hv0, hv1⟩
        refine w_seq (w_exp (by simp; omega) ?_)
        refine w_end (w_wip ?_)
        refine ⟨rs, ms ++ [v], rfl, h1, by simp; omega, ?_⟩
        intro z hz
        rcases List.mem_append.mp hz with hz | hz
        · exact h3 z hz
        · have : z = v := by simpa using hz
          omega
  · rintro ρ ⟨rs, ms, e, h2, h3⟩
    rw [e]
    exact w_seq (w_wip (w_end (w_ret (by simp) ⟨ms, rfl, h2, h3⟩)))
/-- what is drawn from a script -/
noncomputable def drawsL (ns : List Int) (n : Int) : List Int := open Classical in if h : ns.length ≤ 63 ∧ 0 ≤ n ∧ n ≤ 10000 then Classical.choose (Classical.choose_spec (e_law_draws ns n h.1 h.2.1 h.2.2)).2 else []
theorem drawsL_spec (ns : List Int) (n : Int) (h : ns.length ≤ 63 ∧ 0 ≤ n ∧ n ≤ 10000) : f_law_draws [.lst .frz (ns.map D.int), .int n] = .ok (.lst .frz ((drawsL ns n).map D.int)) [] ∧ (drawsL ns n).length = n ∧ ∀ z ∈ drawsL ns n, 0 ≤ z ∧ z < 1000 := by
  have s1 := Classical.choose_spec (e_law_draws ns n h.1 h.2.1 h.2.2)
  have s2 := Classical.choose_spec s1.2
  unfold drawsL
  rw [dif_pos h]
  exact ⟨s1.1.trans (congrArg (fun d => RF.ok d []) s2.1), s2.2⟩
instance {ns : List Int} {n : Int} : Sp f_law_draws [.lst .frz (ns.map D.int), .int n] (ns.length ≤ 63 ∧ 0 ≤ n ∧ n ≤ 10000) (.lst .frz ((drawsL ns n).map D.int)) [] := ⟨fun h => (drawsL_spec ns n h).1⟩
theorem e_law_names (a b : Int) (ha : 0 ≤ a ∧ a < 1000000) (hb : 0 ≤ b ∧ b < 1000000) : ∃ d, f_law_names [.int a, .int b, .int 8] = .ok d [] ∧ ∃ ss : List Str, d = .lst .frz (ss.map D.str) ∧ ss.length = 8 ∧ ∀ x ∈ ss, SB x 25 := by
  have hz := szl
  refine st_law_names _ _ _ ?_
  refine w_seq (w_asgS (by simp) fun sg hsg => ?_)
  have sg1 : SB sg 26 := ⟨by rw [hsg]; decide +kernel, by rw [hsg]; decide +kernel⟩
  have sg2 : (sg.length : Int) = 26 := by rw [hsg]; decide +kernel
  refine w_seq (w_ifD (by simp) (fun _ => ?_) (fun _ => w_nil ?_))
  · refine w_end (w_ret ?_ ⟨_, congrArg (D.lst .frz) ML.h, ?_, ?_⟩)
    · simp [mulOk, rngOk, hz]
      and_intros <;> first | omega | (intro i hi; and_intros <;> first | omega | exact sg1.len (by decide))
    · simp
    · intro x hx
      obtain ⟨i, _, rfl⟩ := List.mem_map.mp hx
      exact (sg1.at _).mono (by decide)
  refine w_seq (w_asgS (by simp [szOk, szl]; rw [hsg]; decide +kernel) fun sh hsh => ?_)
  have sh1 : SB sh 36 := ⟨by rw [hsh, hsg]; decide +kernel, by rw [hsh, hsg]; decide +kernel⟩
  have sh2 : (sh.length : Int) = 36 := by rw [hsh, hsg]; decide +kernel
  clear hsh hsg
  refine w_seq (w_asgI (by simp) fun size hsize => ?_)
  refine w_cut (fun ρ => ∃ k : Int, ρ = [some (.int a), some (.int b), some (.int 8), some (.str sg), some (.str sh), some (.int k), none, none, none] ∧ 0 ≤ k ∧ k ≤ 11) ?_ ?_
  · exact w_ifD (by simp) (fun _ => w_end (w_asg (by simp) ⟨_, rfl, by omega, by omega⟩)) (fun _ => w_nil ⟨_, rfl, by omega, by omega⟩)
  rintro ρ ⟨k, rfl, hk0, hk1⟩
  refine w_seq (w_asgS ?_ fun tx htx => ?_)
  · have j1 : ∀ f : Nat → Int, (Txt.join (Str.ofString "") (List.map (fun i : Nat => atS sh (f i)) (List.range k.toNat))).length ≤ 11 := fun f => by
      have := (SB.join (n := 1) (xs := List.map (fun i : Nat => atS sh (f i)) (List.range k.toNat)) fun x hx => by
        obtain ⟨i, _, rfl⟩ := List.mem_map.mp hx
        exact sh1.at _).l
      rw [List.length_map, List.length_range] at this
      exact Nat.le_trans this (by omega)
    have j2 : ∀ f : Nat → Int, (List.map ((fun x : Str => x.length) ∘ fun i : Nat => atS sh (f i)) (List.range k.toNat)).sum ≤ 11 := fun f => by
      have e : ((fun x : Str => x.length) ∘ fun i : Nat => atS sh (f i)) = fun _ => 1 := rfl
      rw [e]
      have : ∀ n : Nat, (List.map (fun _ : Nat => 1) (List.range n)).sum = n := fun n => by
        induction n with
        | zero => rfl
        | succ n ih => rw [List.range_succ, List.map_append, List.sum_append, ih]; rfl
      rw [this]
      omega
    have j3 : (Str.ofString "").length = 0 := by decide +kernel
    have j4 := j1 fun i => (a + 7 * (i : Int)) % 36
    have j5 := j2 fun i => (a + 7 * (i : Int)) % 36
    simp [mulOk, rngOk, szOk, szl, j3]
    refine ⟨by omega, ⟨⟨by omega, by omega, fun i hi => by omega⟩, by omega⟩, by omega⟩
  have tx1 : SB tx 12 := by
    rw [htx]
    have h1 := (sg1.at (b % 26)).append (SB.join (n := 1) (xs := List.map (fun i : Nat => atS sh ((a + 7 * (0 + (i : Int))) % 36)) (List.range (k - 0).toNat)) fun x hx => by
      obtain ⟨i, _, rfl⟩ := List.mem_map.mp hx
      exact sh1.at _)
    exact h1.mono (by simp; omega)
  clear htx
  refine w_seq (w_asgI (by simp; omega) fun place hplace => ?_)
  refine w_end (w_ret ?_ ⟨_, congrArg (D.lst .frz) ML.h, ?_, ?_⟩)
  · have t1 := (tx1.cut none (some place)).l
    have t2 := (tx1.cut (some place) none).l
    have t3 := tx1.l
    have t4 := sh1.l
    simp [mulOk, rngOk, szOk, szl, Str.length_append]
    intro i hi
    omega
  · simp
  · intro x hx
    obtain ⟨i, _, rfl⟩ := List.mem_map.mp hx
    exact (((tx1.cut _ _).append (sh1.at _)).append (tx1.cut _ _)).mono (m := 25) (by decide)
theorem e_law_lowest (n d : Int) (h0 : 1 ≤ d) (hb : Bt 1999 d) : f_law_lowest [.int n, .int d] = .ok (qD (Rat.divInt n d)) [] := by
  rw [← numQ (show d ≠ 0 by omega)]
  have hg := gcd_le (n := n) (d := d) (by omega)
  have hE : euc 4000 n.natAbs d.natAbs = Nat.gcd n.natAbs d.natAbs := euc_all hb.h
  have hG : 0 < ((Nat.gcd n.natAbs d.natAbs : Nat) : Int) ∧ (((Nat.gcd n.natAbs d.natAbs : Nat) : Int) < 1606938044258990275541962092341162602522202993782792835301376 ∨ Bt 8000 ((Nat.gcd n.natAbs d.natAbs : Nat) : Int)) := ⟨by omega, .inr ((hb.mono (by decide)).le (by omega))⟩
  refine se_law_lowest _ _ ?_
  refine w_seq (w_par (by simp) (by simp) ?_)
  refine w_cut (fun ρ => ρ = [some (.int n), some (.int d), none, some (.int (n.natAbs : Int)), some (.int (d.natAbs : Int))]) ?_ ?_
  · refine w_ifD (by simp) (fun h => w_end (w_asg (by simp) ?_)) (fun h => w_nil ?_)
    · rw [show (-n : Int) = (n.natAbs : Int) by omega, show (d.natAbs : Int) = d by omega]
    · rw [show (n.natAbs : Int) = n by omega, show (d.natAbs : Int) = d by omega]
  rintro ρ rfl
  refine w_cut (fun ρ => ∃ t2 t4, ρ = [some (.int n), some (.int d), t2, some (.int (Nat.gcd n.natAbs d.natAbs : Nat)), t4]) ?_ ?_
  · refine w_forr (i := 0) (by simp; decide) (fun k ρ => ∃ (x y : Nat), ρ = [some (.int n), some (.int d), none, some (.int x), some (.int y)] ∧ euc (4000 - k).toNat x y = euc 4000 n.natAbs d.natAbs) (by decide) ⟨_, _, rfl, rfl⟩ ?_ ?_
    · rintro ρ ⟨x, y, rfl, e⟩
      refine ⟨none, some (.int y), ?_⟩
      rw [← hE, ← e]; rfl
    · rintro k ρ h0 h1 ⟨x, y, rfl, e⟩
      have hk : (4000 - k).toNat = (4000 - (k + 1)).toNat + 1 := by omega
      rw [hk, euc] at e
      refine w_st ?_
      refine w_seq (w_ifD (by simp) (fun h => w_seq (w_wip (w_end (w_brk ?_)))) (fun h => w_nil ?_))
      · rw [if_pos (by omega)] at e
        exact ⟨none, none, by rw [← hE, ← e]⟩
      · refine w_seq (w_par (by simp) (by simp; omega) ?_)
        refine w_end (w_wip ?_)
        rw [if_neg (by omega)] at e
        exact ⟨y, x % y, rfl, e⟩
  · rintro ρ ⟨t2, t4, rfl⟩
    refine w_seq (w_wip ?_)
    refine w_end (w_ret ?_ ?_)
    · simp [szOk, szl]
      and_intros <;> first | omega | exact hG.2
    · simp only [numN, numD]
      rw [if_neg (by omega), if_neg (by omega)]
instance {n d : Int} : Sp f_law_lowest [.int n, .int d] (1 ≤ d ∧ Bt 1999 d) (qD (Rat.divInt n d)) [] := ⟨fun h => e_law_lowest n d h.1 h.2⟩
instance : QN 1 999999999999 (Rat.divInt 1 999999999999) := ⟨by decide +kernel, by decide +kernel⟩
instance : QN (-7) 999999999998 (Rat.divInt (-7) 999999999998) := ⟨by decide +kernel, by decide +kernel⟩
theorem e_law_number (a b : Int) : ∃ d, f_law_number [.int a, .int b] = .ok d [] ∧ ∃ q : Rat, d = qD q ∧ Qb q 40 := by
  refine st_law_number _ _ ?_
  refine w_seq (w_ifD (by simp) (fun _ => ?_) (fun _ => w_nil ?_))
  · refine w_end (w_ret ?_ ⟨_, rfl, ?_⟩)
    · simp [szOk, szl]
      omega
    · refine atE_all (P := fun q => Qb q 40) ?_ ⟨Int.emod_nonneg _ (by decide), Int.emod_lt_of_pos _ (by decide)⟩
      intro q hq
      simp only [List.mem_cons, List.not_mem_nil, or_false] at hq
      rcases hq with rfl | rfl | rfl | rfl <;> exact ⟨by decide +kernel⟩
  · have hbt : Bt 1999 (1 + b % 6) := ⟨Nat.lt_of_lt_of_le (show (1 + b % 6).natAbs < 2 ^ 20 by omega) (Nat.pow_le_pow_right (by decide) (by decide))⟩
    refine w_end (w_ret ?_ ⟨_, rfl, Qb.mono (n := 20) (Qb.of (by omega) (by omega) (by omega)) (by decide)⟩)
    simp
    exact ⟨by omega, hbt⟩
noncomputable def numV (a b : Int) : Rat := Classical.choose (Classical.choose_spec (e_law_number a b)).2
theorem numV_spec (a b : Int) : f_law_number [.int a, .int b] = .ok (qD (numV a b)) [] ∧ Qb (numV a b) 40 := by
  have s1 := Classical.choose_spec (e_law_number a b)
  have s2 := Classical.choose_spec s1.2
  exact ⟨s1.1.trans (congrArg (fun d => RF.ok d []) s2.1), s2.2⟩
instance {a b : Int} : Sp f_law_number [.int a, .int b] True (qD (numV a b)) [] := ⟨fun _ => (numV_spec a b).1⟩
theorem e_law_market (ms : List Int) (ss : List Str) (hl : ms.length = 130) (h8 : ss.length = 8) (hs : ∀ x ∈ ss, SB x 25) : ∃ d, f_law_market [.lst .frz (ms.map D.int), .lst .frz (ss.map D.str)] = .ok d [] ∧ ∃ m : Mk, d = mkD m ∧ MwOk m 13 := by
  have hz := szl
  refine st_law_market _ _ ?_
  refine w_seq (w_asgL D.str (by simp [szOk, szl]; omega) fun as has => ?_)
  have h1 : 1 ≤ atE ([1, 2, 1, 2, 3, 4] : List Int) (atZ ms 0 % 6) ∧ atE ([1, 2, 1, 2, 3, 4] : List Int) (atZ ms 0 % 6) ≤ (4 : Int) := atE_all (P := fun v : Int => 1 ≤ v ∧ v ≤ 4) (by decide) (by simp; omega)
  have ha : 1 ≤ as.length ∧ as.length ≤ 4 ∧ ∀ x ∈ as, SB x 25 := by
    obtain ⟨n, hn⟩ := Int.eq_ofNat_of_zero_le (show 0 ≤ atE ([1, 2, 1, 2, 3, 4] : List Int) (atZ ms 0 % 6) by omega)
    rw [hn] at has
    subst has
    have := cut_len0 ss n (by omega)
    exact ⟨by omega, by omega, fun x hx => hs x (cutA_mem hx)⟩
  clear has h1
  have h2 : 0 ≤ atE ([0, 1, 2, 0, 3, 4] : List Int) (atZ ms 1 % 6) ∧ atE ([0, 1, 2, 0, 3, 4] : List Int) (atZ ms 1 % 6) ≤ (4 : Int) := atE_all (P := fun v : Int => 0 ≤ v ∧ v ≤ 4) (by decide) (by simp; omega)
  refine w_seq (w_asgL D.str (by simp [szOk, szl]; omega) fun sn hsn => ?_)
  have hn : sn.length ≤ 4 ∧ ∀ x ∈ sn, SB x 25 := by
    subst hsn
    have := cut_lenZ ss 4 (4 + atE ([0, 1, 2, 0, 3, 4] : List Int) (atZ ms 1 % 6)) (by omega) (by omega) (by omega)
    exact ⟨by omega, fun x hx => hs x (cutA_mem hx)⟩
  clear hsn h2
  refine w_seq (w_asgI (by simp; omega) fun mn hmn => ?_)
  refine w_cut (fun ρ => ∃ mn : Int, ρ = [some (.lst .frz (ms.map D.int)), some (.lst .frz (ss.map D.str)), some (.lst .frz (as.map D.str)), some (.lst .frz (sn.map D.str)), some (.int mn), none, none, none, none, none, none, none, none, none, none] ∧ 1 ≤ mn ∧ mn ≤ 13) ?_ ?_
  · exact w_ifD (by simp; omega) (fun _ => w_end (w_asg (by simp) ⟨_, rfl, by omega, by omega⟩)) (fun _ => w_nil ⟨_, rfl, by omega, by omega⟩)
  clear hmn mn
  rintro ρ ⟨mn, rfl, hm1, hm2⟩
  refine w_seq (w_asg (by simp [szOk, szl]) ?_)
  refine w_cut (fun ρ => ∃ nd : List Nd, ρ = [some (.lst .frz (ms.map D.int)), some (.lst .frz (ss.map D.str)), some (.lst .frz (as.map D.str)), some (.lst .frz (sn.map D.str)), some (.int mn), some (.lst .own (nd.map ndD)), ρ.getD 6 none, none, none, none, none, none, none, none, none] ∧ 1 ≤ nd.length ∧ nd.length ≤ mn ∧ ∀ (i : Nat) (v : Nd), nd[i]? = some v → NwOk as.length sn.length i v) ?_ ?_
  · refine w_forr (i := 0) (by simp [rngOk]; omega) (fun k ρ => ∃ nd : List Nd, ρ = [some (.lst .frz (ms.map D.int)), some (.lst .frz (ss.map D.str)), some (.lst .frz (as.map D.str)), some (.lst .frz (sn.map D.str)), some (.int mn), some (.lst .own (nd.map ndD)), none, none, none, none, none, none, none, none, none] ∧ nd.length = k ∧ ∀ (i : Nat) (v : Nd), nd[i]? = some v → NwOk as.length sn.length i v) (by omega) ⟨[], rfl, rfl, by simp⟩ ?_ ?_
    · rintro ρ ⟨nd, rfl, hd, hf⟩
      exact ⟨nd, rfl, by omega, by omega, hf⟩
    · rintro k ρ hk0 hk1 ⟨nd, rfl, hd, hf⟩
      refine w_st ?_
      refine w_seq (w_asgL D.int ?_ fun hh hhh => ?_)
      · simp [rngOk, mulOk, szOk, szl]
        intro i hi
        refine ⟨by omega, Int.emod_nonneg _ (by omega), Int.emod_lt_of_pos _ (by omega)⟩
      have hhl : hh.length = 31 := by rw [hhh]; simp
      clear hhh
      refine w_seq (w_asg (by simp) ?_)
      refine w_cut (fun ρ => ∃ p : Int, ρ = [some (.lst .frz (ms.map D.int)), some (.lst .frz (ss.map D.str)), some (.lst .frz (as.map D.str)), some (.lst .frz (sn.map D.str)), some (.int mn), some (.lst .own (nd.map ndD)), some (.int k), some (.lst .frz (hh.map D.int)), some (.int p), none, none, none, none, none, none] ∧ -1 ≤ p ∧ p < k ∧ (k ≠ 0 → 0 ≤ p)) ?_ ?_
      · refine w_ifD (P := 0 < k) (by simp) (fun g => w_end (w_asg (by simp; exact ⟨by omega, g⟩) ⟨_, rfl, ?_⟩)) (fun g => w_nil ⟨_, rfl, by omega, by omega, fun h => by omega⟩)
        have e1 := Int.emod_nonneg (atZ hh 0) (show k ≠ 0 by omega)
        have e2 := Int.emod_lt_of_pos (atZ hh 0) g
        exact ⟨by omega, by omega, fun _ => by omega⟩
      rintro ρ ⟨p, rfl, p1, p2, p3⟩
      refine w_cut (fun ρ => ∃ p : Int, ρ = [some (.lst .frz (ms.map D.int)), some (.lst .frz (ss.map D.str)), some (.lst .frz (as.map D.str)), some (.lst .frz (sn.map D.str)), some (.int mn), some (.lst .own (nd.map ndD)), some (.int k), some (.lst .frz (hh.map D.int)), some (.int p), none, none, none, none, none, none] ∧ -1 ≤ p ∧ p < k ∧ (k ≠ 0 → 0 ≤ p)) ?_ ?_
      · exact w_if_con (w_ifD (P := 1 < k) (by simp) (fun g => w_end (w_if_con1 (w_ifD (P := mn = 13) (by simp) (fun _ => w_end (w_asg (by simp; omega) ⟨_, rfl, by have : 1 < k := g; omega, by have : 1 < k := g; omega, fun _ => by have : 1 < k := g; omega⟩)) (fun _ => w_nil ⟨_, rfl, p1, p2, p3⟩)))) (fun _ => w_nil ⟨_, rfl, p1, p2, p3⟩))
      clear p1 p2 p3 p
      rintro ρ ⟨p, rfl, p1, p2, p3⟩
      have q1 : Bt 1999 (1 + atZ hh 2 % 4) := ⟨Nat.lt_of_lt_of_le (show (1 + atZ hh 2 % 4).natAbs < 2 ^ 20 by omega) (Nat.pow_le_pow_right (by decide) (by decide))⟩
      refine w_seq (w_asgQ (by simp; exact ⟨by omega, by omega, q1⟩) fun gr hgr => ?_)
      have gr1 : Qb gr 40 := by rw [hgr]; exact Qb.mono (n := 20) (Qb.of (by omega) (by omega) (by omega)) (by decide)
      clear hgr
      refine w_seq (w_asgL D.str ?_ fun rules hr => ?_)
      · simp [rngOk, mulOk, szOk, szl]
        exact ⟨by omega, by omega, fun a ha => by omega⟩
      have hr1 : rules.length = as.length := by rw [hr]; simp
      have hr2 : ∀ x ∈ rules, SB x 10 := by
        rw [hr]
        intro x hx
        obtain ⟨i, hi, rfl⟩ := List.mem_map.mp hx
        refine atE_all (P := fun x => SB x 10) ?_ ⟨Int.emod_nonneg _ (by decide), Int.emod_lt_of_pos _ (by decide)⟩
        intro x hx
        simp only [List.mem_cons, List.not_mem_nil, or_false] at hx
        rcases hx with rfl | rfl | rfl | rfl <;> exact ⟨by decide +kernel, by decide +kernel⟩
      clear hr
      refine w_seq (w_asgL qD ?_ fun pr hpr => ?_)
      · simp [rngOk, mulOk, szOk, szl]
        exact ⟨by omega, by omega, fun a ha => by omega⟩
      have pr1 : pr.length = as.length := by rw [hpr]; simp
      have pr2 : QbL pr 40 := ⟨by
        rw [hpr]
        intro q hq
        obtain ⟨i, _, rfl⟩ := List.mem_map.mp hq
        exact (numV_spec _ _).2.h⟩
      clear hpr
      refine w_seq (w_asgL qD ?_ fun pay hpay => ?_)
      · simp [rngOk, mulOk, szOk, szl]
        exact ⟨by omega, by omega, fun a ha => by omega⟩
      have pay1 : pay.length = as.length := by rw [hpay]; simp
      have pay2 : QbL pay 40 := ⟨by
        rw [hpay]
        intro q hq
        obtain ⟨i, _, rfl⟩ := List.mem_map.mp hq
        exact (numV_spec _ _).2.h⟩
      clear hpay
      refine w_seq (w_asgL qD ?_ fun val hval => ?_)
      · simp [rngOk, mulOk, szOk, szl]
        exact ⟨by omega, by omega, fun a ha => by omega⟩
      have val1 : val.length = sn.length := by rw [hval]; simp
      have val2 : QbL val 40 := ⟨by
        rw [hval]
        intro q hq
        obtain ⟨i, _, rfl⟩ := List.mem_map.mp hq
        exact (numV_spec _ _).2.h⟩
      clear hval
      refine w_seq (w_exp ?_ ?_)
      · simp [rngOk, mulOk, szOk, szl]
        omega
      refine w_end (w_wip ⟨nd ++ [⟨p, gr, rules, pr, pay, val⟩], by simp [ndD], by simp; omega, ?_⟩)
      intro i w hw
      rw [List.getElem?_append] at hw
      split at hw
      · exact hf i w hw
      · have hi : i = nd.length := by
          rcases Nat.lt_or_ge (i - nd.length) 1 with g | g
          · omega
          · rw [List.getElem?_eq_none (by simpa using g)] at hw; cases hw
        subst hi
        simp at hw
        rw [← hw]
        exact ⟨⟨p1, by simpa [hd] using p2⟩, fun h => p3 (by omega), gr1, ⟨hr1, hr2⟩, ⟨pr1, pr2⟩, ⟨pay1, pay2⟩, ⟨val1, val2⟩⟩
  · rintro ρ ⟨nd, e, hd1, hd2, hf⟩
    rw [e]
    refine w_seq (w_wip ?_)
    refine w_end (w_ret ?_ ?_)
    · simp [szOk, szl]
    · exact ⟨⟨as, sn, nd⟩, rfl, ha, hn, ⟨hd1, by simp only; omega⟩, hf⟩
theorem e_law_take (rs : List Int) : ∃ d o, f_law_take [.lst .own (rs.map D.int)] = .ok d o ∧ ∃ (v : Int) (rs' : List Int), d = .int v ∧ o = [.lst .own (rs'.map D.int)] := by
  refine sk_law_take _ ?_
  refine w_seq (w_ifD (P := (rs.length : Int) = 0) (by simp) (fun _ => w_end (w_ret (by simp) ⟨_, rfl, 0, rs, rfl, rfl⟩)) (fun h => w_nil ?_))
  exact w_end (w_ret (by simp; omega) ⟨_, rfl, _, _, rfl, rfl⟩)
noncomputable def takV (rs : List Int) : Int := Classical.choose (Classical.choose_spec (Classical.choose_spec (e_law_take rs))).2
noncomputable def takS (rs : List Int) : List Int := Classical.choose (Classical.choose_spec (Classical.choose_spec (Classical.choose_spec (e_law_take rs))).2)
instance {rs : List Int} : Sp f_law_take [.lst .own (rs.map D.int)] True (.int (takV rs)) [.lst .own ((takS rs).map D.int)] := ⟨fun _ => by
  have s1 := Classical.choose_spec (Classical.choose_spec (e_law_take rs))
  have s2 := Classical.choose_spec (Classical.choose_spec s1.2)
  exact s1.1.trans ((congrArg (fun d => RF.ok d _) s2.1).trans (congrArg (RF.ok _) s2.2))⟩
theorem e_law_amount (m : Mk) (hm : MwOk m 13) : ∀ (lv n : Nat) (rs : List Int), lv < n → lv ≤ 10 → ∃ d o, fr_law_amount n [mkD m, .lst .own (rs.map D.int), .int lv] = .ok d o ∧ ∃ (a : Am) (rs' : List Int), d = amD a ∧ o = [.lst .own (rs'.map D.int)] ∧ AmW m lv a
  | lv, 0, _, h, _ => absurd h (by omega)
  | lv, n + 1, rs, h, hlv => by
    have hz := szl
    have hml : 1 ≤ m.as.length ∧ m.as.length ≤ 4 ∧ m.seen.length ≤ 4 := ⟨hm.as.1, hm.as.2.1, hm.seen.1⟩
    refine sk_law_amount _ _ _ ?_
    refine w_seq (w_asgI (by simp) fun dr hdr => ?_)
    clear hdr
    generalize takS rs = r1
    refine w_seq (w_asgI (by simp) fun mo hmo => ?_)
    clear hmo
    generalize takS r1 = r2
    refine w_seq (w_asgI (by simp) fun kd hkd => ?_)
    refine w_cut (fun ρ => ∃ kd : Int, ρ = [some (mkD m), some (.lst .own (r2.map D.int)), some (.int lv), some (.int dr), some (.int mo), some (.int kd), none] ∧ 0 ≤ kd ∧ kd < 8 ∧ ((lv : Int) = 0 → kd ≤ 3)) ?_ ?_
    · exact w_if_con (w_ifD (P := (lv : Int) = 0) (by simp) (fun g => w_end (w_if_con1 (w_ifD (P := 3 < kd) (by simp) (fun _ => w_end (w_asg (by simp) ⟨_, rfl, by omega, by omega, fun _ => by omega⟩)) (fun _ => w_nil ⟨kd, rfl, by omega, by omega, fun _ => by omega⟩)))) (fun g => w_nil ⟨kd, rfl, by omega, by omega, fun h => absurd h g⟩))
    clear hkd
    rintro ρ ⟨kd, rfl, k0, k1, k2⟩
    refine w_seq (w_ifD (by simp) (fun _ => ?_) (fun g0 => w_nil ?_))
    · exact w_end (w_ret (by simp [szOk, szl]) ⟨_, rfl, .num (numV mo (dr / 8)), r2, rfl, rfl, .num (numV_spec _ _).2⟩)
    refine w_seq (w_ifD (by simp) (fun _ => ?_) (fun g1 => w_nil ?_))
    · have hi : 0 ≤ mo % ((m.as.length : Int) + m.seen.length) ∧ mo % ((m.as.length : Int) + m.seen.length) < (m.as.length : Int) + m.seen.length := ⟨Int.emod_nonneg _ (by omega), Int.emod_lt_of_pos _ (by omega)⟩
      refine w_end (w_ret ?_ ⟨_, rfl, .name (atE (m.as ++ m.seen) (mo % ((m.as.length : Int) + m.seen.length))), r2, rfl, rfl, .name ?_⟩)
      · simp [szOk, szl]
        omega
      · have := atE_mem (xs := m.as ++ m.seen) (i := mo % ((m.as.length : Int) + m.seen.length)) (by simp; omega)
        exact (by simpa using this)
    refine w_seq (w_ifD (by simp) (fun _ => ?_) (fun g2 => w_nil ?_))
    · have hi : 0 ≤ mo % (m.as.length : Int) ∧ mo % (m.as.length : Int) < (m.as.length : Int) := ⟨Int.emod_nonneg _ (by omega), Int.emod_lt_of_pos _ (by omega)⟩
      refine w_end (w_ret ?_ ⟨_, rfl, .pay (atE m.as (mo % (m.as.length : Int))), r2, rfl, rfl, .pay ?_⟩)
      · simp [szOk, szl]
        omega
      · exact atE_mem (by omega)
    refine w_seq (w_ifD (by simp) (fun _ => ?_) (fun g3 => w_nil ?_))
    · exact w_end (w_ret (by simp [szOk, szl]) ⟨_, rfl, .time, r2, rfl, rfl, .time⟩)
    cases lv with
    | zero => exact absurd (k2 rfl) (by omega)
    | succ lv =>
      have hc : (((lv + 1 : Nat) : Int) - 1) = (lv : Int) := by omega
      obtain ⟨_, _, e1, al, r3, rfl, rfl, o1⟩ := e_law_amount m hm lv n r2 (by omega) (by omega)
      obtain ⟨_, _, e2, ar, r4, rfl, rfl, o2⟩ := e_law_amount m hm lv n r3 (by omega) (by omega)
      haveI : Sp (fr_law_amount n) [mkD m, .lst .own (r2.map D.int), .int (((lv + 1 : Nat) : Int) - 1)] True (amD al) [.lst .own (r3.map D.int)] := ⟨fun _ => by rw [hc]; exact e1⟩
      haveI : Sp (fr_law_amount n) [mkD m, .lst .own (r3.map D.int), .int (((lv + 1 : Nat) : Int) - 1)] True (amD ar) [.lst .own (r4.map D.int)] := ⟨fun _ => by rw [hc]; exact e2⟩
      refine w_seq (w_asg (by simp) ?_)
      refine w_seq (w_ifD (by simp) (fun _ => ?_) (fun g4 => w_nil ?_))
      · exact w_end (w_ret (by simp [szOk, szl]) ⟨_, rfl, .times (numV mo (dr / 8)) al, r3, rfl, rfl, .times (numV_spec _ _).2 o1⟩)
      · refine w_end (w_ret ?_ ⟨_, rfl, .bin (atE [so "plus", so "max", so "min"] (kd - 5)) al ar, r4, rfl, rfl, .bin ?_ o1 o2⟩)
        · simp [szOk, szl]
          omega
        · refine atE_all (P := fun x : Str => x = so "plus" ∨ x = so "max" ∨ x = so "min") ?_ (by simp; omega)
          intro x hx
          simpa using hx
theorem e_law_condition (m : Mk) (hm : MwOk m 13) : ∀ (lv n : Nat) (rs : List Int), lv < n → lv ≤ 10 → ∃ d o, fr_law_condition n [mkD m, .lst .own (rs.map D.int), .int lv] = .ok d o ∧ ∃ (a : Cn) (rs' : List Int), d = cnD a ∧ o = [.lst .own (rs'.map D.int)] ∧ CnW m lv a
  | lv, 0, _, h, _ => absurd h (by omega)
  | lv, n + 1, rs, h, hlv => by
    have hz := szl
    have hml : 1 ≤ m.as.length ∧ m.as.length ≤ 4 ∧ m.seen.length ≤ 4 := ⟨hm.as.1, hm.as.2.1, hm.seen.1⟩
    refine sk_law_condition _ _ _ ?_
    refine w_seq (w_asgI (by simp) fun dr hdr => ?_)
    clear hdr
    generalize takS rs = r1
    refine w_seq (w_asgI (by simp) fun kd hkd => ?_)
    refine w_cut (fun ρ => ∃ kd : Int, ρ = [some (mkD m), some (.lst .own (r1.map D.int)), some (.int lv), some (.int dr), some (.int kd), none, none] ∧ 0 ≤ kd ∧ kd < 6 ∧ ((lv : Int) = 0 → kd ≤ 2)) ?_ ?_
    · exact w_if_con (w_ifD (P := (lv : Int) = 0) (by simp) (fun g => w_end (w_if_con1 (w_ifD (P := 2 < kd) (by simp) (fun _ => w_end (w_asg (by simp) ⟨_, rfl, by omega, by omega, fun _ => by omega⟩)) (fun _ => w_nil ⟨kd, rfl, by omega, by omega, fun _ => by omega⟩)))) (fun g => w_nil ⟨kd, rfl, by omega, by omega, fun h => absurd h g⟩))
    clear hkd
    rintro ρ ⟨kd, rfl, k0, k1, k2⟩
    refine w_seq (w_ifD (by simp) (fun _ => ?_) (fun g0 => w_nil ?_))
    · exact w_end (w_ret (by simp [szOk, szl]) ⟨_, rfl, .leaf, r1, rfl, rfl, .leaf⟩)
    refine w_seq (w_ifD (by simp) (fun _ => ?_) (fun g1 => w_nil ?_))
    · refine w_seq (w_asgS (by simp [szOk, szl]; omega) fun sg hsg => ?_)
      have hs : sg ∈ [so "=", so "!=", so "<", so "<=", so ">", so ">="] := by
        rw [hsg]
        exact atE_mem (by simp; omega)
      clear hsg
      have hc : (((min lv 1 : Nat) : Int)) = min (lv : Int) 1 := by omega
      obtain ⟨_, _, e1, al, r3, rfl, rfl, o1⟩ := e_law_amount m hm (min lv 1) 8 r1 (by omega) (by omega)
      obtain ⟨_, _, e2, ar, r4, rfl, rfl, o2⟩ := e_law_amount m hm (min lv 1) 8 r3 (by omega) (by omega)
      haveI : Sp f_law_amount [mkD m, .lst .own (r1.map D.int), .int (min (lv : Int) 1)] True (amD al) [.lst .own (r3.map D.int)] := ⟨fun _ => by rw [← hc]; exact e1⟩
      haveI : Sp f_law_amount [mkD m, .lst .own (r3.map D.int), .int (min (lv : Int) 1)] True (amD ar) [.lst .own (r4.map D.int)] := ⟨fun _ => by rw [← hc]; exact e2⟩
      refine w_seq (w_asg (by simp) ?_)
      exact w_end (w_ret (by simp [szOk, szl]) ⟨_, rfl, .cmp sg al ar, r4, rfl, rfl, .cmp hs (o1.up (by omega)) (o2.up (by omega))⟩)
    cases lv with
    | zero => exact absurd (k2 rfl) (by omega)
    | succ lv =>
      have hc : (((lv + 1 : Nat) : Int) - 1) = (lv : Int) := by omega
      obtain ⟨_, _, e1, al, r3, rfl, rfl, o1⟩ := e_law_condition m hm lv n r1 (by omega) (by omega)
      obtain ⟨_, _, e2, ar, r4, rfl, rfl, o2⟩ := e_law_condition m hm lv n r3 (by omega) (by omega)
      haveI : Sp (fr_law_condition n) [mkD m, .lst .own (r1.map D.int), .int (((lv + 1 : Nat) : Int) - 1)] True (cnD al) [.lst .own (r3.map D.int)] := ⟨fun _ => by rw [hc]; exact e1⟩
      haveI : Sp (fr_law_condition n) [mkD m, .lst .own (r3.map D.int), .int (((lv + 1 : Nat) : Int) - 1)] True (cnD ar) [.lst .own (r4.map D.int)] := ⟨fun _ => by rw [hc]; exact e2⟩
      refine w_seq (w_asg (by simp) ?_)
      refine w_seq (w_ifD (by simp) (fun _ => ?_) (fun g4 => w_nil ?_))
      · exact w_end (w_ret (by simp [szOk, szl]) ⟨_, rfl, .not al, r3, rfl, rfl, .not o1⟩)
      · refine w_end (w_ret ?_ ⟨_, rfl, .bin (atE [so "and", so "or"] (kd - 4)) al ar, r4, rfl, rfl, .bin ?_ o1 o2⟩)
        · simp [szOk, szl]
          omega
        · refine atE_all (P := fun x : Str => x = so "and" ∨ x = so "or") ?_ (by simp; omega)
          intro x hx
          simpa using hx
theorem e_named {m : Mk} (hm : MwOk m 13) {k : Int} (hk : 0 ≤ k ∧ k < m.nodes.length) {s : Str} (hs : s ∈ m.as ∨ s ∈ m.seen) : f_named [mkD m, .int k, .str s] = .ok (qD (valA m k (.name s))) [] := by
  have hz := szl
  have hN := hm.at hk.1 hk.2
  refine se_named _ _ _ ?_
  refine w_seq (w_asg (by simp) ?_)
  refine w_seq (w_ifD (P := s ∈ m.as) (by simp) (fun g => ?_) (fun g => w_nil ?_))
  · have i1 := idx_lt g
    have i2 := hN.pr.1
    refine w_end (w_ret ?_ ?_)
    · simp
      exact ⟨⟨by omega, by omega⟩, g, by omega⟩
    · rw [valA, if_pos g]
  · have hs : s ∈ m.seen := hs.elim (fun y => absurd y g) id
    have i1 := idx_lt hs
    have i2 := hN.val.1
    refine w_end (w_ret ?_ ?_)
    · simp
      exact ⟨⟨by omega, by omega⟩, hs, by omega⟩
    · rw [valA, if_neg g]
theorem e_path_to (m : Mk) (node : Int) (hm : ∃ n, MwOk m n ∧ n ≤ 40) (hi : 0 ≤ node ∧ node < m.nodes.length) : f_path_to [mkD m, .int node] = .ok (.lst .frz ((wayX m node).map D.int)) [] := by
  have hz := szl
  obtain ⟨n, hM, hn⟩ := hm
  have hL := hM.len
  refine se_path_to _ _ ?_
  refine w_seq (w_asg (by decreasing_trivial) ?_)
  refine w_cut (fun ρ => ∃ t3 : Option D, ρ = [some (mkD m), some (.int node), some (.lst .own ((wayX m node).reverse.map D.int)), t3]) ?_ ?_
  · refine w_forr (i := 0) (by simp [rngOk]; omega) (fun k ρ => ∃ (c : Int) (rs : List Int), ρ = [some (mkD m), some (.int node), some (.lst .own ((c :: rs).reverse.map D.int)), none] ∧ (rs.length : Int) = k ∧ (0 ≤ c ∧ c < m.nodes.length) ∧ upX m (m.nodes.length - k).toNat c rs = wayX m node) (by omega) ⟨node, [], rfl, rfl, hi, by simp [wayX]⟩ ?_ ?_
    · rintro ρ ⟨c, rs, rfl, h1, h2, h3⟩
      rw [Int.sub_self] at h3
      refine ⟨none, ?_⟩
      rw [← h3]
      rfl
    · rintro k ρ hk0 hk1 ⟨c, rs, rfl, h1, h2, h3⟩
      have hN := hM.at h2.1 h2.2
      rw [show ((m.nodes.length : Int) - k).toNat = ((m.nodes.length : Int) - (k + 1)).toNat + 1 by omega, upX] at h3
      refine w_st ?_
      refine w_seq (w_ifD (P := c = 0) (by simp) (fun hc0 => w_seq (w_wip (w_end (w_brk ⟨none, ?_⟩)))) (fun hc0 => w_nil ?_))
      · rw [if_pos hc0] at h3
        rw [← h3]
      rw [if_neg hc0] at h3
      have hp := hN.par
      have hp0 := hN.par0 (by omega)
      refine w_seq (w_exp ?_ ?_)
      · simp
        omega
      exact w_end (w_wip ⟨(atE m.nodes c).par, c :: rs, by simp, by simp; omega, by omega, h3⟩)
  · rintro ρ ⟨t3, rfl⟩
    refine w_seq (w_wip (w_end (w_ret (by decreasing_trivial) ?_)))
    rw [List.reverse_reverse]
instance {m : Mk} {node : Int} : Sp f_path_to [mkD m, .int node] ((∃ n, MwOk m n ∧ n ≤ 40) ∧ 0 ≤ node ∧ node < m.nodes.length) (.lst .frz ((wayX m node).map D.int)) [] := ⟨fun h => e_path_to m node h.1 h.2⟩
theorem e_number (n d : Int) (h0 : d ≠ 0) (hb : Bt 8000 d) : f_number [.int n, .int d] = .ok (qD (Rat.divInt n d)) [] := by
  rw [← numQ h0]
  have hg := gcd_le (n := n) h0
  have hG : 0 < ((Nat.gcd n.natAbs d.natAbs : Nat) : Int) ∧ (((Nat.gcd n.natAbs d.natAbs : Nat) : Int) < 1606938044258990275541962092341162602522202993782792835301376 ∨ Bt 8000 ((Nat.gcd n.natAbs d.natAbs : Nat) : Int)) := ⟨by omega, .inr (hb.le (by omega))⟩
  refine se_number _ _ ?_
  refine w_seq (w_ifD (by simp) (fun h => ?_) (fun h => ?_))
  · refine w_end (w_par (by simp) (by simp) ?_)
    refine w_seq (w_asg (by simp) ?_)
    refine w_end (w_ret (by simp; exact ⟨⟨.inr h0, hG.2⟩, rfl⟩) ?_)
    simp [numN, numD, h]
  · refine w_nil ?_
    refine w_seq (w_asg (by simp) ?_)
    refine w_end (w_ret (by simp; exact ⟨⟨.inr h0, hG.2⟩, rfl⟩) ?_)
    simp [numN, numD, h]
instance {n d : Int} : Sp f_number [.int n, .int d] (d ≠ 0 ∧ Bt 8000 d) (qD (Rat.divInt n d)) [] := ⟨fun h => e_number n d h.1 h.2⟩
theorem e_times {p q : Rat} {n m : Nat} (hp : Qb p n) (hq : Qb q m) (h : n + m ≤ 8000) : f_times [qD p, qD q] = .ok (qD (p * q)) [] := by
  have m1 := Qb.mulOk hp.h.1 (show (q.den : Int).natAbs < 2 ^ m by simpa using hq.h.2) (by omega)
  have m2 := Qb.mulOk hq.h.1 (show (p.den : Int).natAbs < 2 ^ n by simpa using hp.h.2) (by omega)
  have m3 := Qb.mulOk (show (p.den : Int).natAbs < 2 ^ n by simpa using hp.h.2) (show (q.den : Int).natAbs < 2 ^ m by simpa using hq.h.2) (by omega)
  have m4 := Qb.mulOk hp.h.1 hq.h.1 (by omega)
  have m5 := den_ne p q
  have m6 := den_Bt hp hq h
  refine se_times _ _ (w_end (w_ret ?_ ?_))
  · (try simp only [and_true, true_and]) <;> (try and_intros) <;> first | assumption | trivial
  · rw [mulQ]
instance {p q : Rat} {n m : Nat} [hp : Qb p n] [hq : Qb q m] : Sp f_times [qD p, qD q] (n + m ≤ 8000) (qD (p * q)) [] := ⟨e_times hp hq⟩
instance (priority := low) {p q : Rat} : Sp f_times [qD p, qD q] (QB 8000 p q) (qD (p * q)) [] := ⟨fun ⟨_, _, hp, hq, h⟩ => e_times hp hq h⟩
theorem e_plus {p q : Rat} {n m : Nat} (hp : Qb p n) (hq : Qb q m) (h : n + m ≤ 8000) : f_plus [qD p, qD q] = .ok (qD (p + q)) [] := by
  have m1 := Qb.mulOk hp.h.1 (show (q.den : Int).natAbs < 2 ^ m by simpa using hq.h.2) (by omega)
  have m2 := Qb.mulOk hq.h.1 (show (p.den : Int).natAbs < 2 ^ n by simpa using hp.h.2) (by omega)
  have m3 := Qb.mulOk (show (p.den : Int).natAbs < 2 ^ n by simpa using hp.h.2) (show (q.den : Int).natAbs < 2 ^ m by simpa using hq.h.2) (by omega)
  have m4 := Qb.mulOk hp.h.1 hq.h.1 (by omega)
  have m5 := den_ne p q
  have m6 := den_Bt hp hq h
  refine se_plus _ _ (w_end (w_ret ?_ ?_))
  · (try simp only [and_true, true_and]) <;> (try and_intros) <;> first | assumption | trivial
  · rw [addQ]
instance {p q : Rat} {n m : Nat} [hp : Qb p n] [hq : Qb q m] : Sp f_plus [qD p, qD q] (n + m ≤ 8000) (qD (p + q)) [] := ⟨e_plus hp hq⟩
instance (priority := low) {p q : Rat} : Sp f_plus [qD p, qD q] (QB 8000 p q) (qD (p + q)) [] := ⟨fun ⟨_, _, hp, hq, h⟩ => e_plus hp hq h⟩
theorem e_compare {p q : Rat} {n m : Nat} (hp : Qb p n) (hq : Qb q m) (h : n + m ≤ 8000) : f_compare [qD p, qD q] = .ok (.int (ordQ p q)) [] := by
  have m1 := Qb.mulOk hp.h.1 (show (q.den : Int).natAbs < 2 ^ m by simpa using hq.h.2) (by omega)
  have m2 := Qb.mulOk hq.h.1 (show (p.den : Int).natAbs < 2 ^ n by simpa using hp.h.2) (by omega)
  refine se_compare _ _ ?_
  refine w_seq (w_par ?_ ?_ ?_)
  · simpa using m1
  · simpa using m2
  refine w_seq (w_ifD (by simp) (fun h => w_end (w_ret (by simp) ?_)) (fun h => w_nil (w_end (w_ret (by simp) ?_))))
  · unfold ordQ
    rw [if_pos ((Rat.lt_iff _ _).mpr h)]
  · unfold ordQ
    rw [if_neg (fun g => h ((Rat.lt_iff _ _).mp g))]
    by_cases g : q < p
    · rw [if_pos g]
      have := (Rat.lt_iff _ _).mp g
      simp [this]
    · rw [if_neg g]
      have : ¬ (q.num * p.den < p.num * q.den) := fun z => g ((Rat.lt_iff _ _).mpr z)
      simp
      omega
instance {p q : Rat} {n m : Nat} [hp : Qb p n] [hq : Qb q m] : Sp f_compare [qD p, qD q] (n + m ≤ 8000) (.int (ordQ p q)) [] := ⟨e_compare hp hq⟩
instance (priority := low) {p q : Rat} : Sp f_compare [qD p, qD q] (QB 8000 p q) (.int (ordQ p q)) [] := ⟨fun ⟨_, _, hp, hq, h⟩ => e_compare hp hq h⟩
theorem e_amount_at {m : Mk} (hm : MwOk m 13) {k : Int} (hk : 0 ≤ k ∧ k < m.nodes.length) {d : Nat} {a : Am} (h : AmW m d a) (hd : d ≤ 5) : ∀ n : Nat, d < n → fr_amount_at n [mkD m, .int k, amD a] = .ok (qD (valA m k a)) [] := by
  have hz := szl
  have hN := hm.at hk.1 hk.2
  have hl := hm.len
  have up : ∀ d : Nat, d ≤ 4 → 41 * 2 ^ d - 1 ≤ 656 := fun d hd => by
    have : 2 ^ d ≤ 2 ^ 4 := Nat.pow_le_pow_right (by decide) hd
    omega
  induction h with
  | num hq =>
    rename_i q
    intro n hn
    obtain ⟨n, rfl⟩ : ∃ m, n = m + 1 := ⟨n - 1, by omega⟩
    show fr_amount_at (n + 1) [mkD m, .int k, .tup [.str (so "number"), qD q]] = _
    refine se_amount_at _ _ _ ?_
    refine w_seq (w_asg (by simp) ?_)
    refine w_seq (w_ifD (by simp) (fun _ => ?_) (fun g => absurd rfl g))
    exact w_end (w_ret (by simp) rfl)
  | name hs =>
    rename_i s
    intro n hn
    obtain ⟨n, rfl⟩ : ∃ m, n = m + 1 := ⟨n - 1, by omega⟩
    show fr_amount_at (n + 1) [mkD m, .int k, .tup [.str (so "name"), .str s]] = _
    refine se_amount_at _ _ _ ?_
    refine w_seq (w_asg (by simp) ?_)
    refine w_seq (w_ifD (by simp) (fun g => absurd g (by decide +kernel)) (fun _ => w_nil ?_))
    refine w_seq (w_ifD (by simp) (fun _ => ?_) (fun g => absurd rfl g))
    haveI : Sp f_named [mkD m, .int k, .str s] True (qD (valA m k (.name s))) [] := ⟨fun _ => e_named hm hk hs⟩
    exact w_end (w_ret (by simp) rfl)
  | pay hs =>
    rename_i s
    intro n hn
    obtain ⟨n, rfl⟩ : ∃ m, n = m + 1 := ⟨n - 1, by omega⟩
    have i1 := idx_lt hs
    have i2 := hN.pay.1
    show fr_amount_at (n + 1) [mkD m, .int k, .tup [.str (so "payout"), .str s]] = _
    refine se_amount_at _ _ _ ?_
    refine w_seq (w_asg (by simp) ?_)
    refine w_seq (w_ifD (by simp) (fun g => absurd g (by decide +kernel)) (fun _ => w_nil ?_))
    refine w_seq (w_ifD (by simp) (fun g => absurd g (by decide +kernel)) (fun _ => w_nil ?_))
    refine w_seq (w_ifD (by simp) (fun _ => ?_) (fun g => absurd rfl g))
    refine w_end (w_ret ?_ rfl)
    simp
    exact ⟨⟨by omega, by omega⟩, hs, by omega⟩
  | time =>
    intro n hn
    obtain ⟨n, rfl⟩ : ∃ m, n = m + 1 := ⟨n - 1, by omega⟩
    have hw := way_b (m := m) (k := k) hl.2
    show fr_amount_at (n + 1) [mkD m, .int k, .tup [.str (so "time")]] = _
    refine se_amount_at _ _ _ ?_
    refine w_seq (w_asg (by simp) ?_)
    refine w_seq (w_ifD (by simp) (fun g => absurd g (by decide +kernel)) (fun _ => w_nil ?_))
    refine w_seq (w_ifD (by simp) (fun g => absurd g (by decide +kernel)) (fun _ => w_nil ?_))
    refine w_seq (w_ifD (by simp) (fun g => absurd g (by decide +kernel)) (fun _ => w_nil ?_))
    refine w_seq (w_ifD (by simp) (fun _ => ?_) (fun g => absurd rfl g))
    refine w_end (w_ret ?_ ?_)
    · simp
      exact ⟨⟨13, hm, by decide⟩, hk⟩
    · exact time_eq m k
  | times hq ha ih =>
    rename_i d q a
    intro n hn
    obtain ⟨n, rfl⟩ : ∃ m, n = m + 1 := ⟨n - 1, by omega⟩
    have e1 := ih (by omega) n (by omega)
    haveI b1 : Qb (valA m k a) 656 := (valA_b hm hk ha).mono (up _ (by omega))
    haveI b2 : Qb q 40 := hq
    haveI : Sp (fr_amount_at n) [mkD m, .int k, amD a] True (qD (valA m k a)) [] := ⟨fun _ => e1⟩
    show fr_amount_at (n + 1) [mkD m, .int k, .tup [.str (so "times"), qD q, amD a]] = _
    refine se_amount_at _ _ _ ?_
    refine w_seq (w_asg (by simp) ?_)
    refine w_seq (w_ifD (by simp) (fun g => absurd g (by decide +kernel)) (fun _ => w_nil ?_))
    refine w_seq (w_ifD (by simp) (fun g => absurd g (by decide +kernel)) (fun _ => w_nil ?_))
    refine w_seq (w_ifD (by simp) (fun g => absurd g (by decide +kernel)) (fun _ => w_nil ?_))
    refine w_seq (w_ifD (by simp) (fun g => absurd g (by decide +kernel)) (fun _ => w_nil ?_))
    refine w_seq (w_asg (by simp) ?_)
    refine w_seq (w_ifD (by simp) (fun _ => ?_) (fun g => absurd rfl g))
    exact w_end (w_ret (by simp) rfl)
  | bin hw ha hb ih1 ih2 =>
    rename_i d w a b
    intro n hn
    obtain ⟨n, rfl⟩ : ∃ m, n = m + 1 := ⟨n - 1, by omega⟩
    have e1 := ih1 (by omega) n (by omega)
    have e2 := ih2 (by omega) n (by omega)
    haveI b1 : Qb (valA m k a) 656 := (valA_b hm hk ha).mono (up _ (by omega))
    haveI b2 : Qb (valA m k b) 656 := (valA_b hm hk hb).mono (up _ (by omega))
    haveI : Sp (fr_amount_at n) [mkD m, .int k, amD a] True (qD (valA m k a)) [] := ⟨fun _ => e1⟩
    haveI : Sp (fr_amount_at n) [mkD m, .int k, amD b] True (qD (valA m k b)) [] := ⟨fun _ => e2⟩
    rcases hw with rfl | rfl | rfl
    ·
      show fr_amount_at (n + 1) [mkD m, .int k, .tup [.str (so "plus"), amD a, amD b]] = _
      refine se_amount_at _ _ _ ?_
      refine w_seq (w_asg (by simp) ?_)
      refine w_seq (w_ifD (by simp) (fun g => absurd g (by decide +kernel)) (fun _ => w_nil ?_))
      refine w_seq (w_ifD (by simp) (fun g => absurd g (by decide +kernel)) (fun _ => w_nil ?_))
      refine w_seq (w_ifD (by simp) (fun g => absurd g (by decide +kernel)) (fun _ => w_nil ?_))
      refine w_seq (w_ifD (by simp) (fun g => absurd g (by decide +kernel)) (fun _ => w_nil ?_))
      refine w_seq (w_asg (by simp) ?_)
      refine w_seq (w_ifD (by simp) (fun g => absurd g (by decide +kernel)) (fun _ => w_nil ?_))
      refine w_seq (w_asg (by simp) ?_)
      refine w_seq (w_ifD (by simp) (fun _ => ?_) (fun g => absurd rfl g))
      exact w_end (w_ret (by simp) rfl)
    ·
      show fr_amount_at (n + 1) [mkD m, .int k, .tup [.str (so "max"), amD a, amD b]] = _
      refine se_amount_at _ _ _ ?_
      refine w_seq (w_asg (by simp) ?_)
      refine w_seq (w_ifD (by simp) (fun g => absurd g (by decide +kernel)) (fun _ => w_nil ?_))
      refine w_seq (w_ifD (by simp) (fun g => absurd g (by decide +kernel)) (fun _ => w_nil ?_))
      refine w_seq (w_ifD (by simp) (fun g => absurd g (by decide +kernel)) (fun _ => w_nil ?_))
      refine w_seq (w_ifD (by simp) (fun g => absurd g (by decide +kernel)) (fun _ => w_nil ?_))
      refine w_seq (w_asg (by simp) ?_)
      refine w_seq (w_ifD (by simp) (fun g => absurd g (by decide +kernel)) (fun _ => w_nil ?_))
      refine w_seq (w_asg (by simp) ?_)
      refine w_seq (w_ifD (by simp) (fun g => absurd g (by decide +kernel)) (fun _ => w_nil ?_))
      refine w_seq (w_ifD (by simp) (fun _ => ?_) (fun g => absurd rfl g))
      refine w_end (w_ret_ite (w_ifD (P := ordQ (valA m k a) (valA m k b) < 0) (by simp) (fun g => w_end (w_ret (by simp) ?_)) (fun g => w_end (w_ret (by simp) ?_))))
      · rw [valA, if_neg (by decide +kernel), if_pos rfl, if_pos (ordQ_lt.mp g)]
      · rw [valA, if_neg (by decide +kernel), if_pos rfl, if_neg (fun y => g (ordQ_lt.mpr y))]
    ·
      show fr_amount_at (n + 1) [mkD m, .int k, .tup [.str (so "min"), amD a, amD b]] = _
      refine se_amount_at _ _ _ ?_
      refine w_seq (w_asg (by simp) ?_)
      refine w_seq (w_ifD (by simp) (fun g => absurd g (by decide +kernel)) (fun _ => w_nil ?_))
      refine w_seq (w_ifD (by simp) (fun g => absurd g (by decide +kernel)) (fun _ => w_nil ?_))
      refine w_seq (w_ifD (by simp) (fun g => absurd g (by decide +kernel)) (fun _ => w_nil ?_))
      refine w_seq (w_ifD (by simp) (fun g => absurd g (by decide +kernel)) (fun _ => w_nil ?_))
      refine w_seq (w_asg (by simp) ?_)
      refine w_seq (w_ifD (by simp) (fun g => absurd g (by decide +kernel)) (fun _ => w_nil ?_))
      refine w_seq (w_asg (by simp) ?_)
      refine w_seq (w_ifD (by simp) (fun g => absurd g (by decide +kernel)) (fun _ => w_nil ?_))
      refine w_seq (w_ifD (by simp) (fun g => absurd g (by decide +kernel)) (fun _ => w_nil ?_))
      refine w_end (w_ret_ite (w_ifD (P := ordQ (valA m k a) (valA m k b) < 0) (by simp) (fun g => w_end (w_ret (by simp) ?_)) (fun g => w_end (w_ret (by simp) ?_))))
      · rw [valA, if_neg (by decide +kernel), if_neg (by decide +kernel), if_pos (ordQ_lt.mp g)]
      · rw [valA, if_neg (by decide +kernel), if_neg (by decide +kernel), if_neg (fun y => g (ordQ_lt.mpr y))]
theorem e_law_depth {m : Mk} (hm : MwOk m 13) {k : Int} (hk : 0 ≤ k ∧ k < m.nodes.length) : f_law_depth [mkD m, .int k] = .ok (.int (((wayX m k).length : Int) - 1)) [] := by
  have hz := szl
  have hl := hm.len
  refine se_law_depth _ _ ?_
  refine w_seq (w_asg (by simp) ?_)
  refine w_cut (fun ρ => ∃ (t1 t3 : Option D), ρ = [some (mkD m), t1, some (.int (((wayX m k).length : Int) - 1)), t3]) ?_ ?_
  · refine w_forr (i := 0) (by simp [rngOk]) (fun j ρ => ∃ (c : Int) (rs : List Int), ρ = [some (mkD m), some (.int c), some (.int j), none] ∧ (rs.length : Int) = j ∧ 0 ≤ c ∧ c + j ≤ k ∧ upX m (m.nodes.length - j).toNat c rs = wayX m k) (by decide) ⟨k, [], rfl, rfl, by omega, by omega, by simp [wayX]⟩ ?_ ?_
    · rintro ρ ⟨c, rs, rfl, h1, h2, h3, h4⟩
      omega
    · rintro j ρ hj0 hj1 ⟨c, rs, rfl, h1, h2, h3, h4⟩
      have hN := hm.at h2 (show c < m.nodes.length by omega)
      refine w_st ?_
      refine w_seq (w_ifD (P := c = 0) (by simp) (fun hc => w_seq (w_wip (w_end (w_brk ⟨some (.int c), none, ?_⟩)))) (fun hc => w_nil ?_))
      · subst hc
        have := upX_0 m (m.nodes.length - j).toNat rs
        rw [h4] at this
        rw [this, show ((rs.length + 1 : Nat) : Int) - 1 = j by omega]
      rw [show ((m.nodes.length : Int) - j).toNat = ((m.nodes.length : Int) - (j + 1)).toNat + 1 by omega, upX, if_neg hc] at h4
      have hp := hN.par
      have hp0 := hN.par0 (by omega)
      refine w_seq (w_asg (by simp; omega) ?_)
      refine w_seq (w_asg (by simp) ?_)
      exact w_end (w_wip ⟨(atE m.nodes c).par, c :: rs, rfl, by simp; omega, hp0, by omega, h4⟩)
  · rintro ρ ⟨t1, t3, rfl⟩
    exact w_seq (w_wip (w_end (w_ret (by simp) rfl)))
theorem e_law_times {p q : Rat} {n m : Nat} (hp : Qb p n) (hq : Qb q m) (h : n + m ≤ 1999) : f_law_times [qD p, qD q] = .ok (qD (p * q)) [] := by
  have m1 := Qb.mulOk hp.h.1 (show (q.den : Int).natAbs < 2 ^ m by simpa using hq.h.2) (by omega)
  have m2 := Qb.mulOk hq.h.1 (show (p.den : Int).natAbs < 2 ^ n by simpa using hp.h.2) (by omega)
  have m3 := Qb.mulOk (show (p.den : Int).natAbs < 2 ^ n by simpa using hp.h.2) (show (q.den : Int).natAbs < 2 ^ m by simpa using hq.h.2) (by omega)
  have m4 := Qb.mulOk hp.h.1 hq.h.1 (by omega)
  have m5 := den_ne p q
  have m6 := den_Bt hp hq h
  have m7 : 1 ≤ (p.den : Int) * q.den := by
    have := Int.mul_nonneg (show (0 : Int) ≤ p.den by omega) (show (0 : Int) ≤ q.den by omega)
    omega
  refine se_law_times _ _ (w_end (w_ret ?_ ?_))
  · (try simp only [and_true, true_and]) <;> (try and_intros) <;> first | assumption | trivial
  · rw [mulQ]
instance {p q : Rat} {n m : Nat} [hp : Qb p n] [hq : Qb q m] : Sp f_law_times [qD p, qD q] (n + m ≤ 1999) (qD (p * q)) [] := ⟨e_law_times hp hq⟩
instance (priority := low) {p q : Rat} : Sp f_law_times [qD p, qD q] (QB 1999 p q) (qD (p * q)) [] := ⟨fun ⟨_, _, hp, hq, h⟩ => e_law_times hp hq h⟩
theorem e_law_plus {p q : Rat} {n m : Nat} (hp : Qb p n) (hq : Qb q m) (h : n + m ≤ 1999) : f_law_plus [qD p, qD q] = .ok (qD (p + q)) [] := by
  have m1 := Qb.mulOk hp.h.1 (show (q.den : Int).natAbs < 2 ^ m by simpa using hq.h.2) (by omega)
  have m2 := Qb.mulOk hq.h.1 (show (p.den : Int).natAbs < 2 ^ n by simpa using hp.h.2) (by omega)
  have m3 := Qb.mulOk (show (p.den : Int).natAbs < 2 ^ n by simpa using hp.h.2) (show (q.den : Int).natAbs < 2 ^ m by simpa using hq.h.2) (by omega)
  have m4 := Qb.mulOk hp.h.1 hq.h.1 (by omega)
  have m5 := den_ne p q
  have m6 := den_Bt hp hq h
  have m7 : 1 ≤ (p.den : Int) * q.den := by
    have := Int.mul_nonneg (show (0 : Int) ≤ p.den by omega) (show (0 : Int) ≤ q.den by omega)
    omega
  refine se_law_plus _ _ (w_end (w_ret ?_ ?_))
  · (try simp only [and_true, true_and]) <;> (try and_intros) <;> first | assumption | trivial
  · rw [addQ]
instance {p q : Rat} {n m : Nat} [hp : Qb p n] [hq : Qb q m] : Sp f_law_plus [qD p, qD q] (n + m ≤ 1999) (qD (p + q)) [] := ⟨e_law_plus hp hq⟩
instance (priority := low) {p q : Rat} : Sp f_law_plus [qD p, qD q] (QB 1999 p q) (qD (p + q)) [] := ⟨fun ⟨_, _, hp, hq, h⟩ => e_law_plus hp hq h⟩
theorem e_law_less {p q : Rat} {n m : Nat} (hp : Qb p n) (hq : Qb q m) (h : n + m ≤ 90000) : f_law_less [qD p, qD q] = .ok (.bl (decide (p < q))) [] := by
  have m1 := Qb.mulOk hp.h.1 (show (q.den : Int).natAbs < 2 ^ m by simpa using hq.h.2) (by omega)
  have m2 := Qb.mulOk hq.h.1 (show (p.den : Int).natAbs < 2 ^ n by simpa using hp.h.2) (by omega)
  refine se_law_less _ _ (w_end (w_ret ?_ ?_))
  · simpa using ⟨m1, m2⟩
  · rw [decide_eq_decide.mpr (Rat.lt_iff p q)]
instance {p q : Rat} {n m : Nat} [hp : Qb p n] [hq : Qb q m] : Sp f_law_less [qD p, qD q] (n + m ≤ 90000) (.bl (decide (p < q))) [] := ⟨e_law_less hp hq⟩
instance (priority := low) {p q : Rat} : Sp f_law_less [qD p, qD q] (QB 90000 p q) (.bl (decide (p < q))) [] := ⟨fun ⟨_, _, hp, hq, h⟩ => e_law_less hp hq h⟩
theorem e_law_value {m : Mk} (hm : MwOk m 13) {k : Int} (hk : 0 ≤ k ∧ k < m.nodes.length) {d : Nat} {a : Am} (h : AmW m d a) (hd : d ≤ 5) : ∀ n : Nat, d < n → fr_law_value n [mkD m, .int k, amD a] = .ok (qD (valA m k a)) [] := by
  have hz := szl
  have hN := hm.at hk.1 hk.2
  have hl := hm.len
  have up : ∀ d : Nat, d ≤ 4 → 41 * 2 ^ d - 1 ≤ 656 := fun d hd => by
    have : 2 ^ d ≤ 2 ^ 4 := Nat.pow_le_pow_right (by decide) hd
    omega
  induction h with
  | num hq =>
    rename_i q
    intro n hn
    obtain ⟨n, rfl⟩ : ∃ m, n = m + 1 := ⟨n - 1, by omega⟩
    show fr_law_value (n + 1) [mkD m, .int k, .tup [.str (so "number"), qD q]] = _
    refine se_law_value _ _ _ ?_
    refine w_seq (w_asg (by simp) ?_)
    refine w_seq (w_asg (by simp; omega) ?_)
    refine w_seq (w_ifD (by simp) (fun _ => ?_) (fun g => absurd rfl g))
    exact w_end (w_ret (by simp) rfl)
  | name hs =>
    rename_i s
    intro n hn
    obtain ⟨n, rfl⟩ : ∃ m, n = m + 1 := ⟨n - 1, by omega⟩
    show fr_law_value (n + 1) [mkD m, .int k, .tup [.str (so "name"), .str s]] = _
    refine se_law_value _ _ _ ?_
    refine w_seq (w_asg (by simp) ?_)
    refine w_seq (w_asg (by simp; omega) ?_)
    refine w_seq (w_ifD (by simp) (fun g => absurd g (by decide +kernel)) (fun _ => w_nil ?_))
    refine w_seq (w_if_con (w_ifD (by simp) (fun _ => w_end (w_if_con1 (w_ifD (P := s ∈ m.as) (by simp) (fun g => ?_) (fun g => w_nil ?_)))) (fun g => absurd rfl g)))
    · have i1 := idx_lt g
      have i2 := hN.pr.1
      refine w_end (w_ret ?_ ?_)
      · simp
        exact ⟨g, by omega⟩
      · rw [valA, if_pos g]
    have hs : s ∈ m.seen := hs.elim (fun y => absurd y g) id
    have i1 := idx_lt hs
    have i2 := hN.val.1
    refine w_seq (w_ifD (by simp) (fun _ => ?_) (fun g => absurd rfl g))
    refine w_end (w_ret ?_ ?_)
    · simp
      exact ⟨hs, by omega⟩
    · rw [valA, if_neg g]
  | pay hs =>
    rename_i s
    intro n hn
    obtain ⟨n, rfl⟩ : ∃ m, n = m + 1 := ⟨n - 1, by omega⟩
    have i1 := idx_lt hs
    have i2 := hN.pay.1
    show fr_law_value (n + 1) [mkD m, .int k, .tup [.str (so "payout"), .str s]] = _
    refine se_law_value _ _ _ ?_
    refine w_seq (w_asg (by simp) ?_)
    refine w_seq (w_asg (by simp; omega) ?_)
    refine w_seq (w_ifD (by simp) (fun g => absurd g (by decide +kernel)) (fun _ => w_nil ?_))
    refine w_seq (w_if_con (w_ifD (by simp) (fun g => absurd g (by decide +kernel)) (fun _ => w_nil ?_)))
    refine w_seq (w_ifD (by simp) (fun g => absurd g (by decide +kernel)) (fun _ => w_nil ?_))
    refine w_seq (w_ifD (by simp) (fun _ => ?_) (fun g => absurd rfl g))
    refine w_end (w_ret ?_ rfl)
    simp
    exact ⟨hs, by omega⟩
  | time =>
    intro n hn
    obtain ⟨n, rfl⟩ : ∃ m, n = m + 1 := ⟨n - 1, by omega⟩
    have hw := way_b (m := m) (k := k) hl.2
    show fr_law_value (n + 1) [mkD m, .int k, .tup [.str (so "time")]] = _
    refine se_law_value _ _ _ ?_
    refine w_seq (w_asg (by simp) ?_)
    refine w_seq (w_asg (by simp; omega) ?_)
    refine w_seq (w_ifD (by simp) (fun g => absurd g (by decide +kernel)) (fun _ => w_nil ?_))
    refine w_seq (w_if_con (w_ifD (by simp) (fun g => absurd g (by decide +kernel)) (fun _ => w_nil ?_)))
    refine w_seq (w_ifD (by simp) (fun g => absurd g (by decide +kernel)) (fun _ => w_nil ?_))
    refine w_seq (w_ifD (by simp) (fun g => absurd g (by decide +kernel)) (fun _ => w_nil ?_))
    refine w_seq (w_ifD (by simp) (fun _ => ?_) (fun g => absurd rfl g))
    haveI : Sp f_law_depth [mkD m, .int k] True (.int (((wayX m k).length : Int) - 1)) [] := ⟨fun _ => e_law_depth hm hk⟩
    refine w_end (w_ret (by simp) ?_)
    exact time_eq m k
  | times hq ha ih =>
    rename_i d q a
    intro n hn
    obtain ⟨n, rfl⟩ : ∃ m, n = m + 1 := ⟨n - 1, by omega⟩
    have e1 := ih (by omega) n (by omega)
    haveI b1 : Qb (valA m k a) 656 := (valA_b hm hk ha).mono (up _ (by omega))
    haveI b2 : Qb q 40 := hq
    haveI : Sp (fr_law_value n) [mkD m, .int k, amD a] True (qD (valA m k a)) [] := ⟨fun _ => e1⟩
    show fr_law_value (n + 1) [mkD m, .int k, .tup [.str (so "times"), qD q, amD a]] = _
    refine se_law_value _ _ _ ?_
    refine w_seq (w_asg (by simp) ?_)
    refine w_seq (w_asg (by simp; omega) ?_)
    refine w_seq (w_ifD (by simp) (fun g => absurd g (by decide +kernel)) (fun _ => w_nil ?_))
    refine w_seq (w_if_con (w_ifD (by simp) (fun g => absurd g (by decide +kernel)) (fun _ => w_nil ?_)))
    refine w_seq (w_ifD (by simp) (fun g => absurd g (by decide +kernel)) (fun _ => w_nil ?_))
    refine w_seq (w_ifD (by simp) (fun g => absurd g (by decide +kernel)) (fun _ => w_nil ?_))
    refine w_seq (w_ifD (by simp) (fun g => absurd g (by decide +kernel)) (fun _ => w_nil ?_))
    refine w_seq (w_ifD (by simp) (fun _ => ?_) (fun g => absurd rfl g))
    exact w_end (w_ret (by simp) rfl)
  | bin hw ha hb ih1 ih2 =>
    rename_i d w a b
    intro n hn
    obtain ⟨n, rfl⟩ : ∃ m, n = m + 1 := ⟨n - 1, by omega⟩
    have e1 := ih1 (by omega) n (by omega)
    have e2 := ih2 (by omega) n (by omega)
    haveI b1 : Qb (valA m k a) 656 := (valA_b hm hk ha).mono (up _ (by omega))
    haveI b2 : Qb (valA m k b) 656 := (valA_b hm hk hb).mono (up _ (by omega))
    haveI : Sp (fr_law_value n) [mkD m, .int k, amD a] True (qD (valA m k a)) [] := ⟨fun _ => e1⟩
    haveI : Sp (fr_law_value n) [mkD m, .int k, amD b] True (qD (valA m k b)) [] := ⟨fun _ => e2⟩
    rcases hw with rfl | rfl | rfl
    ·
      show fr_law_value (n + 1) [mkD m, .int k, .tup [.str (so "plus"), amD a, amD b]] = _
      refine se_law_value _ _ _ ?_
      refine w_seq (w_asg (by simp) ?_)
      refine w_seq (w_asg (by simp; omega) ?_)
      refine w_seq (w_ifD (by simp) (fun g => absurd g (by decide +kernel)) (fun _ => w_nil ?_))
      refine w_seq (w_if_con (w_ifD (by simp) (fun g => absurd g (by decide +kernel)) (fun _ => w_nil ?_)))
      refine w_seq (w_ifD (by simp) (fun g => absurd g (by decide +kernel)) (fun _ => w_nil ?_))
      refine w_seq (w_ifD (by simp) (fun g => absurd g (by decide +kernel)) (fun _ => w_nil ?_))
      refine w_seq (w_ifD (by simp) (fun g => absurd g (by decide +kernel)) (fun _ => w_nil ?_))
      refine w_seq (w_ifD (by simp) (fun g => absurd g (by decide +kernel)) (fun _ => w_nil ?_))
      refine w_seq (w_par (by simp) (by simp) ?_)
      refine w_seq (w_ifD (by simp) (fun _ => ?_) (fun g => absurd rfl g))
      exact w_end (w_ret (by simp) rfl)
    ·
      show fr_law_value (n + 1) [mkD m, .int k, .tup [.str (so "max"), amD a, amD b]] = _
      refine se_law_value _ _ _ ?_
      refine w_seq (w_asg (by simp) ?_)
      refine w_seq (w_asg (by simp; omega) ?_)
      refine w_seq (w_ifD (by simp) (fun g => absurd g (by decide +kernel)) (fun _ => w_nil ?_))
      refine w_seq (w_if_con (w_ifD (by simp) (fun g => absurd g (by decide +kernel)) (fun _ => w_nil ?_)))
      refine w_seq (w_ifD (by simp) (fun g => absurd g (by decide +kernel)) (fun _ => w_nil ?_))
      refine w_seq (w_ifD (by simp) (fun g => absurd g (by decide +kernel)) (fun _ => w_nil ?_))
      refine w_seq (w_ifD (by simp) (fun g => absurd g (by decide +kernel)) (fun _ => w_nil ?_))
      refine w_seq (w_ifD (by simp) (fun g => absurd g (by decide +kernel)) (fun _ => w_nil ?_))
      refine w_seq (w_par (by simp) (by simp) ?_)
      refine w_seq (w_ifD (by simp) (fun g => absurd g (by decide +kernel)) (fun _ => w_nil ?_))
      refine w_seq (w_ifs (by simp) (fun g => w_end (w_ret (by simp) ?_)) (fun g => w_nil (w_end (w_ret (by simp) ?_))))
      · rw [valA, if_neg (by decide +kernel), if_pos rfl]
        have e : decide (so "max" = so "max") = true := by decide +kernel
        change decide (decide (valA m k a < valA m k b) = decide (so "max" = so "max")) = true at g
        rw [e] at g
        simp at g
        simp [g]
      · rw [valA, if_neg (by decide +kernel), if_pos rfl]
        have e : decide (so "max" = so "max") = true := by decide +kernel
        change decide (decide (valA m k a < valA m k b) = decide (so "max" = so "max")) = false at g
        rw [e] at g
        simp at g
        simp [g]
    ·
      show fr_law_value (n + 1) [mkD m, .int k, .tup [.str (so "min"), amD a, amD b]] = _
      refine se_law_value _ _ _ ?_
      refine w_seq (w_asg (by simp) ?_)
      refine w_seq (w_asg (by simp; omega) ?_)
      refine w_seq (w_ifD (by simp) (fun g => absurd g (by decide +kernel)) (fun _ => w_nil ?_))
      refine w_seq (w_if_con (w_ifD (by simp) (fun g => absurd g (by decide +kernel)) (fun _ => w_nil ?_)))
      refine w_seq (w_ifD (by simp) (fun g => absurd g (by decide +kernel)) (fun _ => w_nil ?_))
      refine w_seq (w_ifD (by simp) (fun g => absurd g (by decide +kernel)) (fun _ => w_nil ?_))
      refine w_seq (w_ifD (by simp) (fun g => absurd g (by decide +kernel)) (fun _ => w_nil ?_))
      refine w_seq (w_ifD (by simp) (fun g => absurd g (by decide +kernel)) (fun _ => w_nil ?_))
      refine w_seq (w_par (by simp) (by simp) ?_)
      refine w_seq (w_ifD (by simp) (fun g => absurd g (by decide +kernel)) (fun _ => w_nil ?_))
      refine w_seq (w_ifs (by simp) (fun g => w_end (w_ret (by simp) ?_)) (fun g => w_nil (w_end (w_ret (by simp) ?_))))
      · rw [valA, if_neg (by decide +kernel), if_neg (by decide +kernel)]
        have e : decide (so "min" = so "max") = false := by decide +kernel
        change decide (decide (valA m k a < valA m k b) = decide (so "min" = so "max")) = true at g
        rw [e] at g
        simp at g
        simp [g]
      · rw [valA, if_neg (by decide +kernel), if_neg (by decide +kernel)]
        have e : decide (so "min" = so "max") = false := by decide +kernel
        change decide (decide (valA m k a < valA m k b) = decide (so "min" = so "max")) = false at g
        rw [e] at g
        simp at g
        simp [g]
theorem e_same_int (a b : Int) : ∀ n : Nat, 0 < n → fr_law_same n [.int a, .int b] = .ok (.bl (decide (a = b))) []
  | 0, h => absurd h (by decide)
  | n + 1, _ => by
    refine se_law_same _ _ ?_
    refine w_seq (w_if_dis (w_ifF (by simp) (w_end (w_if_dis1 (w_ifF (by simp) (w_nil ?_))))))
    refine w_seq (w_if_dis (w_ifF (by simp) (w_end (w_if_dis1 (w_ifF (by simp) (w_nil ?_))))))
    refine w_seq (w_ifT (by simp) ?_)
    refine w_end (w_ret_con (by simp) (fun _ => w_ret_con1 (w_ret (by simp) rfl)) (fun g => by simp at g))
theorem e_same_bl (a b : Bool) : ∀ n : Nat, 0 < n → fr_law_same n [.bl a, .bl b] = .ok (.bl (decide (a = b))) []
  | 0, h => absurd h (by decide)
  | n + 1, _ => by
    refine se_law_same _ _ ?_
    refine w_seq (w_if_dis (w_ifF (by simp) (w_end (w_if_dis1 (w_ifF (by simp) (w_nil ?_))))))
    refine w_seq (w_if_dis (w_ifT (by simp) ?_))
    refine w_end (w_ret_con (by simp) (fun _ => w_ret_con (by simp) (fun _ => w_ret_con1 (w_ret (by simp) rfl)) (fun g => by simp at g)) (fun g => by simp at g))
instance (priority := low) ixq {q : Rat} {k : Int} : Ix (qD q) (.int k) (0 ≤ k ∧ k < 2) (.int (if k = 0 then q.num else q.den)) := ⟨fun h => by
  have : k = 0 ∨ k = 1 := by omega
  rcases this with rfl | rfl <;> rfl⟩
theorem e_same_q (p q : Rat) : ∀ n : Nat, 1 < n → fr_law_same n [qD p, qD q] = .ok (.bl (decide (p = q))) []
  | 0, h => absurd h (by decide)
  | 1, h => absurd h (by decide)
  | n + 2, _ => by
    have i1 : ∀ a b : Int, Sp (fr_law_same (n + 1)) [.int a, .int b] True (.bl (decide (a = b))) [] := fun a b => ⟨fun _ => e_same_int a b (n + 1) (by omega)⟩
    refine se_law_same _ _ ?_
    refine w_seq (w_if_dis (w_ifF (by simp) (w_end (w_if_dis1 (w_ifT (by simp) ?_)))))
    refine w_seq (w_if_dis (w_ifF (by simp) (w_end (w_if_dis1 (w_ifF (by simp) (w_nil ?_))))))
    refine w_seq (w_ifN (P := (2 : Int) = 2) (by simp) (fun g => absurd rfl g) (fun _ => w_nil ?_))
    refine w_end (w_ret ?_ ?_)
    · simp [rngOk, szl]
      intro a ha
      omega
    · have e : (p = q) ↔ (p.num = q.num ∧ (p.den : Int) = q.den) := ⟨fun h => by rw [h]; exact ⟨rfl, rfl⟩, fun h => Rat.ext h.1 (by omega)⟩
      rw [show decide (p = q) = decide (p.num = q.num ∧ (p.den : Int) = q.den) from decide_eq_decide.mpr e]
      simp [List.range_succ]
theorem e_children (m : Mk) (n : Int) (hl : m.nodes.length ≤ 1000) : f_children [mkD m, .int n] = .ok (.lst .frz ((chil m n).map D.int)) [] := by
  have hz := szl
  refine se_children _ _ (w_end (w_ret ?_ ?_))
  · (try simp [rngOk])
    omega
  · simp [chil, Function.comp_def]
instance {m : Mk} {n : Int} : Sp f_children [mkD m, .int n] (m.nodes.length ≤ 1000) (.lst .frz ((chil m n).map D.int)) [] := ⟨e_children m n⟩
theorem e_agrees {w : Str} (hw : w ∈ [so "=", so "!=", so "<", so "<=", so ">", so ">="]) (x y : Rat) : f_agrees [.str w, .int (ordQ x y)] = .ok (.bl (cmpS w x y)) [] := by
  have o1 := ordQ_lt (p := x) (q := y)
  have o2 : 0 < ordQ x y ↔ y < x := by
    unfold ordQ
    split
    · rename_i h
      exact ⟨fun z => absurd z (by decide), fun z => absurd (Rat.le_of_lt h) (Rat.not_le.mpr z)⟩
    · split
      · rename_i h; exact ⟨fun _ => h, fun _ => by decide⟩
      · rename_i h; exact ⟨fun z => absurd z (by decide), fun z => absurd z h⟩
  have o3 : ordQ x y = 0 ↔ x = y := by
    constructor
    · intro h
      have h1 : ¬ x < y := fun z => by have := o1.mpr z; omega
      have h2 : ¬ y < x := fun z => by have := o2.mpr z; omega
      exact Rat.le_antisymm (Rat.not_lt.mp h2) (Rat.not_lt.mp h1)
    · rintro rfl
      have h1 : ¬ ordQ x x < 0 := fun z => Rat.lt_irrefl (ordQ_lt.mp z)
      have h2 : ¬ 0 < ordQ x x := fun z => Rat.lt_irrefl (o2.mp z)
      omega
  simp only [List.mem_cons, List.not_mem_nil, or_false] at hw
  refine se_agrees _ _ ?_
  rcases hw with rfl | rfl | rfl | rfl | rfl | rfl
  · refine w_seq (w_ifD (by simp) (fun _ => w_end (w_ret (by simp) ?_)) (fun g => absurd rfl g))
    rw [cmpS, if_pos rfl]
    simp [o3]
  · refine w_seq (w_ifD (by simp) (fun g => absurd g (by decide +kernel)) (fun _ => w_nil ?_))
    refine w_seq (w_ifD (by simp) (fun _ => w_end (w_ret (by simp) ?_)) (fun g => absurd rfl g))
    rw [cmpS, if_neg (by decide +kernel), if_pos rfl]
    simp [o3]
  · refine w_seq (w_ifD (by simp) (fun g => absurd g (by decide +kernel)) (fun _ => w_nil ?_))
    refine w_seq (w_ifD (by simp) (fun g => absurd g (by decide +kernel)) (fun _ => w_nil ?_))
    refine w_seq (w_ifD (by simp) (fun _ => w_end (w_ret (by simp) ?_)) (fun g => absurd rfl g))
    rw [cmpS, if_neg (by decide +kernel), if_neg (by decide +kernel), if_pos rfl]
    simp [o1]
  · refine w_seq (w_ifD (by simp) (fun g => absurd g (by decide +kernel)) (fun _ => w_nil ?_))
    refine w_seq (w_ifD (by simp) (fun g => absurd g (by decide +kernel)) (fun _ => w_nil ?_))
    refine w_seq (w_ifD (by simp) (fun g => absurd g (by decide +kernel)) (fun _ => w_nil ?_))
    refine w_seq (w_ifD (by simp) (fun _ => w_end (w_ret (by simp) ?_)) (fun g => absurd rfl g))
    rw [cmpS, if_neg (by decide +kernel), if_neg (by decide +kernel), if_neg (by decide +kernel), if_pos rfl]
    have : (ordQ x y ≤ 0) ↔ ¬ y < x := by rw [← o2]; omega
    simp [this]
  · refine w_seq (w_ifD (by simp) (fun g => absurd g (by decide +kernel)) (fun _ => w_nil ?_))
    refine w_seq (w_ifD (by simp) (fun g => absurd g (by decide +kernel)) (fun _ => w_nil ?_))
    refine w_seq (w_ifD (by simp) (fun g => absurd g (by decide +kernel)) (fun _ => w_nil ?_))
    refine w_seq (w_ifD (by simp) (fun g => absurd g (by decide +kernel)) (fun _ => w_nil ?_))
    refine w_seq (w_ifD (by simp) (fun _ => w_end (w_ret (by simp) ?_)) (fun g => absurd rfl g))
    rw [cmpS, if_neg (by decide +kernel), if_neg (by decide +kernel), if_neg (by decide +kernel), if_neg (by decide +kernel), if_pos rfl]
    simp [o2]
  · refine w_seq (w_ifD (by simp) (fun g => absurd g (by decide +kernel)) (fun _ => w_nil ?_))
    refine w_seq (w_ifD (by simp) (fun g => absurd g (by decide +kernel)) (fun _ => w_nil ?_))
    refine w_seq (w_ifD (by simp) (fun g => absurd g (by decide +kernel)) (fun _ => w_nil ?_))
    refine w_seq (w_ifD (by simp) (fun g => absurd g (by decide +kernel)) (fun _ => w_nil ?_))
    refine w_seq (w_ifD (by simp) (fun g => absurd g (by decide +kernel)) (fun _ => w_nil ?_))
    refine w_end (w_ret (by simp) ?_)
    rw [cmpS, if_neg (by decide +kernel), if_neg (by decide +kernel), if_neg (by decide +kernel), if_neg (by decide +kernel), if_neg (by decide +kernel)]
    have : (0 ≤ ordQ x y) ↔ ¬ x < y := by rw [← o1]; omega
    simp [this]
theorem chil_nil (m : Mk) (k : Int) : chil m k = [] ↔ k ∉ parL m := by
  have h0 : 0 < (chil m k).length ↔ k ∈ parL m := by
    constructor
    · intro h
      obtain ⟨j, hj⟩ := List.exists_mem_of_length_pos h
      have := chil_in hj
      rw [← this.2.2]
      exact List.mem_map.mpr ⟨_, atE_mem ⟨this.1, this.2.1⟩, rfl⟩
    · intro h
      obtain ⟨v, hv, e⟩ := List.mem_map.mp h
      obtain ⟨i, hi, rfl⟩ := List.mem_iff_getElem.mp hv
      refine List.length_pos_of_mem (a := (i : Int)) ?_
      unfold chil
      refine List.mem_map.mpr ⟨i, List.mem_filter.mpr ⟨List.mem_range.mpr hi, decide_eq_true ?_⟩, rfl⟩
      rw [← e]
      simp [atE, hi]
  rw [← h0]
  cases chil m k <;> simp
theorem e_holds_at {m : Mk} (hm : MwOk m 13) {k : Int} (hk : 0 ≤ k ∧ k < m.nodes.length) {d : Nat} {a : Cn} (h : CnW m d a) (hd : d ≤ 5) : ∀ n : Nat, d < n → fr_holds_at n [mkD m, .int k, cnD a] = .ok (.bl (holC m k a)) [] := by
  have hz := szl
  have hl := hm.len
  induction h with
  | leaf =>
    intro n hn
    obtain ⟨n, rfl⟩ : ∃ m, n = m + 1 := ⟨n - 1, by omega⟩
    have hc := chil_len m k
    show fr_holds_at (n + 1) [mkD m, .int k, .tup [.str (so "leaf")]] = _
    refine se_holds_at _ _ _ ?_
    refine w_seq (w_asg (by simp) ?_)
    refine w_seq (w_ifD (by simp) (fun _ => ?_) (fun g => absurd rfl g))
    refine w_end (w_ret ?_ ?_)
    · simp [szOk, szl]
      omega
    · rw [holC]
  | cmp hw ha hb =>
    rename_i d w a b
    intro n hn
    obtain ⟨n, rfl⟩ : ∃ m, n = m + 1 := ⟨n - 1, by omega⟩
    haveI b1 : Qb (valA m k a) 656 := (valA_b hm hk ha).mono (by decide)
    haveI b2 : Qb (valA m k b) 656 := (valA_b hm hk hb).mono (by decide)
    haveI : Sp f_amount_at [mkD m, .int k, amD a] True (qD (valA m k a)) [] := ⟨fun _ => e_amount_at hm hk ha (by decide) 8 (by decide)⟩
    haveI : Sp f_amount_at [mkD m, .int k, amD b] True (qD (valA m k b)) [] := ⟨fun _ => e_amount_at hm hk hb (by decide) 8 (by decide)⟩
    haveI : Sp f_agrees [.str w, .int (ordQ (valA m k a) (valA m k b))] True (.bl (cmpS w (valA m k a) (valA m k b))) [] := ⟨fun _ => e_agrees hw _ _⟩
    show fr_holds_at (n + 1) [mkD m, .int k, .tup [.str (so "compare"), .str w, amD a, amD b]] = _
    refine se_holds_at _ _ _ ?_
    refine w_seq (w_asg (by simp) ?_)
    refine w_seq (w_ifD (by simp) (fun g => absurd g (by decide +kernel)) (fun _ => w_nil ?_))
    refine w_seq (w_ifD (by simp) (fun _ => ?_) (fun g => absurd rfl g))
    refine w_seq (w_par (by simp) (by simp) ?_)
    exact w_end (w_ret (by simp) rfl)
  | not hc ih =>
    rename_i d c
    intro n hn
    obtain ⟨n, rfl⟩ : ∃ m, n = m + 1 := ⟨n - 1, by omega⟩
    have e1 := ih (by omega) n (by omega)
    haveI : Sp (fr_holds_at n) [mkD m, .int k, cnD c] True (.bl (holC m k c)) [] := ⟨fun _ => e1⟩
    show fr_holds_at (n + 1) [mkD m, .int k, .tup [.str (so "not"), cnD c]] = _
    refine se_holds_at _ _ _ ?_
    refine w_seq (w_asg (by simp) ?_)
    refine w_seq (w_ifD (by simp) (fun g => absurd g (by decide +kernel)) (fun _ => w_nil ?_))
    refine w_seq (w_ifD (by simp) (fun g => absurd g (by decide +kernel)) (fun _ => w_nil ?_))
    refine w_seq (w_ifD (by simp) (fun _ => ?_) (fun g => absurd rfl g))
    exact w_end (w_ret (by simp) rfl)
  | bin hw ha hb ih1 ih2 =>
    rename_i d w a b
    intro n hn
    obtain ⟨n, rfl⟩ : ∃ m, n = m + 1 := ⟨n - 1, by omega⟩
    have e1 := ih1 (by omega) n (by omega)
    have e2 := ih2 (by omega) n (by omega)
    haveI : Sp (fr_holds_at n) [mkD m, .int k, cnD a] True (.bl (holC m k a)) [] := ⟨fun _ => e1⟩
    haveI : Sp (fr_holds_at n) [mkD m, .int k, cnD b] True (.bl (holC m k b)) [] := ⟨fun _ => e2⟩
    rcases hw with rfl | rfl
    · show fr_holds_at (n + 1) [mkD m, .int k, .tup [.str (so "and"), cnD a, cnD b]] = _
      refine se_holds_at _ _ _ ?_
      refine w_seq (w_asg (by simp) ?_)
      refine w_seq (w_ifD (by simp) (fun g => absurd g (by decide +kernel)) (fun _ => w_nil ?_))
      refine w_seq (w_ifD (by simp) (fun g => absurd g (by decide +kernel)) (fun _ => w_nil ?_))
      refine w_seq (w_ifD (by simp) (fun g => absurd g (by decide +kernel)) (fun _ => w_nil ?_))
      refine w_seq (w_ifD (by simp) (fun _ => ?_) (fun g => absurd rfl g))
      refine w_end (w_ret_con (by simp) (fun g => w_ret_con1 (w_ret (by simp) ?_)) (fun g => ?_))
      · rw [holC, if_pos rfl, g, Bool.true_and]
      · rw [holC, if_pos rfl, g, Bool.false_and]
    · show fr_holds_at (n + 1) [mkD m, .int k, .tup [.str (so "or"), cnD a, cnD b]] = _
      refine se_holds_at _ _ _ ?_
      refine w_seq (w_asg (by simp) ?_)
      refine w_seq (w_ifD (by simp) (fun g => absurd g (by decide +kernel)) (fun _ => w_nil ?_))
      refine w_seq (w_ifD (by simp) (fun g => absurd g (by decide +kernel)) (fun _ => w_nil ?_))
      refine w_seq (w_ifD (by simp) (fun g => absurd g (by decide +kernel)) (fun _ => w_nil ?_))
      refine w_seq (w_ifD (by simp) (fun g => absurd g (by decide +kernel)) (fun _ => w_nil ?_))
      refine w_end (w_ret_dis (by simp) (fun g => ?_) (fun g => w_ret_dis1 (w_ret (by simp) ?_)))
      · rw [holC, if_neg (by decide +kernel), g, Bool.true_or]
      · rw [holC, if_neg (by decide +kernel), g, Bool.false_or]
theorem e_law_holds {m : Mk} (hm : MwOk m 13) {k : Int} (hk : 0 ≤ k ∧ k < m.nodes.length) {d : Nat} {a : Cn} (h : CnW m d a) (hd : d ≤ 5) : ∀ n : Nat, d < n → fr_law_holds n [mkD m, .int k, cnD a] = .ok (.bl (holC m k a)) [] := by
  have hz := szl
  have hl := hm.len
  induction h with
  | leaf =>
    intro n hn
    obtain ⟨n, rfl⟩ : ∃ m, n = m + 1 := ⟨n - 1, by omega⟩
    show fr_law_holds (n + 1) [mkD m, .int k, .tup [.str (so "leaf")]] = _
    refine se_law_holds _ _ _ ?_
    refine w_seq (w_asg (by simp) ?_)
    refine w_seq (w_ifD (by simp) (fun _ => ?_) (fun g => absurd rfl g))
    refine w_end (w_ret ?_ ?_)
    · simp [szl]
      omega
    · have e : (List.map (fun a : Nd => decide (a.par = k)) m.nodes).any id = decide (k ∈ parL m) := by
        rw [Bool.eq_iff_iff]
        simp [parL]
      rw [e, holC, show decide (chil m k = []) = decide (k ∉ parL m) from decide_eq_decide.mpr (chil_nil m k)]
      simp
  | cmp hw ha hb =>
    rename_i d w a b
    intro n hn
    obtain ⟨n, rfl⟩ : ∃ m, n = m + 1 := ⟨n - 1, by omega⟩
    haveI b1 : Qb (valA m k a) 656 := (valA_b hm hk ha).mono (by decide)
    haveI b2 : Qb (valA m k b) 656 := (valA_b hm hk hb).mono (by decide)
    haveI : Sp f_law_value [mkD m, .int k, amD a] True (qD (valA m k a)) [] := ⟨fun _ => e_law_value hm hk ha (by decide) 8 (by decide)⟩
    haveI : Sp f_law_value [mkD m, .int k, amD b] True (qD (valA m k b)) [] := ⟨fun _ => e_law_value hm hk hb (by decide) 8 (by decide)⟩
    show fr_law_holds (n + 1) [mkD m, .int k, .tup [.str (so "compare"), .str w, amD a, amD b]] = _
    refine se_law_holds _ _ _ ?_
    refine w_seq (w_asg (by simp) ?_)
    refine w_seq (w_ifD (by simp) (fun g => absurd g (by decide +kernel)) (fun _ => w_nil ?_))
    refine w_seq (w_ifD (by simp) (fun _ => ?_) (fun g => absurd rfl g))
    refine w_seq (w_asg (by simp) ?_)
    refine w_seq (w_asg (by simp) ?_)
    refine w_seq (w_par (by simp) (by simp) ?_)
    refine w_dret (d := .bl (cmpS w (valA m k a) (valA m k b))) (by simp) (by simp) (by decide +kernel) rfl rfl (by simp) ?_ rfl
    simp only [List.mem_cons, List.not_mem_nil, or_false] at hw
    rcases hw with rfl | rfl | rfl | rfl | rfl | rfl
    · rw [lk, if_pos rfl]
      rw [cmpS, if_pos rfl]
    · rw [lk, if_neg (by decide +kernel), lk, if_pos rfl]
      rw [cmpS, if_neg (by decide +kernel), if_pos rfl]
      simp
    · rw [lk, if_neg (by decide +kernel), lk, if_neg (by decide +kernel), lk, if_pos rfl]
      rw [cmpS, if_neg (by decide +kernel), if_neg (by decide +kernel), if_pos rfl]
    · rw [lk, if_neg (by decide +kernel), lk, if_neg (by decide +kernel), lk, if_neg (by decide +kernel), lk, if_pos rfl]
      rw [cmpS, if_neg (by decide +kernel), if_neg (by decide +kernel), if_neg (by decide +kernel), if_pos rfl]
    · rw [lk, if_neg (by decide +kernel), lk, if_neg (by decide +kernel), lk, if_neg (by decide +kernel), lk, if_neg (by decide +kernel), lk, if_pos rfl]
      rw [cmpS, if_neg (by decide +kernel), if_neg (by decide +kernel), if_neg (by decide +kernel), if_neg (by decide +kernel), if_pos rfl]
    · rw [lk, if_neg (by decide +kernel), lk, if_neg (by decide +kernel), lk, if_neg (by decide +kernel), lk, if_neg (by decide +kernel), lk, if_neg (by decide +kernel), lk, if_pos rfl]
      rw [cmpS, if_neg (by decide +kernel), if_neg (by decide +kernel), if_neg (by decide +kernel), if_neg (by decide +kernel), if_neg (by decide +kernel)]
  | not hc ih =>
    rename_i d c
    intro n hn
    obtain ⟨n, rfl⟩ : ∃ m, n = m + 1 := ⟨n - 1, by omega⟩
    have e1 := ih (by omega) n (by omega)
    haveI : Sp (fr_law_holds n) [mkD m, .int k, cnD c] True (.bl (holC m k c)) [] := ⟨fun _ => e1⟩
    show fr_law_holds (n + 1) [mkD m, .int k, .tup [.str (so "not"), cnD c]] = _
    refine se_law_holds _ _ _ ?_
    refine w_seq (w_asg (by simp) ?_)
    refine w_seq (w_ifD (by simp) (fun g => absurd g (by decide +kernel)) (fun _ => w_nil ?_))
    refine w_seq (w_ifD (by simp) (fun g => absurd g (by decide +kernel)) (fun _ => w_nil ?_))
    refine w_seq (w_ifD (by simp) (fun _ => ?_) (fun g => absurd rfl g))
    exact w_end (w_ret (by simp) rfl)
  | bin hw ha hb ih1 ih2 =>
    rename_i d w a b
    intro n hn
    obtain ⟨n, rfl⟩ : ∃ m, n = m + 1 := ⟨n - 1, by omega⟩
    have e1 := ih1 (by omega) n (by omega)
    have e2 := ih2 (by omega) n (by omega)
    haveI : Sp (fr_law_holds n) [mkD m, .int k, cnD a] True (.bl (holC m k a)) [] := ⟨fun _ => e1⟩
    haveI : Sp (fr_law_holds n) [mkD m, .int k, cnD b] True (.bl (holC m k b)) [] := ⟨fun _ => e2⟩
    rcases hw with rfl | rfl
    · show fr_law_holds (n + 1) [mkD m, .int k, .tup [.str (so "and"), cnD a, cnD b]] = _
      refine se_law_holds _ _ _ ?_
      refine w_seq (w_asg (by simp) ?_)
      refine w_seq (w_ifD (by simp) (fun g => absurd g (by decide +kernel)) (fun _ => w_nil ?_))
      refine w_seq (w_ifD (by simp) (fun g => absurd g (by decide +kernel)) (fun _ => w_nil ?_))
      refine w_seq (w_ifD (by simp) (fun g => absurd g (by decide +kernel)) (fun _ => w_nil ?_))
      refine w_seq (w_asg (by simp) ?_)
      refine w_seq (w_asg (by simp) ?_)
      refine w_seq (w_ifD (by simp) (fun _ => ?_) (fun g => absurd rfl g))
      refine w_end (w_ret_con (by simp) (fun g => w_ret_con1 (w_ret (by simp) ?_)) (fun g => ?_))
      · rw [holC, if_pos rfl, g, Bool.true_and]
      · rw [holC, if_pos rfl, g, Bool.false_and]
    · show fr_law_holds (n + 1) [mkD m, .int k, .tup [.str (so "or"), cnD a, cnD b]] = _
      refine se_law_holds _ _ _ ?_
      refine w_seq (w_asg (by simp) ?_)
      refine w_seq (w_ifD (by simp) (fun g => absurd g (by decide +kernel)) (fun _ => w_nil ?_))
      refine w_seq (w_ifD (by simp) (fun g => absurd g (by decide +kernel)) (fun _ => w_nil ?_))
      refine w_seq (w_ifD (by simp) (fun g => absurd g (by decide +kernel)) (fun _ => w_nil ?_))
      refine w_seq (w_asg (by simp) ?_)
      refine w_seq (w_asg (by simp) ?_)
      refine w_seq (w_ifD (by simp) (fun g => absurd g (by decide +kernel)) (fun _ => w_nil ?_))
      refine w_end (w_ret_dis (by simp) (fun g => ?_) (fun g => w_ret_dis1 (w_ret (by simp) ?_)))
      · rw [holC, if_neg (by decide +kernel), g, Bool.true_or]
      · rw [holC, if_neg (by decide +kernel), g, Bool.false_or]
end PD
set_option Elab.async false
set_option linter.all false
set_option maxRecDepth 100000
set_option maxHeartbeats 8000000
set_option synthInstance.maxHeartbeats 0
set_option synthInstance.maxSize 100000
namespace PD
open PySem L2
local macro_rules | `(tactic| decreasing_trivial) => `(tactic| first | ((try simp [mulOk, rngOk, szOk, szl]) <;> (try and_intros) <;> (try intros) <;> (try and_intros) <;> first | done | rfl | omega | assumption | decide) | ((try and_intros) <;> (try intros) <;> (try and_intros) <;> first | trivial | rfl | assumption | omega | (simp [mulOk, rngOk, szOk, szl] <;> omega)))
local macro_rules | `(tactic| get_elem_tactic_trivial) => `(tactic| first | exact w_nil (by assumption) | refine w_seq (w_wip ?_) | refine w_end (w_wip ?_) | refine w_end (w_ret (by decreasing_trivial) ?_) | refine w_seq (w_asg (by decreasing_trivial) ?_) | refine w_end (w_asg (by decreasing_trivial) ?_))
theorem cut_lenN {α : Type} (ds : List α) (lo : Nat) (h : lo ≤ ds.length) : (cutA ds (some (lo : Int)) none).length = ds.length - lo := by
  unfold cutA
  rw [HT.sIx_nat, HT.sIx_none]
  simp only [List.length_take, List.length_drop]
  omega
theorem law_true (ns : List Int) (hl : ns.length ≤ 63) : f_law [.lst .frz (ns.map D.int)] = .ok (.bl true) [] := by
  have hz := szl
  refine se_law _ ?_
  refine w_seq (w_asg (by simp; omega) ?_)
  obtain ⟨hd, hm, hb⟩ := drawsL_spec ns 420 (by omega)
  generalize drawsL ns 420 = ms at *
  have p0 := atZ_bd (by decide) hb 0
  have p1 := atZ_bd (by decide) hb 1
  obtain ⟨_, e1, ss, rfl, h8, hs⟩ := e_law_names (atZ ms 0) (atZ ms 1) (by omega) (by omega)
  haveI : Sp f_law_names [.int (atZ ms 0), .int (atZ ms 1), .int 8] True (.lst .frz (ss.map D.str)) [] := ⟨fun _ => e1⟩
  refine w_seq (w_asg (by simp; omega) ?_)
  have l1 := cut_lenZ ms 2 132 (by omega) (by omega) (by omega)
  obtain ⟨_, e2, m, rfl, hM⟩ := e_law_market (cutA ms (some 2) (some 132)) ss (by omega) h8 hs
  haveI : Sp f_law_market [.lst .frz ((cutA ms (some 2) (some 132)).map D.int), .lst .frz (ss.map D.str)] True (mkD m) [] := ⟨fun _ => e2⟩
  have hL := hM.len
  refine w_seq (w_asg (by simp) ?_)
  refine w_seq (w_asg (by simp) ?_)
  refine w_cut (fun ρ => ∃ rs : List Int, ρ = [some (.lst .frz (ns.map D.int)), some (.lst .frz (ms.map D.int)), some (.lst .frz (ss.map D.str)), some (mkD m), some (.lst .own (rs.map D.int)), ρ.getD 5 none, none, none, none, none]) ?_ ?_
  · refine w_forr (i := 0) (by simp [rngOk]) (fun k ρ => ∃ rs : List Int, ρ = [some (.lst .frz (ns.map D.int)), some (.lst .frz (ms.map D.int)), some (.lst .frz (ss.map D.str)), some (mkD m), some (.lst .own (rs.map D.int)), none, none, none, none, none]) (by decide) ⟨_, rfl⟩ ?_ ?_
    · rintro ρ ⟨rs, rfl⟩
      exact ⟨rs, rfl⟩
    · rintro k ρ hk0 hk1 ⟨rs, rfl⟩
      obtain ⟨_, _, e3, a, r1, rfl, rfl, hA⟩ := e_law_amount m hM 3 8 rs (by decide) (by decide)
      haveI : Sp f_law_amount [mkD m, .lst .own (rs.map D.int), .int 3] True (amD a) [.lst .own (r1.map D.int)] := ⟨fun _ => e3⟩
      obtain ⟨_, _, e4, c, r2, rfl, rfl, hC⟩ := e_law_condition m hM 3 8 r1 (by decide) (by decide)
      haveI : Sp f_law_condition [mkD m, .lst .own (r1.map D.int), .int 3] True (cnD c) [.lst .own (r2.map D.int)] := ⟨fun _ => e4⟩
      have hR : repOk (D.tup [mkD m, amD a, cnD c]).strip = true := rp_ok (rp_tup (rpl_cons (rp_mw hM (by decide)) (rpl_cons (rp_am hM hA) (rpl_cons (rp_cn hM hC) (rpl_nil (k := 0)))))) (by decide) (by decide)
      refine w_st ?_
      refine w_seq (w_asg (by simp) ?_)
      refine w_seq (w_asg (by simp) ?_)
      refine w_seq (w_asgI (by simp; omega) fun nd hnd => ?_)
      have hn : 0 ≤ nd ∧ nd < m.nodes.length := by
        rw [hnd]
        exact ⟨Int.emod_nonneg _ (by omega), Int.emod_lt_of_pos _ (by omega)⟩
      clear hnd
      refine w_seq (w_asgS (by simp [szOk, szl]; exact hR) fun kept hkept => ?_)
      haveI : Sp f_amount_at [mkD m, .int nd, amD a] True (qD (valA m nd a)) [] := ⟨fun _ => e_amount_at hM hn hA (by decide) 8 (by decide)⟩
      haveI : Sp f_law_value [mkD m, .int nd, amD a] True (qD (valA m nd a)) [] := ⟨fun _ => e_law_value hM hn hA (by decide) 8 (by decide)⟩
      haveI : Sp f_holds_at [mkD m, .int nd, cnD c] True (.bl (holC m nd c)) [] := ⟨fun _ => e_holds_at hM hn hC (by decide) 8 (by decide)⟩
      haveI : Sp f_law_holds [mkD m, .int nd, cnD c] True (.bl (holC m nd c)) [] := ⟨fun _ => e_law_holds hM hn hC (by decide) 8 (by decide)⟩
      haveI : Sp f_law_same [qD (valA m nd a), qD (valA m nd a)] True (.bl true) [] := ⟨fun _ => by
        have := e_same_q (valA m nd a) (valA m nd a) 8 (by decide)
        rwa [decide_eq_true rfl] at this⟩
      haveI : Sp f_law_same [.bl (holC m nd c), .bl (holC m nd c)] True (.bl true) [] := ⟨fun _ => by
        have := e_same_bl (holC m nd c) (holC m nd c) 8 (by decide)
        rwa [decide_eq_true rfl] at this⟩
      refine w_seq (w_if_not (w_ifT (by simp) (w_nil ?_)))
      refine w_seq (w_if_not (w_ifT (by simp) (w_nil ?_)))
      refine w_seq (w_ifN (P := (D.tup [mkD m, amD a, cnD c]).strip.shown = kept) (by simp [szOk, szl]; exact hR) (fun g => absurd hkept.symm g) (fun _ => w_nil ?_))
      exact w_end (w_wip ⟨r2, rfl⟩)
  · rintro ρ ⟨rs, e⟩
    rw [e]
    exact w_seq (w_wip (w_end (w_ret (by simp) rfl)))
end PD
set_option Elab.async false
set_option linter.all false
set_option maxRecDepth 100000
set_option maxHeartbeats 8000000
set_option synthInstance.maxHeartbeats 0
set_option synthInstance.maxSize 100000
namespace PD
open PySem L2
local macro_rules | `(tactic| decreasing_trivial) => `(tactic| first | ((try simp [mulOk, rngOk, szOk, szl]) <;> (try and_intros) <;> (try intros) <;> (try and_intros) <;> first | done | rfl | omega | assumption | decide) | ((try and_intros) <;> (try intros) <;> (try and_intros) <;> first | trivial | rfl | assumption | omega | (simp [mulOk, rngOk, szOk, szl] <;> omega)))
local macro_rules | `(tactic| get_elem_tactic_trivial) => `(tactic| first | exact w_nil (by assumption) | refine w_seq (w_wip ?_) | refine w_end (w_wip ?_) | refine w_end (w_ret (by decreasing_trivial) ?_) | refine w_seq (w_asg (by decreasing_trivial) ?_) | refine w_end (w_asg (by decreasing_trivial) ?_))
abbrev t_law_draws : Stmt := PySem.Challenge.pw_surehedge_k18_amounts_and_conditions.main.body.getD 15 (.Pass ⟨0, 0, 0, 0⟩)
def s_law_draws : Sx := { N := ["_law_script", "_law_count", "_law_rests", "_law_draws_here", "_law_k", "_law_value_here", "_law_cell", "_law_at", "_law_mixed"], sc := defScope t_law_draws, fns := [], gls := [], bns := ["range", "len", "int"], gcd := false, gd := false }
theorem sc_law_draws : FnScope ["_law_script", "_law_count", "_law_rests", "_law_draws_here", "_law_k", "_law_value_here", "_law_cell", "_law_at", "_law_mixed"] ["_law_script", "_law_count"] (defScope t_law_draws) := ⟨rfl, rfl, rfl, by decide +kernel, rfl, by decide +kernel, by decide +kernel⟩
theorem k_law_draws : okSs s_law_draws c_law_draws.body (defBody t_law_draws) = true := by decide +kernel
abbrev t_law_names : Stmt := PySem.Challenge.pw_surehedge_k18_amounts_and_conditions.main.body.getD 16 (.Pass ⟨0, 0, 0, 0⟩)
def s_law_names : Sx := { N := ["_law_first", "_law_second", "_law_many", "_law_letters", "_law_signs", "_law_size", "_law_text", "_law_place", "_law_k"], sc := defScope t_law_names, fns := [], gls := [], bns := ["int", "range"], gcd := false, gd := false }
theorem sc_law_names : FnScope ["_law_first", "_law_second", "_law_many", "_law_letters", "_law_signs", "_law_size", "_law_text", "_law_place", "_law_k"] ["_law_first", "_law_second", "_law_many"] (defScope t_law_names) := ⟨rfl, rfl, rfl, by decide +kernel, rfl, by decide +kernel, by decide +kernel⟩
theorem k_law_names : okSs s_law_names c_law_names.body (defBody t_law_names) = true := by decide +kernel
abbrev t_law_lowest : Stmt := PySem.Challenge.pw_surehedge_k18_amounts_and_conditions.main.body.getD 17 (.Pass ⟨0, 0, 0, 0⟩)
def s_law_lowest : Sx := { N := ["_law_n", "_law_d", "_law_step", "_law_one", "_law_other"], sc := defScope t_law_lowest, fns := [], gls := [], bns := ["range", "int"], gcd := false, gd := false }
theorem sc_law_lowest : FnScope ["_law_n", "_law_d", "_law_step", "_law_one", "_law_other"] ["_law_n", "_law_d"] (defScope t_law_lowest) := ⟨rfl, rfl, rfl, by decide +kernel, rfl, by decide +kernel, by decide +kernel⟩
theorem k_law_lowest : okSs s_law_lowest c_law_lowest.body (defBody t_law_lowest) = true := by decide +kernel
abbrev t_law_number : Stmt := PySem.Challenge.pw_surehedge_k18_amounts_and_conditions.main.body.getD 18 (.Pass ⟨0, 0, 0, 0⟩)
def s_law_number : Sx := { N := ["_law_draw", "_law_more"], sc := defScope t_law_number, fns := ["_law_lowest"], gls := [], bns := ["int"], gcd := false, gd := false }
theorem sc_law_number : FnScope ["_law_draw", "_law_more"] ["_law_draw", "_law_more"] (defScope t_law_number) := ⟨rfl, rfl, rfl, by decide +kernel, rfl, by decide +kernel, by decide +kernel⟩
theorem k_law_number : okSs s_law_number c_law_number.body (defBody t_law_number) = true := by decide +kernel
abbrev t_law_market : Stmt := PySem.Challenge.pw_surehedge_k18_amounts_and_conditions.main.body.getD 22 (.Pass ⟨0, 0, 0, 0⟩)
def s_law_market : Sx := { N := ["_law_draws_here", "_law_names_here", "_law_assets", "_law_seen", "_law_many", "_law_nodes", "_law_k", "_law_here", "_law_parent", "_law_growth", "_law_rules", "_law_prices", "_law_payouts", "_law_values", "_law_j"], sc := defScope t_law_market, fns := ["_law_lowest", "_law_number"], gls := [], bns := ["int", "range", "len"], gcd := false, gd := false }
theorem sc_law_market : FnScope ["_law_draws_here", "_law_names_here", "_law_assets", "_law_seen", "_law_many", "_law_nodes", "_law_k", "_law_here", "_law_parent", "_law_growth", "_law_rules", "_law_prices", "_law_payouts", "_law_values", "_law_j"] ["_law_draws_here", "_law_names_here"] (defScope t_law_market) := ⟨rfl, rfl, rfl, by decide +kernel, rfl, by decide +kernel, by decide +kernel⟩
theorem k_law_market : okSs s_law_market c_law_market.body (defBody t_law_market) = true := by decide +kernel
abbrev t_law_take : Stmt := PySem.Challenge.pw_surehedge_k18_amounts_and_conditions.main.body.getD 23 (.Pass ⟨0, 0, 0, 0⟩)
def s_law_take : Sx := { N := ["_law_draws_here"], sc := defScope t_law_take, fns := [], gls := [], bns := ["len"], gcd := false, gd := false }
theorem sc_law_take : FnScope ["_law_draws_here"] ["_law_draws_here"] (defScope t_law_take) := ⟨rfl, rfl, rfl, by decide +kernel, rfl, by decide +kernel, by decide +kernel⟩
theorem k_law_take : okSs s_law_take c_law_take.body (defBody t_law_take) = true := by decide +kernel
abbrev t_law_amount : Stmt := PySem.Challenge.pw_surehedge_k18_amounts_and_conditions.main.body.getD 24 (.Pass ⟨0, 0, 0, 0⟩)
def s_law_amount : Sx := { N := ["_law_market_here", "_law_draws_here", "_law_depth_here", "_law_draw", "_law_more", "_law_kind", "_law_left"], sc := defScope t_law_amount, fns := ["_law_take", "_law_number", "_law_amount"], gls := [], bns := ["int", "len"], gcd := false, gd := false }
theorem sc_law_amount : FnScope ["_law_market_here", "_law_draws_here", "_law_depth_here", "_law_draw", "_law_more", "_law_kind", "_law_left"] ["_law_market_here", "_law_draws_here", "_law_depth_here"] (defScope t_law_amount) := ⟨rfl, rfl, rfl, by decide +kernel, rfl, by decide +kernel, by decide +kernel⟩
theorem k_law_amount : okSs s_law_amount c_law_amount.body (defBody t_law_amount) = true := by decide +kernel
abbrev t_law_condition : Stmt := PySem.Challenge.pw_surehedge_k18_amounts_and_conditions.main.body.getD 25 (.Pass ⟨0, 0, 0, 0⟩)
def s_law_condition : Sx := { N := ["_law_market_here", "_law_draws_here", "_law_depth_here", "_law_draw", "_law_kind", "_law_left", "_law_sign"], sc := defScope t_law_condition, fns := ["_law_take", "_law_amount", "_law_condition"], gls := [], bns := ["int", "min"], gcd := false, gd := false }
theorem sc_law_condition : FnScope ["_law_market_here", "_law_draws_here", "_law_depth_here", "_law_draw", "_law_kind", "_law_left", "_law_sign"] ["_law_market_here", "_law_draws_here", "_law_depth_here"] (defScope t_law_condition) := ⟨rfl, rfl, rfl, by decide +kernel, rfl, by decide +kernel, by decide +kernel⟩
theorem k_law_condition : okSs s_law_condition c_law_condition.body (defBody t_law_condition) = true := by decide +kernel
abbrev t_named : Stmt := PySem.Challenge.pw_surehedge_k18_amounts_and_conditions.main.body.getD 10 (.Pass ⟨0, 0, 0, 0⟩)
def s_named : Sx := { N := ["market", "node", "name", "assets", "seen", "nodes"], sc := defScope t_named, fns := [], gls := [], bns := [], gcd := false, gd := false }
theorem sc_named : FnScope ["market", "node", "name", "assets", "seen", "nodes"] ["market", "node", "name"] (defScope t_named) := ⟨rfl, rfl, rfl, by decide +kernel, rfl, by decide +kernel, by decide +kernel⟩
theorem k_named : okSs s_named c_named.body (defBody t_named) = true := by decide +kernel
abbrev t_path_to : Stmt := PySem.Challenge.pw_surehedge_k18_amounts_and_conditions.main.body.getD 8 (.Pass ⟨0, 0, 0, 0⟩)
def s_path_to : Sx := { N := ["market", "node", "path", "step"], sc := defScope t_path_to, fns := [], gls := [], bns := ["range", "len"], gcd := false, gd := false }
theorem sc_path_to : FnScope ["market", "node", "path", "step"] ["market", "node"] (defScope t_path_to) := ⟨rfl, rfl, rfl, by decide +kernel, rfl, by decide +kernel, by decide +kernel⟩
theorem k_path_to : okSs s_path_to c_path_to.body (defBody t_path_to) = true := by decide +kernel
abbrev t_number : Stmt := PySem.Challenge.pw_surehedge_k18_amounts_and_conditions.main.body.getD 2 (.Pass ⟨0, 0, 0, 0⟩)
def s_number : Sx := { N := ["n", "d", "common"], sc := defScope t_number, fns := [], gls := [], bns := [], gcd := true, gd := false }
theorem sc_number : FnScope ["n", "d", "common"] ["n", "d"] (defScope t_number) := ⟨rfl, rfl, rfl, by decide +kernel, rfl, by decide +kernel, by decide +kernel⟩
theorem k_number : okSs s_number c_number.body (defBody t_number) = true := by decide +kernel
abbrev t_times : Stmt := PySem.Challenge.pw_surehedge_k18_amounts_and_conditions.main.body.getD 5 (.Pass ⟨0, 0, 0, 0⟩)
def s_times : Sx := { N := ["a", "b"], sc := defScope t_times, fns := ["number"], gls := [], bns := [], gcd := false, gd := false }
theorem sc_times : FnScope ["a", "b"] ["a", "b"] (defScope t_times) := ⟨rfl, rfl, rfl, by decide +kernel, rfl, by decide +kernel, by decide +kernel⟩
theorem k_times : okSs s_times c_times.body (defBody t_times) = true := by decide +kernel
abbrev t_plus : Stmt := PySem.Challenge.pw_surehedge_k18_amounts_and_conditions.main.body.getD 4 (.Pass ⟨0, 0, 0, 0⟩)
def s_plus : Sx := { N := ["a", "b"], sc := defScope t_plus, fns := ["number"], gls := [], bns := [], gcd := false, gd := false }
theorem sc_plus : FnScope ["a", "b"] ["a", "b"] (defScope t_plus) := ⟨rfl, rfl, rfl, by decide +kernel, rfl, by decide +kernel, by decide +kernel⟩
theorem k_plus : okSs s_plus c_plus.body (defBody t_plus) = true := by decide +kernel
abbrev t_compare : Stmt := PySem.Challenge.pw_surehedge_k18_amounts_and_conditions.main.body.getD 3 (.Pass ⟨0, 0, 0, 0⟩)
def s_compare : Sx := { N := ["a", "b", "left", "right"], sc := defScope t_compare, fns := [], gls := [], bns := ["int"], gcd := false, gd := false }
theorem sc_compare : FnScope ["a", "b", "left", "right"] ["a", "b"] (defScope t_compare) := ⟨rfl, rfl, rfl, by decide +kernel, rfl, by decide +kernel, by decide +kernel⟩
theorem k_compare : okSs s_compare c_compare.body (defBody t_compare) = true := by decide +kernel
abbrev t_amount_at : Stmt := PySem.Challenge.pw_surehedge_k18_amounts_and_conditions.main.body.getD 11 (.Pass ⟨0, 0, 0, 0⟩)
def s_amount_at : Sx := { N := ["market", "node", "amount", "kind", "right", "left"], sc := defScope t_amount_at, fns := ["named", "path_to", "amount_at", "times", "plus", "compare"], gls := [], bns := ["len"], gcd := false, gd := false }
theorem sc_amount_at : FnScope ["market", "node", "amount", "kind", "right", "left"] ["market", "node", "amount"] (defScope t_amount_at) := ⟨rfl, rfl, rfl, by decide +kernel, rfl, by decide +kernel, by decide +kernel⟩
theorem k_amount_at : okSs s_amount_at c_amount_at.body (defBody t_amount_at) = true := by decide +kernel
abbrev t_law_depth : Stmt := PySem.Challenge.pw_surehedge_k18_amounts_and_conditions.main.body.getD 29 (.Pass ⟨0, 0, 0, 0⟩)
def s_law_depth : Sx := { N := ["_law_market_here", "_law_node", "_law_steps", "_law_turn"], sc := defScope t_law_depth, fns := [], gls := [], bns := ["range"], gcd := false, gd := false }
theorem sc_law_depth : FnScope ["_law_market_here", "_law_node", "_law_steps", "_law_turn"] ["_law_market_here", "_law_node"] (defScope t_law_depth) := ⟨rfl, rfl, rfl, by decide +kernel, rfl, by decide +kernel, by decide +kernel⟩
theorem k_law_depth : okSs s_law_depth c_law_depth.body (defBody t_law_depth) = true := by decide +kernel
abbrev t_law_times : Stmt := PySem.Challenge.pw_surehedge_k18_amounts_and_conditions.main.body.getD 20 (.Pass ⟨0, 0, 0, 0⟩)
def s_law_times : Sx := { N := ["_law_a", "_law_b"], sc := defScope t_law_times, fns := ["_law_lowest"], gls := [], bns := [], gcd := false, gd := false }
theorem sc_law_times : FnScope ["_law_a", "_law_b"] ["_law_a", "_law_b"] (defScope t_law_times) := ⟨rfl, rfl, rfl, by decide +kernel, rfl, by decide +kernel, by decide +kernel⟩
theorem k_law_times : okSs s_law_times c_law_times.body (defBody t_law_times) = true := by decide +kernel
abbrev t_law_plus : Stmt := PySem.Challenge.pw_surehedge_k18_amounts_and_conditions.main.body.getD 19 (.Pass ⟨0, 0, 0, 0⟩)
def s_law_plus : Sx := { N := ["_law_a", "_law_b"], sc := defScope t_law_plus, fns := ["_law_lowest"], gls := [], bns := [], gcd := false, gd := false }
theorem sc_law_plus : FnScope ["_law_a", "_law_b"] ["_law_a", "_law_b"] (defScope t_law_plus) := ⟨rfl, rfl, rfl, by decide +kernel, rfl, by decide +kernel, by decide +kernel⟩
theorem k_law_plus : okSs s_law_plus c_law_plus.body (defBody t_law_plus) = true := by decide +kernel
abbrev t_law_less : Stmt := PySem.Challenge.pw_surehedge_k18_amounts_and_conditions.main.body.getD 21 (.Pass ⟨0, 0, 0, 0⟩)
def s_law_less : Sx := { N := ["_law_a", "_law_b"], sc := defScope t_law_less, fns := [], gls := [], bns := [], gcd := false, gd := false }
theorem sc_law_less : FnScope ["_law_a", "_law_b"] ["_law_a", "_law_b"] (defScope t_law_less) := ⟨rfl, rfl, rfl, by decide +kernel, rfl, by decide +kernel, by decide +kernel⟩
theorem k_law_less : okSs s_law_less c_law_less.body (defBody t_law_less) = true := by decide +kernel
abbrev t_law_value : Stmt := PySem.Challenge.pw_surehedge_k18_amounts_and_conditions.main.body.getD 30 (.Pass ⟨0, 0, 0, 0⟩)
def s_law_value : Sx := { N := ["_law_market_here", "_law_node", "_law_amount_here", "_law_kind", "_law_here", "_law_one", "_law_other"], sc := defScope t_law_value, fns := ["_law_depth", "_law_value", "_law_times", "_law_plus", "_law_less"], gls := [], bns := [], gcd := false, gd := false }
theorem sc_law_value : FnScope ["_law_market_here", "_law_node", "_law_amount_here", "_law_kind", "_law_here", "_law_one", "_law_other"] ["_law_market_here", "_law_node", "_law_amount_here"] (defScope t_law_value) := ⟨rfl, rfl, rfl, by decide +kernel, rfl, by decide +kernel, by decide +kernel⟩
theorem k_law_value : okSs s_law_value c_law_value.body (defBody t_law_value) = true := by decide +kernel
abbrev t_law_same : Stmt := PySem.Challenge.pw_surehedge_k18_amounts_and_conditions.main.body.getD 32 (.Pass ⟨0, 0, 0, 0⟩)
def s_law_same : Sx := { N := ["_law_actual", "_law_due", "_law_k"], sc := defScope t_law_same, fns := ["_law_same"], gls := [], bns := ["isinstance", "list", "tuple", "len", "all", "range", "bool", "int", "str"], gcd := false, gd := false }
theorem sc_law_same : FnScope ["_law_actual", "_law_due", "_law_k"] ["_law_actual", "_law_due"] (defScope t_law_same) := ⟨rfl, rfl, rfl, by decide +kernel, rfl, by decide +kernel, by decide +kernel⟩
theorem k_law_same : okSs s_law_same c_law_same.body (defBody t_law_same) = true := by decide +kernel
abbrev t_children : Stmt := PySem.Challenge.pw_surehedge_k18_amounts_and_conditions.main.body.getD 7 (.Pass ⟨0, 0, 0, 0⟩)
def s_children : Sx := { N := ["market", "node", "place"], sc := defScope t_children, fns := [], gls := [], bns := ["range", "len"], gcd := false, gd := false }
theorem sc_children : FnScope ["market", "node", "place"] ["market", "node"] (defScope t_children) := ⟨rfl, rfl, rfl, by decide +kernel, rfl, by decide +kernel, by decide +kernel⟩
theorem k_children : okSs s_children c_children.body (defBody t_children) = true := by decide +kernel
abbrev t_agrees : Stmt := PySem.Challenge.pw_surehedge_k18_amounts_and_conditions.main.body.getD 12 (.Pass ⟨0, 0, 0, 0⟩)
def s_agrees : Sx := { N := ["sign", "order"], sc := defScope t_agrees, fns := [], gls := [], bns := [], gcd := false, gd := false }
theorem sc_agrees : FnScope ["sign", "order"] ["sign", "order"] (defScope t_agrees) := ⟨rfl, rfl, rfl, by decide +kernel, rfl, by decide +kernel, by decide +kernel⟩
theorem k_agrees : okSs s_agrees c_agrees.body (defBody t_agrees) = true := by decide +kernel
abbrev t_holds_at : Stmt := PySem.Challenge.pw_surehedge_k18_amounts_and_conditions.main.body.getD 13 (.Pass ⟨0, 0, 0, 0⟩)
def s_holds_at : Sx := { N := ["market", "node", "condition", "kind", "left", "right"], sc := defScope t_holds_at, fns := ["children", "amount_at", "compare", "agrees", "holds_at"], gls := [], bns := [], gcd := false, gd := false }
theorem sc_holds_at : FnScope ["market", "node", "condition", "kind", "left", "right"] ["market", "node", "condition"] (defScope t_holds_at) := ⟨rfl, rfl, rfl, by decide +kernel, rfl, by decide +kernel, by decide +kernel⟩
theorem k_holds_at : okSs s_holds_at c_holds_at.body (defBody t_holds_at) = true := by decide +kernel
abbrev t_law_holds : Stmt := PySem.Challenge.pw_surehedge_k18_amounts_and_conditions.main.body.getD 31 (.Pass ⟨0, 0, 0, 0⟩)
def s_law_holds : Sx := { N := ["_law_market_here", "_law_node", "_law_condition_here", "_law_kind", "_law_left", "_law_right", "_law_one", "_law_other", "_law_found", "_law_less_here", "_law_more"], sc := defScope t_law_holds, fns := ["_law_value", "_law_less", "_law_holds"], gls := [], bns := ["any"], gcd := false, gd := false }
theorem sc_law_holds : FnScope ["_law_market_here", "_law_node", "_law_condition_here", "_law_kind", "_law_left", "_law_right", "_law_one", "_law_other", "_law_found", "_law_less_here", "_law_more"] ["_law_market_here", "_law_node", "_law_condition_here"] (defScope t_law_holds) := ⟨rfl, rfl, rfl, by decide +kernel, rfl, by decide +kernel, by decide +kernel⟩
theorem k_law_holds : okSs s_law_holds c_law_holds.body (defBody t_law_holds) = true := by decide +kernel
abbrev t_law : Stmt := PySem.Challenge.pw_surehedge_k18_amounts_and_conditions.main.body.getD 33 (.Pass ⟨0, 0, 0, 0⟩)
def s_law : Sx := { N := ["_law_script", "_law_draws_here", "_law_names_here", "_law_market_here", "_law_rest", "_law_turn", "_law_amount_here", "_law_condition_here", "_law_node", "_law_kept"], sc := defScope t_law, fns := ["_law_draws", "_law_names", "_law_market", "_law_amount", "_law_condition", "amount_at", "_law_value", "_law_same", "holds_at", "_law_holds"], gls := [], bns := ["range", "int", "len", "repr"], gcd := false, gd := true }
theorem sc_law : FnScope ["_law_script", "_law_draws_here", "_law_names_here", "_law_market_here", "_law_rest", "_law_turn", "_law_amount_here", "_law_condition_here", "_law_node", "_law_kept"] ["_law_script"] (defScope t_law) := ⟨rfl, rfl, rfl, by decide +kernel, rfl, by decide +kernel, by decide +kernel⟩
theorem k_law : okSs s_law c_law.body (defBody t_law) = true := by decide +kernel
theorem b_law_draws (kV doc pm : Value) (an : Option Addr) (cdv ct : Value) (us : List Value) (hl : us.length = (["_law_script", "_law_count"] : List Str).length) : bindArgs (PySem.W.fnOf "_law_draws" "_law_draws" (defArgs t_law_draws) (defBody t_law_draws) (defScope t_law_draws) .none kV doc pm an cdv ct) ⟨us, []⟩ = pure ((["_law_script", "_law_count"] : List Str).zip us) := match us, hl with | [_, _], _ => rfl
theorem b_law_names (kV doc pm : Value) (an : Option Addr) (cdv ct : Value) (us : List Value) (hl : us.length = (["_law_first", "_law_second", "_law_many"] : List Str).length) : bindArgs (PySem.W.fnOf "_law_names" "_law_names" (defArgs t_law_names) (defBody t_law_names) (defScope t_law_names) .none kV doc pm an cdv ct) ⟨us, []⟩ = pure ((["_law_first", "_law_second", "_law_many"] : List Str).zip us) := match us, hl with | [_, _, _], _ => rfl
theorem b_law_lowest (kV doc pm : Value) (an : Option Addr) (cdv ct : Value) (us : List Value) (hl : us.length = (["_law_n", "_law_d"] : List Str).length) : bindArgs (PySem.W.fnOf "_law_lowest" "_law_lowest" (defArgs t_law_lowest) (defBody t_law_lowest) (defScope t_law_lowest) .none kV doc pm an cdv ct) ⟨us, []⟩ = pure ((["_law_n", "_law_d"] : List Str).zip us) := match us, hl with | [_, _], _ => rfl
theorem b_law_number (kV doc pm : Value) (an : Option Addr) (cdv ct : Value) (us : List Value) (hl : us.length = (["_law_draw", "_law_more"] : List Str).length) : bindArgs (PySem.W.fnOf "_law_number" "_law_number" (defArgs t_law_number) (defBody t_law_number) (defScope t_law_number) .none kV doc pm an cdv ct) ⟨us, []⟩ = pure ((["_law_draw", "_law_more"] : List Str).zip us) := match us, hl with | [_, _], _ => rfl
theorem b_law_market (kV doc pm : Value) (an : Option Addr) (cdv ct : Value) (us : List Value) (hl : us.length = (["_law_draws_here", "_law_names_here"] : List Str).length) : bindArgs (PySem.W.fnOf "_law_market" "_law_market" (defArgs t_law_market) (defBody t_law_market) (defScope t_law_market) .none kV doc pm an cdv ct) ⟨us, []⟩ = pure ((["_law_draws_here", "_law_names_here"] : List Str).zip us) := match us, hl with | [_, _], _ => rfl
theorem b_law_take (kV doc pm : Value) (an : Option Addr) (cdv ct : Value) (us : List Value) (hl : us.length = (["_law_draws_here"] : List Str).length) : bindArgs (PySem.W.fnOf "_law_take" "_law_take" (defArgs t_law_take) (defBody t_law_take) (defScope t_law_take) .none kV doc pm an cdv ct) ⟨us, []⟩ = pure ((["_law_draws_here"] : List Str).zip us) := match us, hl with | [_], _ => rfl
theorem b_law_amount (kV doc pm : Value) (an : Option Addr) (cdv ct : Value) (us : List Value) (hl : us.length = (["_law_market_here", "_law_draws_here", "_law_depth_here"] : List Str).length) : bindArgs (PySem.W.fnOf "_law_amount" "_law_amount" (defArgs t_law_amount) (defBody t_law_amount) (defScope t_law_amount) .none kV doc pm an cdv ct) ⟨us, []⟩ = pure ((["_law_market_here", "_law_draws_here", "_law_depth_here"] : List Str).zip us) := match us, hl with | [_, _, _], _ => rfl
theorem b_law_condition (kV doc pm : Value) (an : Option Addr) (cdv ct : Value) (us : List Value) (hl : us.length = (["_law_market_here", "_law_draws_here", "_law_depth_here"] : List Str).length) : bindArgs (PySem.W.fnOf "_law_condition" "_law_condition" (defArgs t_law_condition) (defBody t_law_condition) (defScope t_law_condition) .none kV doc pm an cdv ct) ⟨us, []⟩ = pure ((["_law_market_here", "_law_draws_here", "_law_depth_here"] : List Str).zip us) := match us, hl with | [_, _, _], _ => rfl
theorem b_named (kV doc pm : Value) (an : Option Addr) (cdv ct : Value) (us : List Value) (hl : us.length = (["market", "node", "name"] : List Str).length) : bindArgs (PySem.W.fnOf "named" "named" (defArgs t_named) (defBody t_named) (defScope t_named) .none kV doc pm an cdv ct) ⟨us, []⟩ = pure ((["market", "node", "name"] : List Str).zip us) := match us, hl with | [_, _, _], _ => rfl
theorem b_path_to (kV doc pm : Value) (an : Option Addr) (cdv ct : Value) (us : List Value) (hl : us.length = (["market", "node"] : List Str).length) : bindArgs (PySem.W.fnOf "path_to" "path_to" (defArgs t_path_to) (defBody t_path_to) (defScope t_path_to) .none kV doc pm an cdv ct) ⟨us, []⟩ = pure ((["market", "node"] : List Str).zip us) := match us, hl with | [_, _], _ => rfl
theorem b_number (kV doc pm : Value) (an : Option Addr) (cdv ct : Value) (us : List Value) (hl : us.length = (["n", "d"] : List Str).length) : bindArgs (PySem.W.fnOf "number" "number" (defArgs t_number) (defBody t_number) (defScope t_number) .none kV doc pm an cdv ct) ⟨us, []⟩ = pure ((["n", "d"] : List Str).zip us) := match us, hl with | [_, _], _ => rfl
theorem b_times (kV doc pm : Value) (an : Option Addr) (cdv ct : Value) (us : List Value) (hl : us.length = (["a", "b"] : List Str).length) : bindArgs (PySem.W.fnOf "times" "times" (defArgs t_times) (defBody t_times) (defScope t_times) .none kV doc pm an cdv ct) ⟨us, []⟩ = pure ((["a", "b"] : List Str).zip us) := match us, hl with | [_, _], _ => rfl
theorem b_plus (kV doc pm : Value) (an : Option Addr) (cdv ct : Value) (us : List Value) (hl : us.length = (["a", "b"] : List Str).length) : bindArgs (PySem.W.fnOf "plus" "plus" (defArgs t_plus) (defBody t_plus) (defScope t_plus) .none kV doc pm an cdv ct) ⟨us, []⟩ = pure ((["a", "b"] : List Str).zip us) := match us, hl with | [_, _], _ => rfl
theorem b_compare (kV doc pm : Value) (an : Option Addr) (cdv ct : Value) (us : List Value) (hl : us.length = (["a", "b"] : List Str).length) : bindArgs (PySem.W.fnOf "compare" "compare" (defArgs t_compare) (defBody t_compare) (defScope t_compare) .none kV doc pm an cdv ct) ⟨us, []⟩ = pure ((["a", "b"] : List Str).zip us) := match us, hl with | [_, _], _ => rfl
theorem b_amount_at (kV doc pm : Value) (an : Option Addr) (cdv ct : Value) (us : List Value) (hl : us.length = (["market", "node", "amount"] : List Str).length) : bindArgs (PySem.W.fnOf "amount_at" "amount_at" (defArgs t_amount_at) (defBody t_amount_at) (defScope t_amount_at) .none kV doc pm an cdv ct) ⟨us, []⟩ = pure ((["market", "node", "amount"] : List Str).zip us) := match us, hl with | [_, _, _], _ => rfl
theorem b_law_depth (kV doc pm : Value) (an : Option Addr) (cdv ct : Value) (us : List Value) (hl : us.length = (["_law_market_here", "_law_node"] : List Str).length) : bindArgs (PySem.W.fnOf "_law_depth" "_law_depth" (defArgs t_law_depth) (defBody t_law_depth) (defScope t_law_depth) .none kV doc pm an cdv ct) ⟨us, []⟩ = pure ((["_law_market_here", "_law_node"] : List Str).zip us) := match us, hl with | [_, _], _ => rfl
theorem b_law_times (kV doc pm : Value) (an : Option Addr) (cdv ct : Value) (us : List Value) (hl : us.length = (["_law_a", "_law_b"] : List Str).length) : bindArgs (PySem.W.fnOf "_law_times" "_law_times" (defArgs t_law_times) (defBody t_law_times) (defScope t_law_times) .none kV doc pm an cdv ct) ⟨us, []⟩ = pure ((["_law_a", "_law_b"] : List Str).zip us) := match us, hl with | [_, _], _ => rfl
theorem b_law_plus (kV doc pm : Value) (an : Option Addr) (cdv ct : Value) (us : List Value) (hl : us.length = (["_law_a", "_law_b"] : List Str).length) : bindArgs (PySem.W.fnOf "_law_plus" "_law_plus" (defArgs t_law_plus) (defBody t_law_plus) (defScope t_law_plus) .none kV doc pm an cdv ct) ⟨us, []⟩ = pure ((["_law_a", "_law_b"] : List Str).zip us) := match us, hl with | [_, _], _ => rfl
theorem b_law_less (kV doc pm : Value) (an : Option Addr) (cdv ct : Value) (us : List Value) (hl : us.length = (["_law_a", "_law_b"] : List Str).length) : bindArgs (PySem.W.fnOf "_law_less" "_law_less" (defArgs t_law_less) (defBody t_law_less) (defScope t_law_less) .none kV doc pm an cdv ct) ⟨us, []⟩ = pure ((["_law_a", "_law_b"] : List Str).zip us) := match us, hl with | [_, _], _ => rfl
theorem b_law_value (kV doc pm : Value) (an : Option Addr) (cdv ct : Value) (us : List Value) (hl : us.length = (["_law_market_here", "_law_node", "_law_amount_here"] : List Str).length) : bindArgs (PySem.W.fnOf "_law_value" "_law_value" (defArgs t_law_value) (defBody t_law_value) (defScope t_law_value) .none kV doc pm an cdv ct) ⟨us, []⟩ = pure ((["_law_market_here", "_law_node", "_law_amount_here"] : List Str).zip us) := match us, hl with | [_, _, _], _ => rfl
theorem b_law_same (kV doc pm : Value) (an : Option Addr) (cdv ct : Value) (us : List Value) (hl : us.length = (["_law_actual", "_law_due"] : List Str).length) : bindArgs (PySem.W.fnOf "_law_same" "_law_same" (defArgs t_law_same) (defBody t_law_same) (defScope t_law_same) .none kV doc pm an cdv ct) ⟨us, []⟩ = pure ((["_law_actual", "_law_due"] : List Str).zip us) := match us, hl with | [_, _], _ => rfl
theorem b_children (kV doc pm : Value) (an : Option Addr) (cdv ct : Value) (us : List Value) (hl : us.length = (["market", "node"] : List Str).length) : bindArgs (PySem.W.fnOf "children" "children" (defArgs t_children) (defBody t_children) (defScope t_children) .none kV doc pm an cdv ct) ⟨us, []⟩ = pure ((["market", "node"] : List Str).zip us) := match us, hl with | [_, _], _ => rfl
theorem b_agrees (kV doc pm : Value) (an : Option Addr) (cdv ct : Value) (us : List Value) (hl : us.length = (["sign", "order"] : List Str).length) : bindArgs (PySem.W.fnOf "agrees" "agrees" (defArgs t_agrees) (defBody t_agrees) (defScope t_agrees) .none kV doc pm an cdv ct) ⟨us, []⟩ = pure ((["sign", "order"] : List Str).zip us) := match us, hl with | [_, _], _ => rfl
theorem b_holds_at (kV doc pm : Value) (an : Option Addr) (cdv ct : Value) (us : List Value) (hl : us.length = (["market", "node", "condition"] : List Str).length) : bindArgs (PySem.W.fnOf "holds_at" "holds_at" (defArgs t_holds_at) (defBody t_holds_at) (defScope t_holds_at) .none kV doc pm an cdv ct) ⟨us, []⟩ = pure ((["market", "node", "condition"] : List Str).zip us) := match us, hl with | [_, _, _], _ => rfl
theorem b_law_holds (kV doc pm : Value) (an : Option Addr) (cdv ct : Value) (us : List Value) (hl : us.length = (["_law_market_here", "_law_node", "_law_condition_here"] : List Str).length) : bindArgs (PySem.W.fnOf "_law_holds" "_law_holds" (defArgs t_law_holds) (defBody t_law_holds) (defScope t_law_holds) .none kV doc pm an cdv ct) ⟨us, []⟩ = pure ((["_law_market_here", "_law_node", "_law_condition_here"] : List Str).zip us) := match us, hl with | [_, _, _], _ => rfl
theorem b_law (kV doc pm : Value) (an : Option Addr) (cdv ct : Value) (us : List Value) (hl : us.length = (["_law_script"] : List Str).length) : bindArgs (PySem.W.fnOf "law" "law" (defArgs t_law) (defBody t_law) (defScope t_law) .none kV doc pm an cdv ct) ⟨us, []⟩ = pure ((["_law_script"] : List Str).zip us) := match us, hl with | [_], _ => rfl
theorem all_mk {w : World} {K : PySem.W.Frag} {h : Heap} {mg : Str → Option Value} {fa : Addr} (X : K.In h) (G : h.Ns mainGlobals mg) (hfa : mg "law" = some (.ref fa)) {p0 p1 p2 p3 p4 p5 p6 p7 p8 p9 p10 p11 p12 p13 p14 p15 p16 p17 p18 p19 p20 p21 p22 p23 p24 p25 : Addr} {od0 an0 od1 an1 od2 an2 od3 an3 od4 an4 od5 an5 od6 an6 od7 an7 od8 an8 od9 an9 od10 an10 od11 an11 od12 an12 od13 an13 od14 an14 od15 an15 od16 an16 od17 an17 od18 an18 od19 an19 od20 an20 od21 an21 od22 an22 od23 an23 od24 an24 od25 an25 : Option Addr} {sl0 sl1 sl2 sl3 sl4 sl5 sl6 sl7 sl8 sl9 sl10 sl11 sl12 sl13 sl14 sl15 sl16 sl17 sl18 sl19 sl20 sl21 sl22 sl23 sl24 sl25 : Array (Option Value)} {oc0 kV0 dc0 pm0 cd0 ct0 oc1 kV1 dc1 pm1 cd1 ct1 oc2 kV2 dc2 pm2 cd2 ct2 oc3 kV3 dc3 pm3 cd3 ct3 oc4 kV4 dc4 pm4 cd4 ct4 oc5 kV5 dc5 pm5 cd5 ct5 oc6 kV6 dc6 pm6 cd6 ct6 oc7 kV7 dc7 pm7 cd7 ct7 oc8 kV8 dc8 pm8 cd8 ct8 oc9 kV9 dc9 pm9 cd9 ct9 oc10 kV10 dc10 pm10 cd10 ct10 oc11 kV11 dc11 pm11 cd11 ct11 oc12 kV12 dc12 pm12 cd12 ct12 oc13 kV13 dc13 pm13 cd13 ct13 oc14 kV14 dc14 pm14 cd14 ct14 oc15 kV15 dc15 pm15 cd15 ct15 oc16 kV16 dc16 pm16 cd16 ct16 oc17 kV17 dc17 pm17 cd17 ct17 oc18 kV18 dc18 pm18 cd18 ct18 oc19 kV19 dc19 pm19 cd19 ct19 oc20 kV20 dc20 pm20 cd20 ct20 oc21 kV21 dc21 pm21 cd21 ct21 oc22 kV22 dc22 pm22 cd22 ct22 oc23 kV23 dc23 pm23 cd23 ct23 oc24 kV24 dc24 pm24 cd24 ct24 oc25 kV25 dc25 pm25 cd25 ct25 : Value} 
    (a0 : PySem.W.nsIn K mainGlobals "_law_draws" = some (some (.ref p0))) (l0 : K.lookup p0 = some ⟨oc0, od0, .func (PySem.W.fnOf "_law_draws" "_law_draws" (defArgs t_law_draws) (defBody t_law_draws) (defScope t_law_draws) .none kV0 dc0 pm0 an0 cd0 ct0), sl0⟩) (c0 : PySem.W.codeIn K cd0 "_law_draws" = true) (k0 : PySem.W.keepIn K (.ref p0) = true)
    (a1 : PySem.W.nsIn K mainGlobals "_law_names" = some (some (.ref p1))) (l1 : K.lookup p1 = some ⟨oc1, od1, .func (PySem.W.fnOf "_law_names" "_law_names" (defArgs t_law_names) (defBody t_law_names) (defScope t_law_names) .none kV1 dc1 pm1 an1 cd1 ct1), sl1⟩) (c1 : PySem.W.codeIn K cd1 "_law_names" = true) (k1 : PySem.W.keepIn K (.ref p1) = true)
    (a2 : PySem.W.nsIn K mainGlobals "_law_lowest" = some (some (.ref p2))) (l2 : K.lookup p2 = some ⟨oc2, od2, .func (PySem.W.fnOf "_law_lowest" "_law_lowest" (defArgs t_law_lowest) (defBody t_law_lowest) (defScope t_law_lowest) .none kV2 dc2 pm2 an2 cd2 ct2), sl2⟩) (c2 : PySem.W.codeIn K cd2 "_law_lowest" = true) (k2 : PySem.W.keepIn K (.ref p2) = true)
    (a3 : PySem.W.nsIn K mainGlobals "_law_number" = some (some (.ref p3))) (l3 : K.lookup p3 = some ⟨oc3, od3, .func (PySem.W.fnOf "_law_number" "_law_number" (defArgs t_law_number) (defBody t_law_number) (defScope t_law_number) .none kV3 dc3 pm3 an3 cd3 ct3), sl3⟩) (c3 : PySem.W.codeIn K cd3 "_law_number" = true) (k3 : PySem.W.keepIn K (.ref p3) = true)
    (a4 : PySem.W.nsIn K mainGlobals "_law_market" = some (some (.ref p4))) (l4 : K.lookup p4 = some ⟨oc4, od4, .func (PySem.W.fnOf "_law_market" "_law_market" (defArgs t_law_market) (defBody t_law_market) (defScope t_law_market) .none kV4 dc4 pm4 an4 cd4 ct4), sl4⟩) (c4 : PySem.W.codeIn K cd4 "_law_market" = true) (k4 : PySem.W.keepIn K (.ref p4) = true)
    (a5 : PySem.W.nsIn K mainGlobals "_law_take" = some (some (.ref p5))) (l5 : K.lookup p5 = some ⟨oc5, od5, .func (PySem.W.fnOf "_law_take" "_law_take" (defArgs t_law_take) (defBody t_law_take) (defScope t_law_take) .none kV5 dc5 pm5 an5 cd5 ct5), sl5⟩) (c5 : PySem.W.codeIn K cd5 "_law_take" = true) (k5 : PySem.W.keepIn K (.ref p5) = true)
    (a6 : PySem.W.nsIn K mainGlobals "_law_amount" = some (some (.ref p6))) (l6 : K.lookup p6 = some ⟨oc6, od6, .func (PySem.W.fnOf "_law_amount" "_law_amount" (defArgs t_law_amount) (defBody t_law_amount) (defScope t_law_amount) .none kV6 dc6 pm6 an6 cd6 ct6), sl6⟩) (c6 : PySem.W.codeIn K cd6 "_law_amount" = true) (k6 : PySem.W.keepIn K (.ref p6) = true)
    (a7 : PySem.W.nsIn K mainGlobals "_law_condition" = some (some (.ref p7))) (l7 : K.lookup p7 = some ⟨oc7, od7, .func (PySem.W.fnOf "_law_condition" "_law_condition" (defArgs t_law_condition) (defBody t_law_condition) (defScope t_law_condition) .none kV7 dc7 pm7 an7 cd7 ct7), sl7⟩) (c7 : PySem.W.codeIn K cd7 "_law_condition" = true) (k7 : PySem.W.keepIn K (.ref p7) = true)
    (a8 : PySem.W.nsIn K mainGlobals "named" = some (some (.ref p8))) (l8 : K.lookup p8 = some ⟨oc8, od8, .func (PySem.W.fnOf "named" "named" (defArgs t_named) (defBody t_named) (defScope t_named) .none kV8 dc8 pm8 an8 cd8 ct8), sl8⟩) (c8 : PySem.W.codeIn K cd8 "named" = true) (k8 : PySem.W.keepIn K (.ref p8) = true)
    (a9 : PySem.W.nsIn K mainGlobals "path_to" = some (some (.ref p9))) (l9 : K.lookup p9 = some ⟨oc9, od9, .func (PySem.W.fnOf "path_to" "path_to" (defArgs t_path_to) (defBody t_path_to) (defScope t_path_to) .none kV9 dc9 pm9 an9 cd9 ct9), sl9⟩) (c9 : PySem.W.codeIn K cd9 "path_to" = true) (k9 : PySem.W.keepIn K (.ref p9) = true)
    (a10 : PySem.W.nsIn K mainGlobals "number" = some (some (.ref p10))) (l10 : K.lookup p10 = some ⟨oc10, od10, .func (PySem.W.fnOf "number" "number" (defArgs t_number) (defBody t_number) (defScope t_number) .none kV10 dc10 pm10 an10 cd10 ct10), sl10⟩) (c10 : PySem.W.codeIn K cd10 "number" = true) (k10 : PySem.W.keepIn K (.ref p10) = true)
    (a11 : PySem.W.nsIn K mainGlobals "times" = some (some (.ref p11))) (l11 : K.lookup p11 = some ⟨oc11, od11, .func (PySem.W.fnOf "times" "times" (defArgs t_times) (defBody t_times) (defScope t_times) .none kV11 dc11 pm11 an11 cd11 ct11), sl11⟩) (c11 : PySem.W.codeIn K cd11 "times" = true) (k11 : PySem.W.keepIn K (.ref p11) = true)
    (a12 : PySem.W.nsIn K mainGlobals "plus" = some (some (.ref p12))) (l12 : K.lookup p12 = some ⟨oc12, od12, .func (PySem.W.fnOf "plus" "plus" (defArgs t_plus) (defBody t_plus) (defScope t_plus) .none kV12 dc12 pm12 an12 cd12 ct12), sl12⟩) (c12 : PySem.W.codeIn K cd12 "plus" = true) (k12 : PySem.W.keepIn K (.ref p12) = true)
    (a13 : PySem.W.nsIn K mainGlobals "compare" = some (some (.ref p13))) (l13 : K.lookup p13 = some ⟨oc13, od13, .func (PySem.W.fnOf "compare" "compare" (defArgs t_compare) (defBody t_compare) (defScope t_compare) .none kV13 dc13 pm13 an13 cd13 ct13), sl13⟩) (c13 : PySem.W.codeIn K cd13 "compare" = true) (k13 : PySem.W.keepIn K (.ref p13) = true)
    (a14 : PySem.W.nsIn K mainGlobals "amount_at" = some (some (.ref p14))) (l14 : K.lookup p14 = some ⟨oc14, od14, .func (PySem.W.fnOf "amount_at" "amount_at" (defArgs t_amount_at) (defBody t_amount_at) (defScope t_amount_at) .none kV14 dc14 pm14 an14 cd14 ct14), sl14⟩) (c14 : PySem.W.codeIn K cd14 "amount_at" = true) (k14 : PySem.W.keepIn K (.ref p14) = true)
    (a15 : PySem.W.nsIn K mainGlobals "_law_depth" = some (some (.ref p15))) (l15 : K.lookup p15 = some ⟨oc15, od15, .func (PySem.W.fnOf "_law_depth" "_law_depth" (defArgs t_law_depth) (defBody t_law_depth) (defScope t_law_depth) .none kV15 dc15 pm15 an15 cd15 ct15), sl15⟩) (c15 : PySem.W.codeIn K cd15 "_law_depth" = true) (k15 : PySem.W.keepIn K (.ref p15) = true)
    (a16 : PySem.W.nsIn K mainGlobals "_law_times" = some (some (.ref p16))) (l16 : K.lookup p16 = some ⟨oc16, od16, .func (PySem.W.fnOf "_law_times" "_law_times" (defArgs t_law_times) (defBody t_law_times) (defScope t_law_times) .none kV16 dc16 pm16 an16 cd16 ct16), sl16⟩) (c16 : PySem.W.codeIn K cd16 "_law_times" = true) (k16 : PySem.W.keepIn K (.ref p16) = true)
    (a17 : PySem.W.nsIn K mainGlobals "_law_plus" = some (some (.ref p17))) (l17 : K.lookup p17 = some ⟨oc17, od17, .func (PySem.W.fnOf "_law_plus" "_law_plus" (defArgs t_law_plus) (defBody t_law_plus) (defScope t_law_plus) .none kV17 dc17 pm17 an17 cd17 ct17), sl17⟩) (c17 : PySem.W.codeIn K cd17 "_law_plus" = true) (k17 : PySem.W.keepIn K (.ref p17) = true)
    (a18 : PySem.W.nsIn K mainGlobals "_law_less" = some (some (.ref p18))) (l18 : K.lookup p18 = some ⟨oc18, od18, .func (PySem.W.fnOf "_law_less" "_law_less" (defArgs t_law_less) (defBody t_law_less) (defScope t_law_less) .none kV18 dc18 pm18 an18 cd18 ct18), sl18⟩) (c18 : PySem.W.codeIn K cd18 "_law_less" = true) (k18 : PySem.W.keepIn K (.ref p18) = true)
    (a19 : PySem.W.nsIn K mainGlobals "_law_value" = some (some (.ref p19))) (l19 : K.lookup p19 = some ⟨oc19, od19, .func (PySem.W.fnOf "_law_value" "_law_value" (defArgs t_law_value) (defBody t_law_value) (defScope t_law_value) .none kV19 dc19 pm19 an19 cd19 ct19), sl19⟩) (c19 : PySem.W.codeIn K cd19 "_law_value" = true) (k19 : PySem.W.keepIn K (.ref p19) = true)
    (a20 : PySem.W.nsIn K mainGlobals "_law_same" = some (some (.ref p20))) (l20 : K.lookup p20 = some ⟨oc20, od20, .func (PySem.W.fnOf "_law_same" "_law_same" (defArgs t_law_same) (defBody t_law_same) (defScope t_law_same) .none kV20 dc20 pm20 an20 cd20 ct20), sl20⟩) (c20 : PySem.W.codeIn K cd20 "_law_same" = true) (k20 : PySem.W.keepIn K (.ref p20) = true)
    (a21 : PySem.W.nsIn K mainGlobals "children" = some (some (.ref p21))) (l21 : K.lookup p21 = some ⟨oc21, od21, .func (PySem.W.fnOf "children" "children" (defArgs t_children) (defBody t_children) (defScope t_children) .none kV21 dc21 pm21 an21 cd21 ct21), sl21⟩) (c21 : PySem.W.codeIn K cd21 "children" = true) (k21 : PySem.W.keepIn K (.ref p21) = true)
    (a22 : PySem.W.nsIn K mainGlobals "agrees" = some (some (.ref p22))) (l22 : K.lookup p22 = some ⟨oc22, od22, .func (PySem.W.fnOf "agrees" "agrees" (defArgs t_agrees) (defBody t_agrees) (defScope t_agrees) .none kV22 dc22 pm22 an22 cd22 ct22), sl22⟩) (c22 : PySem.W.codeIn K cd22 "agrees" = true) (k22 : PySem.W.keepIn K (.ref p22) = true)
    (a23 : PySem.W.nsIn K mainGlobals "holds_at" = some (some (.ref p23))) (l23 : K.lookup p23 = some ⟨oc23, od23, .func (PySem.W.fnOf "holds_at" "holds_at" (defArgs t_holds_at) (defBody t_holds_at) (defScope t_holds_at) .none kV23 dc23 pm23 an23 cd23 ct23), sl23⟩) (c23 : PySem.W.codeIn K cd23 "holds_at" = true) (k23 : PySem.W.keepIn K (.ref p23) = true)
    (a24 : PySem.W.nsIn K mainGlobals "_law_holds" = some (some (.ref p24))) (l24 : K.lookup p24 = some ⟨oc24, od24, .func (PySem.W.fnOf "_law_holds" "_law_holds" (defArgs t_law_holds) (defBody t_law_holds) (defScope t_law_holds) .none kV24 dc24 pm24 an24 cd24 ct24), sl24⟩) (c24 : PySem.W.codeIn K cd24 "_law_holds" = true) (k24 : PySem.W.keepIn K (.ref p24) = true)
    (a25 : PySem.W.nsIn K mainGlobals "law" = some (some (.ref p25))) (l25 : K.lookup p25 = some ⟨oc25, od25, .func (PySem.W.fnOf "law" "law" (defArgs t_law) (defBody t_law) (defScope t_law) .none kV25 dc25 pm25 an25 cd25 ct25), sl25⟩) (c25 : PySem.W.codeIn K cd25 "law" = true) (k25 : PySem.W.keepIn K (.ref p25) = true)
    (z0 : PySem.W.nsIn K mainGlobals "range" = some none)
    (z1 : PySem.W.nsIn K mainGlobals "len" = some none)
    (z2 : PySem.W.nsIn K mainGlobals "int" = some none)
    (z3 : PySem.W.nsIn K mainGlobals "min" = some none)
    (z4 : PySem.W.nsIn K mainGlobals "isinstance" = some none)
    (z5 : PySem.W.nsIn K mainGlobals "list" = some none)
    (z6 : PySem.W.nsIn K mainGlobals "tuple" = some none)
    (z7 : PySem.W.nsIn K mainGlobals "all" = some none)
    (z8 : PySem.W.nsIn K mainGlobals "bool" = some none)
    (z9 : PySem.W.nsIn K mainGlobals "str" = some none)
    (z10 : PySem.W.nsIn K mainGlobals "any" = some none)
    (z11 : PySem.W.nsIn K mainGlobals "repr" = some none)
    (zg : PySem.W.nsIn K mainGlobals "gcd" = some (some (.builtin "math.gcd"))) :
    ∃ fd : FuncData, (∀ (s : Shared) (v : Value), BindsTo s fd ⟨[v], []⟩ [("_law_script", v)]) ∧ ∀ base : Heap, K.In base → base.Ns mainGlobals mg → FnG PySem.Challenge.rw_surehedge_k18_amounts_and_conditions.prog w K mg base 21 fa fd ["_law_script"] (spOf K (fun _ _ _ _ _ => False) [] f_law) := by
  have e := hfa.symm.trans (PySem.W.mg_of X G a25)
  cases e
  have F0 := fun_mk (st := t_law_draws) l0 c0 k0
  have F1 := fun_mk (st := t_law_names) l1 c1 k1
  have F2 := fun_mk (st := t_law_lowest) l2 c2 k2
  have F3 := fun_mk (st := t_law_number) l3 c3 k3
  have F4 := fun_mk (st := t_law_market) l4 c4 k4
  have F5 := fun_mk (st := t_law_take) l5 c5 k5
  have F6 := fun_mk (st := t_law_amount) l6 c6 k6
  have F7 := fun_mk (st := t_law_condition) l7 c7 k7
  have F8 := fun_mk (st := t_named) l8 c8 k8
  have F9 := fun_mk (st := t_path_to) l9 c9 k9
  have F10 := fun_mk (st := t_number) l10 c10 k10
  have F11 := fun_mk (st := t_times) l11 c11 k11
  have F12 := fun_mk (st := t_plus) l12 c12 k12
  have F13 := fun_mk (st := t_compare) l13 c13 k13
  have F14 := fun_mk (st := t_amount_at) l14 c14 k14
  have F15 := fun_mk (st := t_law_depth) l15 c15 k15
  have F16 := fun_mk (st := t_law_times) l16 c16 k16
  have F17 := fun_mk (st := t_law_plus) l17 c17 k17
  have F18 := fun_mk (st := t_law_less) l18 c18 k18
  have F19 := fun_mk (st := t_law_value) l19 c19 k19
  have F20 := fun_mk (st := t_law_same) l20 c20 k20
  have F21 := fun_mk (st := t_children) l21 c21 k21
  have F22 := fun_mk (st := t_agrees) l22 c22 k22
  have F23 := fun_mk (st := t_holds_at) l23 c23 k23
  have F24 := fun_mk (st := t_law_holds) l24 c24 k24
  have F25 := fun_mk (st := t_law) l25 c25 k25
  refine ⟨PySem.W.fnOf "law" "law" (defArgs t_law) (defBody t_law) (defScope t_law) .none kV25 dc25 pm25 an25 cd25 ct25, fun s v => .of_eq rfl, fun base _ _ => ?_⟩
  have bn0 : ∀ x, (s_law_draws).bns.contains x = true → mg x = none := by
    intro x hx
    simp only [s_law_draws, List.contains_cons, List.contains_nil, Bool.or_false, Bool.or_eq_true, beq_iff_eq] at hx
    rcases hx with rfl | rfl | rfl
    · exact PySem.W.mg_none_of X G z0
    · exact PySem.W.mg_none_of X G z1
    · exact PySem.W.mg_none_of X G z2
  have E0 : Env1 PySem.Challenge.rw_surehedge_k18_amounts_and_conditions.prog w K mg base (fun _ _ _ _ _ => False) 0 s_law_draws g_law_draws := ⟨bn0, (fun h => nomatch h), (fun i x hx => match i, hx with | i, hx => by simp [s_law_draws] at hx), (fun i x hx => match i, hx with | i, hx => by simp [s_law_draws] at hx)⟩
  have C0 : Cal PySem.Challenge.rw_surehedge_k18_amounts_and_conditions.prog w K mg base (fun _ _ _ _ _ => False) 1 "_law_draws" f_law_draws [] := cal_mk F0 (PySem.W.mg_of X G a0) (F0.binds b_law_draws) sc_law_draws rfl rfl k_law_draws rfl rfl (by decide) (by decide) (by decide) rfl E0
  have bn1 : ∀ x, (s_law_names).bns.contains x = true → mg x = none := by
    intro x hx
    simp only [s_law_names, List.contains_cons, List.contains_nil, Bool.or_false, Bool.or_eq_true, beq_iff_eq] at hx
    rcases hx with rfl | rfl
    · exact PySem.W.mg_none_of X G z2
    · exact PySem.W.mg_none_of X G z0
  have E1 : Env1 PySem.Challenge.rw_surehedge_k18_amounts_and_conditions.prog w K mg base (fun _ _ _ _ _ => False) 0 s_law_names g_law_names := ⟨bn1, (fun h => nomatch h), (fun i x hx => match i, hx with | i, hx => by simp [s_law_names] at hx), (fun i x hx => match i, hx with | i, hx => by simp [s_law_names] at hx)⟩
  have C1 : Cal PySem.Challenge.rw_surehedge_k18_amounts_and_conditions.prog w K mg base (fun _ _ _ _ _ => False) 1 "_law_names" f_law_names [] := cal_mk F1 (PySem.W.mg_of X G a1) (F1.binds b_law_names) sc_law_names rfl rfl k_law_names rfl rfl (by decide) (by decide) (by decide) rfl E1
  have bn2 : ∀ x, (s_law_lowest).bns.contains x = true → mg x = none := by
    intro x hx
    simp only [s_law_lowest, List.contains_cons, List.contains_nil, Bool.or_false, Bool.or_eq_true, beq_iff_eq] at hx
    rcases hx with rfl | rfl
    · exact PySem.W.mg_none_of X G z0
    · exact PySem.W.mg_none_of X G z2
  have E2 : Env1 PySem.Challenge.rw_surehedge_k18_amounts_and_conditions.prog w K mg base (fun _ _ _ _ _ => False) 0 s_law_lowest g_law_lowest := ⟨bn2, (fun h => nomatch h), (fun i x hx => match i, hx with | i, hx => by simp [s_law_lowest] at hx), (fun i x hx => match i, hx with | i, hx => by simp [s_law_lowest] at hx)⟩
  have C2 : Cal PySem.Challenge.rw_surehedge_k18_amounts_and_conditions.prog w K mg base (fun _ _ _ _ _ => False) 1 "_law_lowest" f_law_lowest [] := cal_mk F2 (PySem.W.mg_of X G a2) (F2.binds b_law_lowest) sc_law_lowest rfl rfl k_law_lowest rfl rfl (by decide) (by decide) (by decide) rfl E2
  have bn3 : ∀ x, (s_law_number).bns.contains x = true → mg x = none := by
    intro x hx
    simp only [s_law_number, List.contains_cons, List.contains_nil, Bool.or_false, Bool.or_eq_true, beq_iff_eq] at hx
    rcases hx with rfl
    · exact PySem.W.mg_none_of X G z2
  have E3 : Env1 PySem.Challenge.rw_surehedge_k18_amounts_and_conditions.prog w K mg base (fun _ _ _ _ _ => False) 1 s_law_number g_law_number := ⟨bn3, (fun h => nomatch h), (fun i x hx => match i, hx with | i, hx => by simp [s_law_number] at hx), (fun i x hx => match i, hx with | 0, hx => by cases hx; exact C2.mono (by decide) | (i + 1), hx => by simp [s_law_number] at hx)⟩
  have C3 : Cal PySem.Challenge.rw_surehedge_k18_amounts_and_conditions.prog w K mg base (fun _ _ _ _ _ => False) 2 "_law_number" f_law_number [] := cal_mk F3 (PySem.W.mg_of X G a3) (F3.binds b_law_number) sc_law_number rfl rfl k_law_number rfl rfl (by decide) (by decide) (by decide) rfl E3
  have bn4 : ∀ x, (s_law_market).bns.contains x = true → mg x = none := by
    intro x hx
    simp only [s_law_market, List.contains_cons, List.contains_nil, Bool.or_false, Bool.or_eq_true, beq_iff_eq] at hx
    rcases hx with rfl | rfl | rfl
    · exact PySem.W.mg_none_of X G z2
    · exact PySem.W.mg_none_of X G z0
    · exact PySem.W.mg_none_of X G z1
  have E4 : Env1 PySem.Challenge.rw_surehedge_k18_amounts_and_conditions.prog w K mg base (fun _ _ _ _ _ => False) 2 s_law_market g_law_market := ⟨bn4, (fun h => nomatch h), (fun i x hx => match i, hx with | i, hx => by simp [s_law_market] at hx), (fun i x hx => match i, hx with | 0, hx => by cases hx; exact C2.mono (by decide) | 1, hx => by cases hx; exact C3.mono (by decide) | (i + 2), hx => by simp [s_law_market] at hx)⟩
  have C4 : Cal PySem.Challenge.rw_surehedge_k18_amounts_and_conditions.prog w K mg base (fun _ _ _ _ _ => False) 3 "_law_market" f_law_market [] := cal_mk F4 (PySem.W.mg_of X G a4) (F4.binds b_law_market) sc_law_market rfl rfl k_law_market rfl rfl (by decide) (by decide) (by decide) rfl E4
  have bn5 : ∀ x, (s_law_take).bns.contains x = true → mg x = none := by
    intro x hx
    simp only [s_law_take, List.contains_cons, List.contains_nil, Bool.or_false, Bool.or_eq_true, beq_iff_eq] at hx
    rcases hx with rfl
    · exact PySem.W.mg_none_of X G z1
  have E5 : Env1 PySem.Challenge.rw_surehedge_k18_amounts_and_conditions.prog w K mg base (fun _ _ _ _ _ => False) 0 s_law_take g_law_take := ⟨bn5, (fun h => nomatch h), (fun i x hx => match i, hx with | i, hx => by simp [s_law_take] at hx), (fun i x hx => match i, hx with | i, hx => by simp [s_law_take] at hx)⟩
  have C5 : Cal PySem.Challenge.rw_surehedge_k18_amounts_and_conditions.prog w K mg base (fun _ _ _ _ _ => False) 1 "_law_take" f_law_take [0] := cal_mk F5 (PySem.W.mg_of X G a5) (F5.binds b_law_take) sc_law_take rfl rfl k_law_take rfl rfl (by decide) (by decide) (by decide) rfl E5
  have bn6 : ∀ x, (s_law_amount).bns.contains x = true → mg x = none := by
    intro x hx
    simp only [s_law_amount, List.contains_cons, List.contains_nil, Bool.or_false, Bool.or_eq_true, beq_iff_eq] at hx
    rcases hx with rfl | rfl
    · exact PySem.W.mg_none_of X G z2
    · exact PySem.W.mg_none_of X G z1
  have C6r : ∀ n : Nat, Cal PySem.Challenge.rw_surehedge_k18_amounts_and_conditions.prog w K mg base (fun _ _ _ _ _ => False) (n + 3) "_law_amount" (fr_law_amount n) [1] := by
    intro n
    induction n with
    | zero => exact cal_stuck F6 (PySem.W.mg_of X G a6) (F6.binds b_law_amount)
    | succ n ih =>
      have E : Env1 PySem.Challenge.rw_surehedge_k18_amounts_and_conditions.prog w K mg base (fun _ _ _ _ _ => False) (n + 3) s_law_amount (g_law_amount (fr_law_amount n)) := ⟨bn6, (fun h => nomatch h), (fun i x hx => match i, hx with | i, hx => by simp [s_law_amount] at hx), (fun i x hx => match i, hx with | 0, hx => by cases hx; exact C5.mono (by omega) | 1, hx => by cases hx; exact C3.mono (by omega) | 2, hx => by cases hx; exact ih | (i + 3), hx => by simp [s_law_amount] at hx)⟩
      exact (cal_mk F6 (PySem.W.mg_of X G a6) (F6.binds b_law_amount) sc_law_amount rfl rfl k_law_amount rfl rfl (by decide) (show ([1] : List Nat).Nodup by decide) (show ∀ j ∈ ([1] : List Nat), j < c_law_amount.np by decide) rfl E).mono (by omega)
  have C6 : Cal PySem.Challenge.rw_surehedge_k18_amounts_and_conditions.prog w K mg base (fun _ _ _ _ _ => False) (11) "_law_amount" (f_law_amount) [1] := (C6r 8).mono (by decide)
  have bn7 : ∀ x, (s_law_condition).bns.contains x = true → mg x = none := by
    intro x hx
    simp only [s_law_condition, List.contains_cons, List.contains_nil, Bool.or_false, Bool.or_eq_true, beq_iff_eq] at hx
    rcases hx with rfl | rfl
    · exact PySem.W.mg_none_of X G z2
    · exact PySem.W.mg_none_of X G z3
  have C7r : ∀ n : Nat, Cal PySem.Challenge.rw_surehedge_k18_amounts_and_conditions.prog w K mg base (fun _ _ _ _ _ => False) (n + 12) "_law_condition" (fr_law_condition n) [1] := by
    intro n
    induction n with
    | zero => exact cal_stuck F7 (PySem.W.mg_of X G a7) (F7.binds b_law_condition)
    | succ n ih =>
      have E : Env1 PySem.Challenge.rw_surehedge_k18_amounts_and_conditions.prog w K mg base (fun _ _ _ _ _ => False) (n + 12) s_law_condition (g_law_condition (fr_law_condition n)) := ⟨bn7, (fun h => nomatch h), (fun i x hx => match i, hx with | i, hx => by simp [s_law_condition] at hx), (fun i x hx => match i, hx with | 0, hx => by cases hx; exact C5.mono (by omega) | 1, hx => by cases hx; exact C6.mono (by omega) | 2, hx => by cases hx; exact ih | (i + 3), hx => by simp [s_law_condition] at hx)⟩
      exact (cal_mk F7 (PySem.W.mg_of X G a7) (F7.binds b_law_condition) sc_law_condition rfl rfl k_law_condition rfl rfl (by decide) (show ([1] : List Nat).Nodup by decide) (show ∀ j ∈ ([1] : List Nat), j < c_law_condition.np by decide) rfl E).mono (by omega)
  have C7 : Cal PySem.Challenge.rw_surehedge_k18_amounts_and_conditions.prog w K mg base (fun _ _ _ _ _ => False) (20) "_law_condition" (f_law_condition) [1] := (C7r 8).mono (by decide)
  have bn8 : ∀ x, (s_named).bns.contains x = true → mg x = none := by
    intro x hx
    simp [s_named] at hx
  have E8 : Env1 PySem.Challenge.rw_surehedge_k18_amounts_and_conditions.prog w K mg base (fun _ _ _ _ _ => False) 0 s_named g_named := ⟨bn8, (fun h => nomatch h), (fun i x hx => match i, hx with | i, hx => by simp [s_named] at hx), (fun i x hx => match i, hx with | i, hx => by simp [s_named] at hx)⟩
  have C8 : Cal PySem.Challenge.rw_surehedge_k18_amounts_and_conditions.prog w K mg base (fun _ _ _ _ _ => False) 1 "named" f_named [] := cal_mk F8 (PySem.W.mg_of X G a8) (F8.binds b_named) sc_named rfl rfl k_named rfl rfl (by decide) (by decide) (by decide) rfl E8
  have bn9 : ∀ x, (s_path_to).bns.contains x = true → mg x = none := by
    intro x hx
    simp only [s_path_to, List.contains_cons, List.contains_nil, Bool.or_false, Bool.or_eq_true, beq_iff_eq] at hx
    rcases hx with rfl | rfl
    · exact PySem.W.mg_none_of X G z0
    · exact PySem.W.mg_none_of X G z1
  have E9 : Env1 PySem.Challenge.rw_surehedge_k18_amounts_and_conditions.prog w K mg base (fun _ _ _ _ _ => False) 0 s_path_to g_path_to := ⟨bn9, (fun h => nomatch h), (fun i x hx => match i, hx with | i, hx => by simp [s_path_to] at hx), (fun i x hx => match i, hx with | i, hx => by simp [s_path_to] at hx)⟩
  have C9 : Cal PySem.Challenge.rw_surehedge_k18_amounts_and_conditions.prog w K mg base (fun _ _ _ _ _ => False) 1 "path_to" f_path_to [] := cal_mk F9 (PySem.W.mg_of X G a9) (F9.binds b_path_to) sc_path_to rfl rfl k_path_to rfl rfl (by decide) (by decide) (by decide) rfl E9
  have bn10 : ∀ x, (s_number).bns.contains x = true → mg x = none := by
    intro x hx
    simp [s_number] at hx
  have E10 : Env1 PySem.Challenge.rw_surehedge_k18_amounts_and_conditions.prog w K mg base (fun _ _ _ _ _ => False) 0 s_number g_number := ⟨bn10, (fun _ => PySem.W.mg_of X G zg), (fun i x hx => match i, hx with | i, hx => by simp [s_number] at hx), (fun i x hx => match i, hx with | i, hx => by simp [s_number] at hx)⟩
  have C10 : Cal PySem.Challenge.rw_surehedge_k18_amounts_and_conditions.prog w K mg base (fun _ _ _ _ _ => False) 1 "number" f_number [] := cal_mk F10 (PySem.W.mg_of X G a10) (F10.binds b_number) sc_number rfl rfl k_number rfl rfl (by decide) (by decide) (by decide) rfl E10
  have bn11 : ∀ x, (s_times).bns.contains x = true → mg x = none := by
    intro x hx
    simp [s_times] at hx
  have E11 : Env1 PySem.Challenge.rw_surehedge_k18_amounts_and_conditions.prog w K mg base (fun _ _ _ _ _ => False) 1 s_times g_times := ⟨bn11, (fun h => nomatch h), (fun i x hx => match i, hx with | i, hx => by simp [s_times] at hx), (fun i x hx => match i, hx with | 0, hx => by cases hx; exact C10.mono (by decide) | (i + 1), hx => by simp [s_times] at hx)⟩
  have C11 : Cal PySem.Challenge.rw_surehedge_k18_amounts_and_conditions.prog w K mg base (fun _ _ _ _ _ => False) 2 "times" f_times [] := cal_mk F11 (PySem.W.mg_of X G a11) (F11.binds b_times) sc_times rfl rfl k_times rfl rfl (by decide) (by decide) (by decide) rfl E11
  have bn12 : ∀ x, (s_plus).bns.contains x = true → mg x = none := by
    intro x hx
    simp [s_plus] at hx
  have E12 : Env1 PySem.Challenge.rw_surehedge_k18_amounts_and_conditions.prog w K mg base (fun _ _ _ _ _ => False) 1 s_plus g_plus := ⟨bn12, (fun h => nomatch h), (fun i x hx => match i, hx with | i, hx => by simp [s_plus] at hx), (fun i x hx => match i, hx with | 0, hx => by cases hx; exact C10.mono (by decide) | (i + 1), hx => by simp [s_plus] at hx)⟩
  have C12 : Cal PySem.Challenge.rw_surehedge_k18_amounts_and_conditions.prog w K mg base (fun _ _ _ _ _ => False) 2 "plus" f_plus [] := cal_mk F12 (PySem.W.mg_of X G a12) (F12.binds b_plus) sc_plus rfl rfl k_plus rfl rfl (by decide) (by decide) (by decide) rfl E12
  have bn13 : ∀ x, (s_compare).bns.contains x = true → mg x = none := by
    intro x hx
    simp only [s_compare, List.contains_cons, List.contains_nil, Bool.or_false, Bool.or_eq_true, beq_iff_eq] at hx
    rcases hx with rfl
    · exact PySem.W.mg_none_of X G z2
  have E13 : Env1 PySem.Challenge.rw_surehedge_k18_amounts_and_conditions.prog w K mg base (fun _ _ _ _ _ => False) 0 s_compare g_compare := ⟨bn13, (fun h => nomatch h), (fun i x hx => match i, hx with | i, hx => by simp [s_compare] at hx), (fun i x hx => match i, hx with | i, hx => by simp [s_compare] at hx)⟩
  have C13 : Cal PySem.Challenge.rw_surehedge_k18_amounts_and_conditions.prog w K mg base (fun _ _ _ _ _ => False) 1 "compare" f_compare [] := cal_mk F13 (PySem.W.mg_of X G a13) (F13.binds b_compare) sc_compare rfl rfl k_compare rfl rfl (by decide) (by decide) (by decide) rfl E13
  have bn14 : ∀ x, (s_amount_at).bns.contains x = true → mg x = none := by
    intro x hx
    simp only [s_amount_at, List.contains_cons, List.contains_nil, Bool.or_false, Bool.or_eq_true, beq_iff_eq] at hx
    rcases hx with rfl
    · exact PySem.W.mg_none_of X G z1
  have C14r : ∀ n : Nat, Cal PySem.Challenge.rw_surehedge_k18_amounts_and_conditions.prog w K mg base (fun _ _ _ _ _ => False) (n + 3) "amount_at" (fr_amount_at n) [] := by
    intro n
    induction n with
    | zero => exact cal_stuck F14 (PySem.W.mg_of X G a14) (F14.binds b_amount_at)
    | succ n ih =>
      have E : Env1 PySem.Challenge.rw_surehedge_k18_amounts_and_conditions.prog w K mg base (fun _ _ _ _ _ => False) (n + 3) s_amount_at (g_amount_at (fr_amount_at n)) := ⟨bn14, (fun h => nomatch h), (fun i x hx => match i, hx with | i, hx => by simp [s_amount_at] at hx), (fun i x hx => match i, hx with | 0, hx => by cases hx; exact C8.mono (by omega) | 1, hx => by cases hx; exact C9.mono (by omega) | 2, hx => by cases hx; exact ih | 3, hx => by cases hx; exact C11.mono (by omega) | 4, hx => by cases hx; exact C12.mono (by omega) | 5, hx => by cases hx; exact C13.mono (by omega) | (i + 6), hx => by simp [s_amount_at] at hx)⟩
      exact (cal_mk F14 (PySem.W.mg_of X G a14) (F14.binds b_amount_at) sc_amount_at rfl rfl k_amount_at rfl rfl (by decide) (show ([] : List Nat).Nodup by decide) (show ∀ j ∈ ([] : List Nat), j < c_amount_at.np by decide) rfl E).mono (by omega)
  have C14 : Cal PySem.Challenge.rw_surehedge_k18_amounts_and_conditions.prog w K mg base (fun _ _ _ _ _ => False) (11) "amount_at" (f_amount_at) [] := (C14r 8).mono (by decide)
  have bn15 : ∀ x, (s_law_depth).bns.contains x = true → mg x = none := by
    intro x hx
    simp only [s_law_depth, List.contains_cons, List.contains_nil, Bool.or_false, Bool.or_eq_true, beq_iff_eq] at hx
    rcases hx with rfl
    · exact PySem.W.mg_none_of X G z0
  have E15 : Env1 PySem.Challenge.rw_surehedge_k18_amounts_and_conditions.prog w K mg base (fun _ _ _ _ _ => False) 0 s_law_depth g_law_depth := ⟨bn15, (fun h => nomatch h), (fun i x hx => match i, hx with | i, hx => by simp [s_law_depth] at hx), (fun i x hx => match i, hx with | i, hx => by simp [s_law_depth] at hx)⟩
  have C15 : Cal PySem.Challenge.rw_surehedge_k18_amounts_and_conditions.prog w K mg base (fun _ _ _ _ _ => False) 1 "_law_depth" f_law_depth [] := cal_mk F15 (PySem.W.mg_of X G a15) (F15.binds b_law_depth) sc_law_depth rfl rfl k_law_depth rfl rfl (by decide) (by decide) (by decide) rfl E15
  have bn16 : ∀ x, (s_law_times).bns.contains x = true → mg x = none := by
    intro x hx
    simp [s_law_times] at hx
  have E16 : Env1 PySem.Challenge.rw_surehedge_k18_amounts_and_conditions.prog w K mg base (fun _ _ _ _ _ => False) 1 s_law_times g_law_times := ⟨bn16, (fun h => nomatch h), (fun i x hx => match i, hx with | i, hx => by simp [s_law_times] at hx), (fun i x hx => match i, hx with | 0, hx => by cases hx; exact C2.mono (by decide) | (i + 1), hx => by simp [s_law_times] at hx)⟩
  have C16 : Cal PySem.Challenge.rw_surehedge_k18_amounts_and_conditions.prog w K mg base (fun _ _ _ _ _ => False) 2 "_law_times" f_law_times [] := cal_mk F16 (PySem.W.mg_of X G a16) (F16.binds b_law_times) sc_law_times rfl rfl k_law_times rfl rfl (by decide) (by decide) (by decide) rfl E16
  have bn17 : ∀ x, (s_law_plus).bns.contains x = true → mg x = none := by
    intro x hx
    simp [s_law_plus] at hx
  have E17 : Env1 PySem.Challenge.rw_surehedge_k18_amounts_and_conditions.prog w K mg base (fun _ _ _ _ _ => False) 1 s_law_plus g_law_plus := ⟨bn17, (fun h => nomatch h), (fun i x hx => match i, hx with | i, hx => by simp [s_law_plus] at hx), (fun i x hx => match i, hx with | 0, hx => by cases hx; exact C2.mono (by decide) | (i + 1), hx => by simp [s_law_plus] at hx)⟩
  have C17 : Cal PySem.Challenge.rw_surehedge_k18_amounts_and_conditions.prog w K mg base (fun _ _ _ _ _ => False) 2 "_law_plus" f_law_plus [] := cal_mk F17 (PySem.W.mg_of X G a17) (F17.binds b_law_plus) sc_law_plus rfl rfl k_law_plus rfl rfl (by decide) (by decide) (by decide) rfl E17
  have bn18 : ∀ x, (s_law_less).bns.contains x = true → mg x = none := by
    intro x hx
    simp [s_law_less] at hx
  have E18 : Env1 PySem.Challenge.rw_surehedge_k18_amounts_and_conditions.prog w K mg base (fun _ _ _ _ _ => False) 0 s_law_less g_law_less := ⟨bn18, (fun h => nomatch h), (fun i x hx => match i, hx with | i, hx => by simp [s_law_less] at hx), (fun i x hx => match i, hx with | i, hx => by simp [s_law_less] at hx)⟩
  have C18 : Cal PySem.Challenge.rw_surehedge_k18_amounts_and_conditions.prog w K mg base (fun _ _ _ _ _ => False) 1 "_law_less" f_law_less [] := cal_mk F18 (PySem.W.mg_of X G a18) (F18.binds b_law_less) sc_law_less rfl rfl k_law_less rfl rfl (by decide) (by decide) (by decide) rfl E18
  have bn19 : ∀ x, (s_law_value).bns.contains x = true → mg x = none := by
    intro x hx
    simp [s_law_value] at hx
  have C19r : ∀ n : Nat, Cal PySem.Challenge.rw_surehedge_k18_amounts_and_conditions.prog w K mg base (fun _ _ _ _ _ => False) (n + 3) "_law_value" (fr_law_value n) [] := by
    intro n
    induction n with
    | zero => exact cal_stuck F19 (PySem.W.mg_of X G a19) (F19.binds b_law_value)
    | succ n ih =>
      have E : Env1 PySem.Challenge.rw_surehedge_k18_amounts_and_conditions.prog w K mg base (fun _ _ _ _ _ => False) (n + 3) s_law_value (g_law_value (fr_law_value n)) := ⟨bn19, (fun h => nomatch h), (fun i x hx => match i, hx with | i, hx => by simp [s_law_value] at hx), (fun i x hx => match i, hx with | 0, hx => by cases hx; exact C15.mono (by omega) | 1, hx => by cases hx; exact ih | 2, hx => by cases hx; exact C16.mono (by omega) | 3, hx => by cases hx; exact C17.mono (by omega) | 4, hx => by cases hx; exact C18.mono (by omega) | (i + 5), hx => by simp [s_law_value] at hx)⟩
      exact (cal_mk F19 (PySem.W.mg_of X G a19) (F19.binds b_law_value) sc_law_value rfl rfl k_law_value rfl rfl (by decide) (show ([] : List Nat).Nodup by decide) (show ∀ j ∈ ([] : List Nat), j < c_law_value.np by decide) rfl E).mono (by omega)
  have C19 : Cal PySem.Challenge.rw_surehedge_k18_amounts_and_conditions.prog w K mg base (fun _ _ _ _ _ => False) (11) "_law_value" (f_law_value) [] := (C19r 8).mono (by decide)
  have bn20 : ∀ x, (s_law_same).bns.contains x = true → mg x = none := by
    intro x hx
    simp only [s_law_same, List.contains_cons, List.contains_nil, Bool.or_false, Bool.or_eq_true, beq_iff_eq] at hx
    rcases hx with rfl | rfl | rfl | rfl | rfl | rfl | rfl | rfl | rfl
    · exact PySem.W.mg_none_of X G z4
    · exact PySem.W.mg_none_of X G z5
    · exact PySem.W.mg_none_of X G z6
    · exact PySem.W.mg_none_of X G z1
    · exact PySem.W.mg_none_of X G z7
    · exact PySem.W.mg_none_of X G z0
    · exact PySem.W.mg_none_of X G z8
    · exact PySem.W.mg_none_of X G z2
    · exact PySem.W.mg_none_of X G z9
  have C20r : ∀ n : Nat, Cal PySem.Challenge.rw_surehedge_k18_amounts_and_conditions.prog w K mg base (fun _ _ _ _ _ => False) (n + 1) "_law_same" (fr_law_same n) [] := by
    intro n
    induction n with
    | zero => exact cal_stuck F20 (PySem.W.mg_of X G a20) (F20.binds b_law_same)
    | succ n ih =>
      have E : Env1 PySem.Challenge.rw_surehedge_k18_amounts_and_conditions.prog w K mg base (fun _ _ _ _ _ => False) (n + 1) s_law_same (g_law_same (fr_law_same n)) := ⟨bn20, (fun h => nomatch h), (fun i x hx => match i, hx with | i, hx => by simp [s_law_same] at hx), (fun i x hx => match i, hx with | 0, hx => by cases hx; exact ih | (i + 1), hx => by simp [s_law_same] at hx)⟩
      exact (cal_mk F20 (PySem.W.mg_of X G a20) (F20.binds b_law_same) sc_law_same rfl rfl k_law_same rfl rfl (by decide) (show ([] : List Nat).Nodup by decide) (show ∀ j ∈ ([] : List Nat), j < c_law_same.np by decide) rfl E).mono (by omega)
  have C20 : Cal PySem.Challenge.rw_surehedge_k18_amounts_and_conditions.prog w K mg base (fun _ _ _ _ _ => False) (9) "_law_same" (f_law_same) [] := (C20r 8).mono (by decide)
  have bn21 : ∀ x, (s_children).bns.contains x = true → mg x = none := by
    intro x hx
    simp only [s_children, List.contains_cons, List.contains_nil, Bool.or_false, Bool.or_eq_true, beq_iff_eq] at hx
    rcases hx with rfl | rfl
    · exact PySem.W.mg_none_of X G z0
    · exact PySem.W.mg_none_of X G z1
  have E21 : Env1 PySem.Challenge.rw_surehedge_k18_amounts_and_conditions.prog w K mg base (fun _ _ _ _ _ => False) 0 s_children g_children := ⟨bn21, (fun h => nomatch h), (fun i x hx => match i, hx with | i, hx => by simp [s_children] at hx), (fun i x hx => match i, hx with | i, hx => by simp [s_children] at hx)⟩
  have C21 : Cal PySem.Challenge.rw_surehedge_k18_amounts_and_conditions.prog w K mg base (fun _ _ _ _ _ => False) 1 "children" f_children [] := cal_mk F21 (PySem.W.mg_of X G a21) (F21.binds b_children) sc_children rfl rfl k_children rfl rfl (by decide) (by decide) (by decide) rfl E21
  have bn22 : ∀ x, (s_agrees).bns.contains x = true → mg x = none := by
    intro x hx
    simp [s_agrees] at hx
  have E22 : Env1 PySem.Challenge.rw_surehedge_k18_amounts_and_conditions.prog w K mg base (fun _ _ _ _ _ => False) 0 s_agrees g_agrees := ⟨bn22, (fun h => nomatch h), (fun i x hx => match i, hx with | i, hx => by simp [s_agrees] at hx), (fun i x hx => match i, hx with | i, hx => by simp [s_agrees] at hx)⟩
  have C22 : Cal PySem.Challenge.rw_surehedge_k18_amounts_and_conditions.prog w K mg base (fun _ _ _ _ _ => False) 1 "agrees" f_agrees [] := cal_mk F22 (PySem.W.mg_of X G a22) (F22.binds b_agrees) sc_agrees rfl rfl k_agrees rfl rfl (by decide) (by decide) (by decide) rfl E22
  have bn23 : ∀ x, (s_holds_at).bns.contains x = true → mg x = none := by
    intro x hx
    simp [s_holds_at] at hx
  have C23r : ∀ n : Nat, Cal PySem.Challenge.rw_surehedge_k18_amounts_and_conditions.prog w K mg base (fun _ _ _ _ _ => False) (n + 12) "holds_at" (fr_holds_at n) [] := by
    intro n
    induction n with
    | zero => exact cal_stuck F23 (PySem.W.mg_of X G a23) (F23.binds b_holds_at)
    | succ n ih =>
      have E : Env1 PySem.Challenge.rw_surehedge_k18_amounts_and_conditions.prog w K mg base (fun _ _ _ _ _ => False) (n + 12) s_holds_at (g_holds_at (fr_holds_at n)) := ⟨bn23, (fun h => nomatch h), (fun i x hx => match i, hx with | i, hx => by simp [s_holds_at] at hx), (fun i x hx => match i, hx with | 0, hx => by cases hx; exact C21.mono (by omega) | 1, hx => by cases hx; exact C14.mono (by omega) | 2, hx => by cases hx; exact C13.mono (by omega) | 3, hx => by cases hx; exact C22.mono (by omega) | 4, hx => by cases hx; exact ih | (i + 5), hx => by simp [s_holds_at] at hx)⟩
      exact (cal_mk F23 (PySem.W.mg_of X G a23) (F23.binds b_holds_at) sc_holds_at rfl rfl k_holds_at rfl rfl (by decide) (show ([] : List Nat).Nodup by decide) (show ∀ j ∈ ([] : List Nat), j < c_holds_at.np by decide) rfl E).mono (by omega)
  have C23 : Cal PySem.Challenge.rw_surehedge_k18_amounts_and_conditions.prog w K mg base (fun _ _ _ _ _ => False) (20) "holds_at" (f_holds_at) [] := (C23r 8).mono (by decide)
  have bn24 : ∀ x, (s_law_holds).bns.contains x = true → mg x = none := by
    intro x hx
    simp only [s_law_holds, List.contains_cons, List.contains_nil, Bool.or_false, Bool.or_eq_true, beq_iff_eq] at hx
    rcases hx with rfl
    · exact PySem.W.mg_none_of X G z10
  have C24r : ∀ n : Nat, Cal PySem.Challenge.rw_surehedge_k18_amounts_and_conditions.prog w K mg base (fun _ _ _ _ _ => False) (n + 12) "_law_holds" (fr_law_holds n) [] := by
    intro n
    induction n with
    | zero => exact cal_stuck F24 (PySem.W.mg_of X G a24) (F24.binds b_law_holds)
    | succ n ih =>
      have E : Env1 PySem.Challenge.rw_surehedge_k18_amounts_and_conditions.prog w K mg base (fun _ _ _ _ _ => False) (n + 12) s_law_holds (g_law_holds (fr_law_holds n)) := ⟨bn24, (fun h => nomatch h), (fun i x hx => match i, hx with | i, hx => by simp [s_law_holds] at hx), (fun i x hx => match i, hx with | 0, hx => by cases hx; exact C19.mono (by omega) | 1, hx => by cases hx; exact C18.mono (by omega) | 2, hx => by cases hx; exact ih | (i + 3), hx => by simp [s_law_holds] at hx)⟩
      exact (cal_mk F24 (PySem.W.mg_of X G a24) (F24.binds b_law_holds) sc_law_holds rfl rfl k_law_holds rfl rfl (by decide) (show ([] : List Nat).Nodup by decide) (show ∀ j ∈ ([] : List Nat), j < c_law_holds.np by decide) rfl E).mono (by omega)
  have C24 : Cal PySem.Challenge.rw_surehedge_k18_amounts_and_conditions.prog w K mg base (fun _ _ _ _ _ => False) (20) "_law_holds" (f_law_holds) [] := (C24r 8).mono (by decide)
  have bn25 : ∀ x, (s_law).bns.contains x = true → mg x = none := by
    intro x hx
    simp only [s_law, List.contains_cons, List.contains_nil, Bool.or_false, Bool.or_eq_true, beq_iff_eq] at hx
    rcases hx with rfl | rfl | rfl | rfl
    · exact PySem.W.mg_none_of X G z0
    · exact PySem.W.mg_none_of X G z2
    · exact PySem.W.mg_none_of X G z1
    · exact PySem.W.mg_none_of X G z11
  have E25 : Env1 PySem.Challenge.rw_surehedge_k18_amounts_and_conditions.prog w K mg base (fun _ _ _ _ _ => False) 20 s_law g_law := ⟨bn25, (fun h => nomatch h), (fun i x hx => match i, hx with | i, hx => by simp [s_law] at hx), (fun i x hx => match i, hx with | 0, hx => by cases hx; exact C0.mono (by decide) | 1, hx => by cases hx; exact C1.mono (by decide) | 2, hx => by cases hx; exact C4.mono (by decide) | 3, hx => by cases hx; exact C6.mono (by decide) | 4, hx => by cases hx; exact C7.mono (by decide) | 5, hx => by cases hx; exact C14.mono (by decide) | 6, hx => by cases hx; exact C19.mono (by decide) | 7, hx => by cases hx; exact C20.mono (by decide) | 8, hx => by cases hx; exact C23.mono (by decide) | 9, hx => by cases hx; exact C24.mono (by decide) | (i + 10), hx => by simp [s_law] at hx)⟩
  exact fnG_run F25 sc_law rfl rfl k_law rfl rfl (by decide) (by decide) (by decide) E25
end PD
open PySem PySem.W PyProof.Rows
set_option maxRecDepth 100000 in
set_option maxHeartbeats 0 in
theorem PySem.Challenge.cw_surehedge_k18_amounts_and_conditions_holds : PySem.Challenge.rw_surehedge_k18_amounts_and_conditions.Holds := by
  w_on; o_law; k_head; (case hw => w_witness2)
  k_fill
  refine PD.walkG (l := PySem.Challenge.rw_surehedge_k18_amounts_and_conditions) (n := 63) (k := 21) (x := "_law_script") (sp := fun w => PD.spOf _ (fun _ _ _ _ _ => False) [] PD.f_law) rfl (by decide) rfl ⟨rfl, by decide, by decide⟩ (fun w h Y => PySem.W.kIn_of Y) ?F (fun w H a ns hl hb hO hS => PD.law_sp1 (PD.law_true ns hl) H a hO hS) (fun w H s e s' h => PD.no_CX H s e s' h)
  case F =>
    intro w mg fa h KX G hmg
    refine' PD.all_mk KX G hmg ?a0 ?l0 ?c0 ?k0 ?a1 ?l1 ?c1 ?k1 ?a2 ?l2 ?c2 ?k2 ?a3 ?l3 ?c3 ?k3 ?a4 ?l4 ?c4 ?k4 ?a5 ?l5 ?c5 ?k5 ?a6 ?l6 ?c6 ?k6 ?a7 ?l7 ?c7 ?k7 ?a8 ?l8 ?c8 ?k8 ?a9 ?l9 ?c9 ?k9 ?a10 ?l10 ?c10 ?k10 ?a11 ?l11 ?c11 ?k11 ?a12 ?l12 ?c12 ?k12 ?a13 ?l13 ?c13 ?k13 ?a14 ?l14 ?c14 ?k14 ?a15 ?l15 ?c15 ?k15 ?a16 ?l16 ?c16 ?k16 ?a17 ?l17 ?c17 ?k17 ?a18 ?l18 ?c18 ?k18 ?a19 ?l19 ?c19 ?k19 ?a20 ?l20 ?c20 ?k20 ?a21 ?l21 ?c21 ?k21 ?a22 ?l22 ?c22 ?k22 ?a23 ?l23 ?c23 ?k23 ?a24 ?l24 ?c24 ?k24 ?a25 ?l25 ?c25 ?k25 ?z0 ?z1 ?z2 ?z3 ?z4 ?z5 ?z6 ?z7 ?z8 ?z9 ?z10 ?z11 ?zg
    (case a0 => k_is); (case l0 => k_is); (case c0 => k_is); (case k0 => k_is); (case a1 => k_is); (case l1 => k_is); (case c1 => k_is); (case k1 => k_is); (case a2 => k_is); (case l2 => k_is); (case c2 => k_is); (case k2 => k_is); (case a3 => k_is); (case l3 => k_is); (case c3 => k_is); (case k3 => k_is); (case a4 => k_is); (case l4 => k_is); (case c4 => k_is); (case k4 => k_is); (case a5 => k_is); (case l5 => k_is); (case c5 => k_is); (case k5 => k_is); (case a6 => k_is); (case l6 => k_is); (case c6 => k_is); (case k6 => k_is); (case a7 => k_is); (case l7 => k_is); (case c7 => k_is); (case k7 => k_is); (case a8 => k_is); (case l8 => k_is); (case c8 => k_is); (case k8 => k_is); (case a9 => k_is); (case l9 => k_is); (case c9 => k_is); (case k9 => k_is); (case a10 => k_is); (case l10 => k_is); (case c10 => k_is); (case k10 => k_is); (case a11 => k_is); (case l11 => k_is); (case c11 => k_is); (case k11 => k_is); (case a12 => k_is); (case l12 => k_is); (case c12 => k_is); (case k12 => k_is); (case a13 => k_is); (case l13 => k_is); (case c13 => k_is); (case k13 => k_is); (case a14 => k_is); (case l14 => k_is); (case c14 => k_is); (case k14 => k_is); (case a15 => k_is); (case l15 => k_is); (case c15 => k_is); (case k15 => k_is); (case a16 => k_is); (case l16 => k_is); (case c16 => k_is); (case k16 => k_is); (case a17 => k_is); (case l17 => k_is); (case c17 => k_is); (case k17 => k_is); (case a18 => k_is); (case l18 => k_is); (case c18 => k_is); (case k18 => k_is); (case a19 => k_is); (case l19 => k_is); (case c19 => k_is); (case k19 => k_is); (case a20 => k_is); (case l20 => k_is); (case c20 => k_is); (case k20 => k_is); (case a21 => k_is); (case l21 => k_is); (case c21 => k_is); (case k21 => k_is); (case a22 => k_is); (case l22 => k_is); (case c22 => k_is); (case k22 => k_is); (case a23 => k_is); (case l23 => k_is); (case c23 => k_is); (case k23 => k_is); (case a24 => k_is); (case l24 => k_is); (case c24 => k_is); (case k24 => k_is); (case a25 => k_is); (case l25 => k_is); (case c25 => k_is); (case k25 => k_is); (case z0 => k_is); (case z1 => k_is); (case z2 => k_is); (case z3 => k_is); (case z4 => k_is); (case z5 => k_is); (case z6 => k_is); (case z7 => k_is); (case z8 => k_is); (case z9 => k_is); (case z10 => k_is); (case z11 => k_is); (case zg => k_is)
