import PyProof.Rows.All
import Wide.All
import OpenK.AllK
import Wide.FinOn
import HandS.ForMost
import HandS.ForExc
import HandS.TryMany
import HandS.IsInst
import HandS.Gcd
import HandS.Wide
import HandS.Deep
import HandS.Flow
import HandS.Lambda
import HandS.EndTab
import HandS.CallSlots
import HandS.TupAny
import HandS.TupLe
import HandS.Zip
import PyProof.ReprReads
import PyProof.ReprRoads
import HandS.WordsExc
import KE.KExcSuper
import KE.KSuper
import HandS.ExcInit
import HandS.ExcField
import PyProof.ReprLen
import HandS.HeadWalk
import PySem.Challenge.RW_ductwise_k34_best_lines
set_option Elab.async false
set_option linter.all false
set_option maxRecDepth 100000
set_option maxHeartbeats 8000000
/-! # A layer over data: what Python code computes, as plain functions over plain data; each reading of HandS is lifted to such a function once -/
namespace Dw
open PySem PySem.Spec PyProof.Rows L2

/-! ### 1. data, cells, results -/
/-- a value: tuples (and a locked list: fl) are told whole, lists and dicts by their number in the memory -/
inductive D where
  | non | bl (b : Bool) | int (i : Int) | str (s : Str) | tup (xs : List D) | fl (xs : List D) | ref (n : Nat)
  deriving Inhabited
inductive Cell where
  | lst (xs : List D) | dct (kvs : List (Key × D))
abbrev Mem := List Cell
abbrev Env := List (Option D)
inductive R (α : Type) where
  | ok (a : α) (m : Mem)
  | exc (c : Str) (fs : List (Str × D)) (m : Mem)
  | bad
def R.bind {α β : Type} (r : R α) (f : α → Mem → R β) : R β :=
  match r with
  | .ok a m => f a m
  | .exc c fs m => .exc c fs m
  | .bad => .bad
@[simp] theorem R.bind_ok {α β : Type} (a : α) (m : Mem) (f : α → Mem → R β) : (R.ok a m).bind f = f a m := rfl
@[simp] theorem R.bind_exc {α β : Type} (c : Str) (fs : List (Str × D)) (m : Mem) (f : α → Mem → R β) : (R.exc c fs m).bind f = .exc c fs m := rfl
@[simp] theorem R.bind_bad {α β : Type} (f : α → Mem → R β) : (R.bad).bind f = .bad := rfl
/-- from an operation that raises nothing -/
def R.of {α : Type} : Option (α × Mem) → R α
  | some (a, m) => .ok a m
  | none => .bad
@[simp] theorem R.of_some {α : Type} (a : α) (m : Mem) : R.of (some (a, m)) = .ok a m := rfl
@[simp] theorem R.of_none {α : Type} : R.of (none : Option (α × Mem)) = .bad := rfl

mutual
/-- all numbers of cells in it are below n -/
def D.fits (n : Nat) : D → Bool
  | .tup xs => D.fitsL n xs
  | .fl xs => D.fitsL n xs
  | .ref k => decide (k < n)
  | .non => true
  | .bl _ => true
  | .int _ => true
  | .str _ => true
def D.fitsL (n : Nat) : List D → Bool
  | [] => true
  | x :: xs => D.fits n x && D.fitsL n xs
end
def Cell.fits (n : Nat) : Cell → Bool
  | .lst xs => D.fitsL n xs
  | .dct kvs => D.fitsL n (kvs.map (·.2))

/-! ### 2. relations: values and data, cells and what stands in the heap -/
structure Pm where
  K : PySem.W.Frag
  mg : Str → Option Value
  T : List (Addr × Str)

/-- a list that is only read: locked, or the module's own -/
def FrzL (K : PySem.W.Frag) (H : Hp) (a : Addr) (vs : List V) : Prop := (∃ o, H a = some (.frz o (.lst vs))) ∨ ∀ H' : Hp, SqL K H' a vs
mutual
inductive RD (P : Pm) (α : List Addr) (H : Hp) : V → D → Prop
  | non : RD P α H .non .non
  | bl (b : Bool) : RD P α H (.bl b) (.bl b)
  | int (i : Int) : RD P α H (.int i) (.int i)
  | str (x : Str) : RD P α H (.str x) (.str x)
  | tup {a : Addr} {vs : List V} {ds : List D} (h : SqT P.K H a vs) (r : RDs P α H vs ds) : RD P α H (.ref a) (.tup ds)
  | fl {a : Addr} {vs : List V} {ds : List D} (h : FrzL P.K H a vs) (r : RDs P α H vs ds) : RD P α H (.ref a) (.fl ds)
  | ref {a : Addr} {n : Nat} (h : α[n]? = some a) : RD P α H (.ref a) (.ref n)
inductive RDs (P : Pm) (α : List Addr) (H : Hp) : List V → List D → Prop
  | nil : RDs P α H [] []
  | cons {v : V} {vs : List V} {d : D} {ds : List D} (r : RD P α H v d) (rs : RDs P α H vs ds) : RDs P α H (v :: vs) (d :: ds)
end
/-- named values -/
inductive RFs (P : Pm) (α : List Addr) (H : Hp) : List (Str × V) → List (Str × D) → Prop
  | nil : RFs P α H [] []
  | cons {n : Str} {v : V} {vs : List (Str × V)} {d : D} {ds : List (Str × D)} (r : RD P α H v d) (rs : RFs P α H vs ds) : RFs P α H ((n, v) :: vs) ((n, d) :: ds)
inductive RKs (P : Pm) (α : List Addr) (H : Hp) : List (Key × V) → List (Key × D) → Prop
  | nil : RKs P α H [] []
  | cons {n : Key} {v : V} {vs : List (Key × V)} {d : D} {ds : List (Key × D)} (r : RD P α H v d) (rs : RKs P α H vs ds) : RKs P α H ((n, v) :: vs) ((n, d) :: ds)
def RC (P : Pm) (α : List Addr) (H : Hp) (a : Addr) : Cell → Prop
  | .lst ds => ∃ vs, H a = some (.lst vs) ∧ RDs P α H vs ds
  | .dct kds => ∃ kvs, H a = some (.dK kvs) ∧ RKs P α H kvs kds
structure RM (P : Pm) (α : List Addr) (H : Hp) (m : Mem) : Prop where
  len : α.length = m.length
  inj : ∀ (i j : Nat) (a : Addr), α[i]? = some a → α[j]? = some a → i = j
  cell : ∀ (i : Nat) (c : Cell) (a : Addr), m[i]? = some c → α[i]? = some a → RC P α H a c
  tab : LamX.Tabs P.T H
/-- the names of a frame -/
structure RE (P : Pm) (α : List Addr) (H : Hp) (ρ : Env) (σ : L2.St) : Prop where
  len : ρ.length = σ.length
  at_ : ∀ (i : Nat) (d : D), ρ[i]? = some (some d) → ∃ v, σ[i]? = some (some v) ∧ RD P α H v d
/-- the memory has grown -/
structure Ext (P : Pm) (α : List Addr) (H : Hp) (α' : List Addr) (H' : Hp) : Prop where
  pre : ∃ β, α' = α ++ β
  keep : ∀ b o, H b = some o → b ∉ α → (∀ ps, o ≠ .tbl ps) → H' b = some o ∧ b ∉ α'
  tup : ∀ b xs, SqT P.K H b xs → SqT P.K H' b xs
  frz : ∀ b xs, FrzL P.K H b xs → FrzL P.K H' b xs

section
variable {P : Pm} {α α1 α2 : List Addr} {H H1 H2 : Hp}
theorem Ext.refl : Ext P α H α H := ⟨⟨[], by simp⟩, fun _ _ h n _ => ⟨h, n⟩, fun _ _ h => h, fun _ _ h => h⟩
theorem Ext.trans (a : Ext P α H α1 H1) (b : Ext P α1 H1 α2 H2) : Ext P α H α2 H2 := by
  refine ⟨?_, fun c o h n t => ?_, fun c xs h => b.tup c xs (a.tup c xs h), fun c xs h => b.frz c xs (a.frz c xs h)⟩
  · obtain ⟨β, rfl⟩ := a.pre
    obtain ⟨γ, rfl⟩ := b.pre
    exact ⟨β ++ γ, by rw [List.append_assoc]⟩
  · obtain ⟨h1, n1⟩ := a.keep c o h n t
    exact b.keep c o h1 n1 t
theorem Ext.at_ (e : Ext P α H α1 H1) {n : Nat} {a : Addr} (h : α[n]? = some a) : α1[n]? = some a := by
  obtain ⟨β, rfl⟩ := e.pre
  rw [List.getElem?_append_left (List.getElem?_eq_some_iff.mp h).1]
  exact h
mutual
theorem RD.mono (e : Ext P α H α1 H1) : ∀ {v : V} {d : D}, RD P α H v d → RD P α1 H1 v d
  | _, _, .non => .non
  | _, _, .bl b => .bl b
  | _, _, .int i => .int i
  | _, _, .str x => .str x
  | _, _, .tup h r => .tup (e.tup _ _ h) (RDs.mono e r)
  | _, _, .fl h r => .fl (e.frz _ _ h) (RDs.mono e r)
  | _, _, .ref h => .ref (e.at_ h)
theorem RDs.mono (e : Ext P α H α1 H1) : ∀ {vs : List V} {ds : List D}, RDs P α H vs ds → RDs P α1 H1 vs ds
  | _, _, .nil => .nil
  | _, _, .cons r rs => .cons (RD.mono e r) (RDs.mono e rs)
end
theorem RFs.mono (e : Ext P α H α1 H1) : ∀ {vs : List (Str × V)} {ds : List (Str × D)}, RFs P α H vs ds → RFs P α1 H1 vs ds
  | _, _, .nil => .nil
  | _, _, .cons r rs => .cons (r.mono e) (RFs.mono e rs)
theorem RKs.mono (e : Ext P α H α1 H1) : ∀ {vs : List (Key × V)} {ds : List (Key × D)}, RKs P α H vs ds → RKs P α1 H1 vs ds
  | _, _, .nil => .nil
  | _, _, .cons r rs => .cons (r.mono e) (RKs.mono e rs)
theorem RE.mono (e : Ext P α H α1 H1) {ρ : Env} {σ : L2.St} (r : RE P α H ρ σ) : RE P α1 H1 ρ σ :=
  ⟨r.len, fun i d h => let ⟨v, h1, h2⟩ := r.at_ i d h; ⟨v, h1, h2.mono e⟩⟩
theorem RDs.length : ∀ {vs : List V} {ds : List D}, RDs P α H vs ds → vs.length = ds.length
  | _, _, .nil => rfl
  | _, _, .cons _ rs => by rw [List.length_cons, List.length_cons, RDs.length rs]
theorem RKs.length : ∀ {vs : List (Key × V)} {ds : List (Key × D)}, RKs P α H vs ds → vs.length = ds.length
  | _, _, .nil => rfl
  | _, _, .cons _ rs => by rw [List.length_cons, List.length_cons, RKs.length rs]
theorem RDs.get : ∀ {vs : List V} {ds : List D} {i : Nat} {d : D}, RDs P α H vs ds → ds[i]? = some d → ∃ v, vs[i]? = some v ∧ RD P α H v d
  | _, _, _, _, .nil, h => by simp at h
  | _, _, 0, _, .cons r _, h => by simp at h; subst h; exact ⟨_, rfl, r⟩
  | _, _, i + 1, d, .cons _ rs, h => by
    obtain ⟨v, h1, h2⟩ := RDs.get (i := i) (d := d) rs (by simpa using h)
    exact ⟨v, by simpa using h1, h2⟩
theorem RDs.getV : ∀ {vs : List V} {ds : List D} {i : Nat} {v : V}, RDs P α H vs ds → vs[i]? = some v → ∃ d, ds[i]? = some d ∧ RD P α H v d
  | _, _, _, _, .nil, h => by simp at h
  | _, _, 0, _, .cons r _, h => by simp at h; subst h; exact ⟨_, rfl, r⟩
  | _, _, i + 1, d, .cons _ rs, h => by
    obtain ⟨v, h1, h2⟩ := RDs.getV (i := i) rs (by simpa using h)
    exact ⟨v, by simpa using h1, h2⟩
theorem RDs.append : ∀ {vs ws : List V} {ds es : List D}, RDs P α H vs ds → RDs P α H ws es → RDs P α H (vs ++ ws) (ds ++ es)
  | _, _, _, _, .nil, h => h
  | _, _, _, _, .cons r rs, h => .cons r (RDs.append rs h)
theorem RDs.take : ∀ {vs : List V} {ds : List D} (n : Nat), RDs P α H vs ds → RDs P α H (vs.take n) (ds.take n)
  | _, _, 0, _ => .nil
  | _, _, _ + 1, .nil => .nil
  | _, _, n + 1, .cons r rs => .cons r (RDs.take n rs)
theorem RDs.drop : ∀ {vs : List V} {ds : List D} (n : Nat), RDs P α H vs ds → RDs P α H (vs.drop n) (ds.drop n)
  | _, _, 0, h => h
  | _, _, _ + 1, .nil => .nil
  | _, _, n + 1, .cons _ rs => RDs.drop n rs
theorem RDs.set {v : V} {d : D} (r : RD P α H v d) : ∀ {vs : List V} {ds : List D} (i : Nat), RDs P α H vs ds → RDs P α H (vs.set i v) (ds.set i d)
  | _, _, _, .nil => .nil
  | _, _, 0, .cons _ rs => .cons r rs
  | _, _, i + 1, .cons q rs => .cons q (RDs.set r i rs)
theorem RDs.dropLast : ∀ {vs : List V} {ds : List D}, RDs P α H vs ds → RDs P α H vs.dropLast ds.dropLast
  | _, _, .nil => .nil
  | _, _, .cons r .nil => .nil
  | _, _, .cons r (.cons r2 rs) => .cons r (RDs.dropLast (.cons r2 rs))
theorem RDs.rep {vs : List V} {ds : List D} (r : RDs P α H vs ds) : ∀ k : Nat, RDs P α H (List.replicate k vs).flatten (List.replicate k ds).flatten
  | 0 => .nil
  | k + 1 => by
    rw [List.replicate_succ, List.replicate_succ, List.flatten_cons, List.flatten_cons]
    exact r.append (RDs.rep r k)
/-- all numbers in related data stand in α -/
theorem RD.ltLen : ∀ {v : V} {n : Nat}, RD P α H v (.ref n) → n < α.length
  | _, _, .ref h => (List.getElem?_eq_some_iff.mp h).1
end

/-! ### 3. what is wanted behind a computation -/
/-- an exception's relation: its class by name, its fields -/
def ExcR (P : Pm) (α : List Addr) (H : Hp) (cls : Value) (dd : Option Addr) (c : Str) (fs : List (Str × D)) : Prop :=
  ∃ (C d : Addr) (fv : List (Str × V)), cls = .ref C ∧ P.mg c = some (.ref C) ∧ dd = some d ∧ H d = some (.xd fv) ∧ RFs P α H fv fs
def Post {β : Type} (P : Pm) (W : WX) (σ : L2.St) (α : List Addr) (H : Hp) (r : R β) (Φ : List Addr → Hp → β → Mem → Prop) : Prop :=
  match r with
  | .ok b m' => ∀ α' H', Ext P α H α' H' → RM P α' H' m' → Φ α' H' b m'
  | .exc c fs m' => ∀ α' H' cls dd, Ext P α H α' H' → RM P α' H' m' → ExcR P α' H' cls dd c fs → W cls dd σ H'
  | .bad => False
section
variable {P : Pm} {W : WX} {σ : L2.St} {α α1 : List Addr} {H H1 : Hp} {β γ : Type} {r : R β} {f : β → Mem → R γ} {Φ Ψ : List Addr → Hp → β → Mem → Prop} {Θ : List Addr → Hp → γ → Mem → Prop}
theorem Post.mono (h : Post P W σ α H r Φ) (k : ∀ α' H' b m', Ext P α H α' H' → RM P α' H' m' → Φ α' H' b m' → Ψ α' H' b m') : Post P W σ α H r Ψ := by
  cases r with
  | ok b m => exact fun α' H' e r => k _ _ _ _ e r (h α' H' e r)
  | exc c fs m => exact h
  | bad => exact h
theorem Post.from (h : Post P W σ α H r Φ) (e : Ext P α H α1 H1) : Post P W σ α1 H1 r Φ := by
  cases r with
  | ok b m => exact fun α' H' e2 r => h α' H' (e.trans e2) r
  | exc c fs m => exact fun α' H' cls dd e2 r x => h α' H' cls dd (e.trans e2) r x
  | bad => exact h
theorem Post.bind (h : Post P W σ α H (r.bind f) Θ) : Post P W σ α H r fun α' H' b m' => Post P W σ α' H' (f b m') Θ := by
  cases r with
  | ok b m => exact fun α' H' e r => Post.from (show Post P W σ α H (f b m) Θ from h) e
  | exc c fs m => exact h
  | bad => exact h
theorem Post.ok {b : β} {m' : Mem} (h : Post P W σ α H (.ok b m') Φ) (e : Ext P α H α1 H1) (rm : RM P α1 H1 m') : Φ α1 H1 b m' := h _ _ e rm
end
/-- a value is wanted -/
abbrev wV (P : Pm) (Q : VK) : List Addr → Hp → D → Mem → Prop := fun α' H' d _ => ∀ v, RD P α' H' v d → Q v H'
abbrev G := Env → Mem → R D
abbrev GT := Env → Mem → R Bool
abbrev GA := Env → Mem → R (List D)
inductive Fl where
  | nx (ρ : Env) | ret (d : D) | brk (ρ : Env) | cnt (ρ : Env)
abbrev GS := Env → Mem → R Fl
abbrev GG := D → Env → Mem → R Env

def tE (P : Pm) (W : WX) (g : G) : TE := fun σ H Q => ∃ α ρ m, RM P α H m ∧ RE P α H ρ σ ∧ Post P W σ α H (g ρ m) (wV P Q)
def tT (P : Pm) (W : WX) (g : GT) : TT := fun σ H Q => ∃ α ρ m, RM P α H m ∧ RE P α H ρ σ ∧ Post P W σ α H (g ρ m) fun _ H' b _ => Q b H'
def tA (P : Pm) (W : WX) (g : GA) : TA := fun σ H Q => ∃ α ρ m, RM P α H m ∧ RE P α H ρ σ ∧ Post P W σ α H (g ρ m) fun α' H' ds _ => ∀ vs, RDs P α' H' vs ds → Q vs H'
def tG (P : Pm) (W : WX) (g : GG) : TG := fun v σ H Q => ∃ α ρ m d, RM P α H m ∧ RE P α H ρ σ ∧ RD P α H v d ∧ Post P W σ α H (g d ρ m) fun α' H' ρ' _ => ∀ σ', RE P α' H' ρ' σ' → Q σ' H'
def xW (E : XK) : WX := fun c d _ H => E c d H
def flD (P : Pm) (D : Ends) (α : List Addr) (H : Hp) (f : Fl) : Prop :=
  match f with
  | .nx ρ => ∀ σ, RE P α H ρ σ → D.nx σ H
  | .ret d => ∀ v, RD P α H v d → D.rt v H
  | .brk ρ => ∀ σ, RE P α H ρ σ → D.bk σ H
  | .cnt ρ => ∀ σ, RE P α H ρ σ → D.ct σ H
end Dw

namespace Dw
open PySem PySem.Spec PyProof.Rows L2

/-! ### 4. the memory changed -/
section
variable {P : Pm} {α α1 : List Addr} {H H1 : Hp} {m : Mem}
theorem sqt_upd {K : PySem.W.Frag} {H : Hp} {p b : Addr} {o : HO} {xs : List V} (hp : ∀ u, H p = some u → (∀ ys, u ≠ .tup ys) ∧ ∀ ob w, u ≠ .frz ob w) (h : SqT K H b xs) : SqT K (upd H p o) b xs := by
  rcases h with h | h
  · refine .inl ?_
    rcases h with h | ⟨ob, h⟩
    · refine .inl ?_
      rw [upd_ne]; exact h
      rintro rfl
      exact (hp _ h).1 _ rfl
    · refine .inr ⟨ob, ?_⟩
      rw [upd_ne]; exact h
      rintro rfl
      exact (hp _ h).2 _ _ rfl
  · exact .inr h
theorem sql_upd {K : PySem.W.Frag} {H : Hp} {p b : Addr} {o : HO} {xs : List V} (hp : b ≠ p) (h : SqL K H b xs) : SqL K (upd H p o) b xs := by
  rcases h with h | h
  · refine .inl ?_
    rcases h with h | ⟨ob, h⟩
    · exact .inl (by rw [upd_ne hp]; exact h)
    · exact .inr ⟨ob, by rw [upd_ne hp]; exact h⟩
  · exact .inr h
theorem frz_upd {K : PySem.W.Frag} {H : Hp} {p b : Addr} {o : HO} {xs : List V} (hp : ∀ u, H p = some u → (∀ ys, u ≠ .tup ys) ∧ ∀ ob w, u ≠ .frz ob w) (h : FrzL K H b xs) : FrzL K (upd H p o) b xs := by
  rcases h with ⟨ob, h⟩ | h
  · refine .inl ⟨ob, ?_⟩
    rw [upd_ne]; exact h
    rintro rfl
    exact (hp _ h).2 _ _ rfl
  · exact .inr h
theorem tabs_upd {T : List (Addr × Str)} {H : Hp} {p : Addr} {o : HO} (hp : ∀ u, H p = some u → (∀ ps, u ≠ .tbl ps) ∧ ∀ φ, u ≠ .ext φ) (t : LamX.Tabs T H) : LamX.Tabs T (upd H p o) := fun q hq => by
  obtain ⟨ps, h1, h2, h3⟩ := t q hq
  refine ⟨ps, ?_, h2, fun pos cv hc => ?_⟩
  · rw [upd_ne]; exact h1
    intro e
    rw [e] at h1
    exact (hp _ h1).1 _ rfl
  · obtain ⟨c, e1, e2⟩ := h3 pos cv hc
    refine ⟨c, e1, ?_⟩
    rw [upd_ne]; exact e2
    rintro rfl
    exact (hp _ e2).2 _ rfl
/-- a new object that is no cell (a tuple) -/
theorem Ext.side {p : Addr} {o : HO} (hp : H p = none) : Ext P α H α (upd H p o) := by
  refine ⟨⟨[], by simp⟩, fun b u h n _ => ⟨?_, n⟩, fun b xs h => sqt_upd (fun u q => by rw [hp] at q; cases q) h, fun b xs h => frz_upd (fun u q => by rw [hp] at q; cases q) h⟩
  rw [upd_ne (ne_of_none h hp)]; exact h
theorem Ext.new {p : Addr} {o : HO} (hp : H p = none) : Ext P α H (α ++ [p]) (upd H p o) := by
  refine ⟨⟨[p], rfl⟩, fun b u h n _ => ⟨?_, ?_⟩, fun b xs h => sqt_upd (fun u q => by rw [hp] at q; cases q) h, fun b xs h => frz_upd (fun u q => by rw [hp] at q; cases q) h⟩
  · rw [upd_ne (ne_of_none h hp)]; exact h
  · intro q
    rcases List.mem_append.mp q with q | q
    · exact n q
    · rw [List.mem_singleton] at q
      subst q
      rw [hp] at h; cases h
/-- what a cell of lists and dicts is written into -/
def Wr : Option HO → Prop
  | some (.lst _) => True
  | some (.dK _) => True
  | _ => False
theorem Wr.no {H : Hp} {p : Addr} (w : Wr (H p)) : ∀ u, H p = some u → (∀ ys, u ≠ .tup ys) ∧ (∀ ob w, u ≠ .frz ob w) ∧ (∀ ps, u ≠ .tbl ps) ∧ ∀ φ, u ≠ .ext φ := fun u q => by
  rw [q] at w
  cases u <;> first | exact False.elim w | exact ⟨(fun _ z => nomatch z), (fun _ _ z => nomatch z), (fun _ z => nomatch z), fun _ z => nomatch z⟩
theorem Ext.write {a : Addr} {o : HO} (ha : a ∈ α) (w : Wr (H a)) : Ext P α H α (upd H a o) := by
  refine ⟨⟨[], by simp⟩, fun b u h n _ => ⟨?_, n⟩, fun b xs h => sqt_upd (fun u q => ⟨(w.no u q).1, (w.no u q).2.1⟩) h, fun b xs h => frz_upd (fun u q => ⟨(w.no u q).1, (w.no u q).2.1⟩) h⟩
  rw [upd_ne]; exact h
  rintro rfl
  exact n ha

theorem RC.mutAt {a : Addr} {c : Cell} (h : RC P α H a c) : Wr (H a) := by
  cases c with
  | lst ds => obtain ⟨vs, e, _⟩ := h; rw [e]; trivial
  | dct kds => obtain ⟨vs, e, _⟩ := h; rw [e]; trivial
theorem Wr.ne {H : Hp} {a : Addr} (w : Wr (H a)) : H a ≠ none := fun e => by rw [e] at w; exact w
theorem FrzL.sql {K : PySem.W.Frag} {H : Hp} {a : Addr} {vs : List V} (h : FrzL K H a vs) : SqL K H a vs := by
  rcases h with ⟨o, h⟩ | h
  · exact .inl (.inr ⟨o, h⟩)
  · exact h H
theorem RC.keep (e : Ext P α H α1 H1) {b : Addr} {c : Cell} (hb : H b ≠ none → H1 b = H b) (h : RC P α H b c) : RC P α1 H1 b c := by
  cases c with
  | lst ds => obtain ⟨vs, q, r⟩ := h; exact ⟨vs, by rw [hb (by rw [q]; simp), q], r.mono e⟩
  | dct ds => obtain ⟨vs, q, r⟩ := h; exact ⟨vs, by rw [hb (by rw [q]; simp), q], r.mono e⟩
theorem RM.lt (r : RM P α H m) {i : Nat} {a : Addr} (h : α[i]? = some a) : i < m.length := by
  rw [← r.len]; exact (List.getElem?_eq_some_iff.mp h).1
theorem RM.at_ (r : RM P α H m) {i : Nat} {c : Cell} (h : m[i]? = some c) : ∃ a, α[i]? = some a ∧ RC P α H a c := by
  have hi : i < α.length := by rw [r.len]; exact (List.getElem?_eq_some_iff.mp h).1
  exact ⟨α[i], List.getElem?_eq_getElem hi, r.cell i c _ h (List.getElem?_eq_getElem hi)⟩
theorem RM.wr (r : RM P α H m) {a : Addr} (h : a ∈ α) : Wr (H a) := by
  obtain ⟨i, hi, e⟩ := List.mem_iff_getElem.mp h
  have h2 : i < m.length := by rw [← r.len]; exact hi
  exact (r.cell i _ a (List.getElem?_eq_getElem h2) (by rw [List.getElem?_eq_getElem hi, e])).mutAt
theorem RM.not_mem (r : RM P α H m) {p : Addr} (h : H p = none) : p ∉ α := fun hm => (r.wr hm).ne h
theorem RM.side (r : RM P α H m) {p : Addr} {o : HO} (hp : H p = none) : RM P α (upd H p o) m := by
  refine ⟨r.len, r.inj, fun i c a h1 h2 => (r.cell i c a h1 h2).keep (Ext.side hp) fun hn => upd_ne fun e => hn (by rw [e]; exact hp), tabs_upd (fun u q => by rw [hp] at q; cases q) r.tab⟩
theorem RM.new (r : RM P α H m) {p : Addr} {o : HO} {c : Cell} (hp : H p = none) (hc : RC P (α ++ [p]) (upd H p o) p c) : RM P (α ++ [p]) (upd H p o) (m ++ [c]) := by
  have hl := r.len
  have np := r.not_mem hp
  have two : ∀ (i : Nat) (a : Addr), (α ++ [p])[i]? = some a → α[i]? = some a ∨ (i = α.length ∧ a = p) := fun i a h => by
    by_cases hi : i < α.length
    · rw [List.getElem?_append_left hi] at h; exact .inl h
    · have hi2 : i < (α ++ [p]).length := (List.getElem?_eq_some_iff.mp h).1
      have e : i = α.length := by rw [List.length_append, List.length_singleton] at hi2; omega
      rw [e, List.getElem?_concat_length] at h
      exact .inr ⟨e, (Option.some.inj h).symm⟩
  refine ⟨by simp [hl], fun i j a a1 a2 => ?_, fun i c' a h1 h2 => ?_, tabs_upd (fun u q => by rw [hp] at q; cases q) r.tab⟩
  · rcases two i a a1 with x | ⟨x, rfl⟩
    · rcases two j a a2 with y | ⟨y, rfl⟩
      · exact r.inj i j a x y
      · exact absurd (List.mem_of_getElem? x) np
    · rcases two j a a2 with y | ⟨y, _⟩
      · exact absurd (List.mem_of_getElem? y) np
      · rw [x, y]
  · rcases two i a h2 with x | ⟨x, rfl⟩
    · rw [List.getElem?_append_left (by rw [← hl]; exact (List.getElem?_eq_some_iff.mp x).1)] at h1
      exact (r.cell i c' a h1 x).keep (Ext.new hp) fun hn => upd_ne fun e => hn (by rw [e]; exact hp)
    · rw [x, hl, List.getElem?_concat_length] at h1
      cases h1
      exact hc
theorem RM.write (r : RM P α H m) {i : Nat} {a : Addr} {c : Cell} {o : HO} (ha : α[i]? = some a) (hc : RC P α (upd H a o) a c) : RM P α (upd H a o) (m.set i c) := by
  have w := r.wr (List.mem_of_getElem? ha)
  have hi : i < m.length := r.lt ha
  have e : Ext P α H α (upd H a o) := Ext.write (List.mem_of_getElem? ha) w
  refine ⟨by rw [List.length_set]; exact r.len, r.inj, fun j c' b h1 h2 => ?_, tabs_upd (fun u q => ⟨(w.no u q).2.2.1, (w.no u q).2.2.2⟩) r.tab⟩
  by_cases hj : j = i
  · subst hj
    rw [List.getElem?_set_self hi] at h1
    rw [ha] at h2
    cases h1
    cases h2
    exact hc
  · rw [List.getElem?_set_ne (Ne.symm hj)] at h1
    exact (r.cell j c' b h1 h2).keep e fun _ => upd_ne fun z => hj (r.inj j i b h2 (by rw [z]; exact ha))
/-- a new tuple -/
theorem RD.newTup {p : Addr} {vs : List V} {ds : List D} (hp : H p = none) (r : RDs P α H vs ds) : RD P α (upd H p (.tup vs)) (.ref p) (.tup ds) :=
  .tup (SqT.of upd_same) (r.mono (Ext.side hp))
theorem RC.newLst {p : Addr} {vs : List V} {ds : List D} (hp : H p = none) (r : RDs P α H vs ds) : RC P (α ++ [p]) (upd H p (.lst vs)) p (.lst ds) :=
  ⟨vs, upd_same, r.mono (Ext.new hp)⟩
theorem RC.newDct {p : Addr} {vs : List (Key × V)} {ds : List (Key × D)} (hp : H p = none) (r : RKs P α H vs ds) : RC P (α ++ [p]) (upd H p (.dK vs)) p (.dct ds) :=
  ⟨vs, upd_same, r.mono (Ext.new hp)⟩
theorem RD.newRef (r : RM P α H m) {p : Addr} : RD P (α ++ [p]) H1 (.ref p) (.ref m.length) := .ref (by rw [← r.len, List.getElem?_concat_length])
end

/-! ### 5. from readings to functions -/
def PostO {β : Type} (P : Pm) (α : List Addr) (H : Hp) (r : Option (β × Mem)) (Φ : List Addr → Hp → β → Mem → Prop) : Prop :=
  match r with
  | some (b, m') => ∀ α' H', Ext P α H α' H' → RM P α' H' m' → Φ α' H' b m'
  | none => False
theorem Post.of {β : Type} {P : Pm} {W : WX} {σ : L2.St} {α : List Addr} {H : Hp} {r : Option (β × Mem)} {Φ : List Addr → Hp → β → Mem → Prop} (h : Post P W σ α H (R.of r) Φ) : PostO P α H r Φ := by
  cases r with
  | none => exact h
  | some z => exact h
section
variable {X : Cx} {P : Pm} {W : WX} {e a b c : Expr} {es : List Expr} {pos : Pos}
theorem _root_.L2.PE.weaken {t t' : TE} (h : PE X e t) (k : ∀ σ H Q, t' σ H Q → t σ H Q) : PE X e t' := ⟨fun pins s σ H Q I q => h.run pins s σ H Q I (k _ _ _ q)⟩
theorem _root_.L2.PT.weaken {t t' : TT} (h : PT X e t) (k : ∀ σ H Q, t' σ H Q → t σ H Q) : PT X e t' := ⟨fun pins s σ H Q I q => h.run pins s σ H Q I (k _ _ _ q)⟩
theorem _root_.L2.PA.weaken {t t' : TA} (h : PA X es t) (k : ∀ σ H Q, t' σ H Q → t σ H Q) : PA X es t' := ⟨fun pos pins s σ H Q I q => h.run pos pins s σ H Q I (k _ _ _ q)⟩
theorem _root_.L2.PS.weaken {st : Stmt} {t t' : TS} (h : PS X st t) (k : ∀ D σ H, t' D σ H → t D σ H) : PS X st t' := ⟨fun pins s σ H D I q => h.run pins s σ H D I (k _ _ _ q)⟩
theorem _root_.L2.PSs.weaken {st : List Stmt} {t t' : TS} (h : PSs X st t) (k : ∀ D σ H, t' D σ H → t D σ H) : PSs X st t' := ⟨fun pins s σ H D I q => h.run pins s σ H D I (k _ _ _ q)⟩
theorem _root_.L2.PG.weaken {t t' : TG} (h : PG X e t) (k : ∀ v σ H Q, t' v σ H Q → t v σ H Q) : PG X e t' := ⟨fun pins s σ H v u Q I r q => h.run pins s σ H v u Q I r (k _ _ _ _ q)⟩

/-! #### the readings of the parts, one by one -/
theorem tE_bind {β : Type} {ga : G} {k : D → Mem → R β} {Θ : List Addr → Hp → β → Mem → Prop} {σ : L2.St} {H : Hp} {α : List Addr} {ρ : Env} {m : Mem} (rm : RM P α H m) (re : RE P α H ρ σ)
    (h : Post P W σ α H ((ga ρ m).bind k) Θ) {Q : VK} (q : ∀ α' H' d m', Ext P α H α' H' → RM P α' H' m' → Post P W σ α' H' (k d m') Θ → ∀ v, RD P α' H' v d → Q v H') : tE P W ga σ H Q :=
  ⟨α, ρ, m, rm, re, h.bind.mono fun α' H' d m' e r p v rv => q α' H' d m' e r p v rv⟩
theorem tT_bind {β : Type} {ga : GT} {k : Bool → Mem → R β} {Θ : List Addr → Hp → β → Mem → Prop} {σ : L2.St} {H : Hp} {α : List Addr} {ρ : Env} {m : Mem} (rm : RM P α H m) (re : RE P α H ρ σ)
    (h : Post P W σ α H ((ga ρ m).bind k) Θ) {Q : Bool → Hp → Prop} (q : ∀ α' H' b m', Ext P α H α' H' → RM P α' H' m' → Post P W σ α' H' (k b m') Θ → Q b H') : tT P W ga σ H Q :=
  ⟨α, ρ, m, rm, re, h.bind.mono fun α' H' d m' e r p => q α' H' d m' e r p⟩
theorem tA_bind {β : Type} {ga : GA} {k : List D → Mem → R β} {Θ : List Addr → Hp → β → Mem → Prop} {σ : L2.St} {H : Hp} {α : List Addr} {ρ : Env} {m : Mem} (rm : RM P α H m) (re : RE P α H ρ σ)
    (h : Post P W σ α H ((ga ρ m).bind k) Θ) {Q : List V → Hp → Prop} (q : ∀ α' H' ds m', Ext P α H α' H' → RM P α' H' m' → Post P W σ α' H' (k ds m') Θ → ∀ vs, RDs P α' H' vs ds → Q vs H') : tA P W ga σ H Q :=
  ⟨α, ρ, m, rm, re, h.bind.mono fun α' H' d m' e r p v rv => q α' H' d m' e r p v rv⟩

/-! #### names and constants -/
def eVar (i : Nat) : G := fun ρ m => match ρ[i]? with
  | some (some d) => .ok d m
  | _ => .bad
def eLit (d : D) : G := fun _ m => .ok d m
theorem de_var {i : Nat} {x : Str} (hN : X.N[i]? = some x) (hv : Vis X.env.scope x) (hd : (x == ("__debug__" : Str)) = false := by decide) (hcd : (x == ("__classdict__" : Str)) = false := by decide) : PE X (.Name x pos) (tE P W (eVar i)) :=
  (pe_var (i := i) hN hv hd hcd).weaken fun σ H Q ⟨α, ρ, m, rm, re, h⟩ => by
    unfold eVar at h
    cases e : ρ[i]? with
    | none => rw [e] at h; exact False.elim h
    | some o =>
      cases o with
      | none => rw [e] at h; exact False.elim h
      | some d =>
        rw [e] at h
        obtain ⟨v, h1, h2⟩ := re.at_ i d e
        exact ⟨v, h1, h α H Ext.refl rm v h2⟩
theorem de_lit {v : V} {d : D} (h : PE X e (tC v)) (r : ∀ α H, RD P α H v d) : PE X e (tE P W (eLit d)) :=
  h.weaken fun σ H Q ⟨α, ρ, m, rm, re, q⟩ => q α H Ext.refl rm v (r α H)
theorem de_int {i : Int} {j : Nat} : PE X (.Constant (.int i) j pos) (tE P W (eLit (.int i))) := de_lit pe_int fun _ _ => .int i
theorem de_bl {i : Bool} {j : Nat} : PE X (.Constant (.bool i) j pos) (tE P W (eLit (.bl i))) := de_lit pe_bl fun _ _ => .bl i
theorem de_non {j : Nat} : PE X (.Constant .none j pos) (tE P W (eLit .non)) := de_lit pe_non fun _ _ => .non
theorem de_str {x : Str} {j : Nat} : PE X (.Constant (.str x) j pos) (tE P W (eLit (.str x))) := de_lit pe_str fun _ _ => .str x
/-- a constant of the module: what its name holds is told by d at every heap -/
theorem de_glob {x : Str} {v : V} {u : Value} {d : D} (hg : Gl X x) (hm : X.mg x = some u) (rv : RelV v u) (r : ∀ α H, RD P α H v d) (hd : (x == ("__debug__" : Str)) = false := by decide) : PE X (.Name x pos) (tE P W (eLit d)) :=
  de_lit (pe_glob hg hm rv hd) r

/-! #### arguments, displays -/
def aNil : GA := fun _ m => .ok [] m
def aCons (g : G) (a : GA) : GA := fun ρ m => (g ρ m).bind fun d m => (a ρ m).bind fun ds m => .ok (d :: ds) m
theorem da_nil : PA X [] (tA P W aNil) := pa_nil.weaken fun σ H Q ⟨α, ρ, m, rm, re, q⟩ => q α H Ext.refl rm [] .nil
theorem da_cons {g : G} {ga : GA} (ha : PE X e (tE P W g)) (hr : PA X es (tA P W ga)) (hs : starEach (e :: es) X.env = (false, eval e X.env) :: starEach es X.env := by rfl) : PA X (e :: es) (tA P W (aCons g ga)) :=
  (pa_cons ha hr hs).weaken fun σ H Q ⟨α, ρ, m, rm, re, h⟩ => by
    refine tE_bind rm re h fun α1 H1 d m1 e1 r1 p1 v rv => ?_
    refine tA_bind r1 (re.mono e1) p1 fun α2 H2 ds m2 e2 r2 p2 vs rvs => ?_
    exact p2 α2 H2 Ext.refl r2 (v :: vs) (.cons (rv.mono e2) rvs)
def mkTup (ds : List D) (m : Mem) : Option (D × Mem) := if ds.length ≤ sizeLine then some (.tup ds, m) else none
def mkLst (ds : List D) (m : Mem) : Option (D × Mem) := if ds.length ≤ sizeLine then some (.ref m.length, m ++ [.lst ds]) else none
def eArgs (f : List D → Mem → Option (D × Mem)) (a : GA) : G := fun ρ m => (a ρ m).bind fun ds m => R.of (f ds m)
theorem de_tup {ga : GA} {k : Nat} (h : PA X es (tA P W ga)) : PE X (.Tuple es k pos) (tE P W (eArgs mkTup ga)) :=
  (pe_tup h).weaken fun σ H Q ⟨α, ρ, m, rm, re, h⟩ => by
    refine tA_bind rm re h fun α1 H1 ds m1 e1 r1 p1 vs rvs => ?_
    have p1 := p1.of
    unfold mkTup at p1
    split at p1
    · rename_i hz
      refine ⟨by rw [rvs.length]; exact hz, fun p hp => ?_⟩
      exact p1 α1 _ (Ext.side hp) (r1.side hp) _ (.newTup hp rvs)
    · exact False.elim p1
theorem de_lst {ga : GA} (h : PA X es (tA P W ga)) : PE X (.List es pos) (tE P W (eArgs mkLst ga)) :=
  (pe_lst h).weaken fun σ H Q ⟨α, ρ, m, rm, re, h⟩ => by
    refine tA_bind rm re h fun α1 H1 ds m1 e1 r1 p1 vs rvs => ?_
    have p1 := p1.of
    unfold mkLst at p1
    split at p1
    · rename_i hz
      refine ⟨by rw [rvs.length]; exact hz, fun p hp => ?_⟩
      exact p1 (α1 ++ [p]) _ (Ext.new hp) (r1.new hp (.newLst hp rvs)) _ (.newRef r1)
    · exact False.elim p1
end
end Dw

namespace Dw
open PySem PySem.Spec PyProof.Rows L2

/-! ### 6. operators, by data -/
def rO (P : Pm) (f : D → D → Mem → Option (D × Mem)) : R2 := fun x y H Q => ∃ α m dx dy, RM P α H m ∧ RD P α H x dx ∧ RD P α H y dy ∧ PostO P α H (f dx dy m) (wV P Q)
def rU1 (P : Pm) (f : D → Mem → Option (D × Mem)) : V → Hp → VK → Prop := fun x H Q => ∃ α m dx, RM P α H m ∧ RD P α H x dx ∧ PostO P α H (f dx m) (wV P Q)
def rB (P : Pm) (f : List D → Mem → Option (D × Mem)) : List V → Hp → VK → Prop := fun vs H Q => ∃ α m ds, RM P α H m ∧ RDs P α H vs ds ∧ PostO P α H (f ds m) (wV P Q)
def rM (P : Pm) (f : D → List D → Mem → Option (D × Mem)) : V → List V → Hp → VK → Prop := fun x vs H Q => ∃ α m d ds, RM P α H m ∧ RD P α H x d ∧ RDs P α H vs ds ∧ PostO P α H (f d ds m) (wV P Q)
def eOp (f : D → D → Mem → Option (D × Mem)) (a b : G) : G := fun ρ m => (a ρ m).bind fun x m => (b ρ m).bind fun y m => R.of (f x y m)
def eUn (f : D → Mem → Option (D × Mem)) (a : G) : G := fun ρ m => (a ρ m).bind fun x m => R.of (f x m)
section
variable {X : Cx} {P : Pm} {W : WX} {e a b c : Expr} {es : List Expr} {pos : Pos} {ga gb gc g : G} {ta : GA}
theorem un2 {f : D → D → Mem → Option (D × Mem)} {σ : L2.St} {H : Hp} {Q : VK} (h : tE P W (eOp f ga gb) σ H Q) : tE P W ga σ H fun x H1 => tE P W gb σ H1 fun y H2 => rO P f x y H2 Q := by
  obtain ⟨α, ρ, m, rm, re, h⟩ := h
  refine tE_bind rm re h fun α1 H1 d1 m1 e1 r1 p1 v1 rv1 => ?_
  refine tE_bind r1 (re.mono e1) p1 fun α2 H2 d2 m2 e2 r2 p2 v2 rv2 => ?_
  exact ⟨α2, m2, d1, d2, r2, rv1.mono e2, rv2, p2.of⟩
theorem un1 {f : D → Mem → Option (D × Mem)} {σ : L2.St} {H : Hp} {Q : VK} (h : tE P W (eUn f ga) σ H Q) : tE P W ga σ H fun x H1 => rU1 P f x H1 Q := by
  obtain ⟨α, ρ, m, rm, re, h⟩ := h
  refine tE_bind rm re h fun α1 H1 d1 m1 e1 r1 p1 v1 rv1 => ?_
  exact ⟨α1, m1, d1, r1, rv1, p1.of⟩
theorem unA {f : List D → Mem → Option (D × Mem)} {σ : L2.St} {H : Hp} {Q : VK} (h : tE P W (eArgs f ta) σ H Q) : tA P W ta σ H fun vs H1 => rB P f vs H1 Q := by
  obtain ⟨α, ρ, m, rm, re, h⟩ := h
  refine tA_bind rm re h fun α1 H1 d1 m1 e1 r1 p1 v1 rv1 => ?_
  exact ⟨α1, m1, d1, r1, rv1, p1.of⟩
theorem de_op {op : Operator} {f : D → D → Mem → Option (D × Mem)} (ho : OpR X (binaryOp op) (rO P f)) (ha : PE X a (tE P W ga)) (hb : PE X b (tE P W gb)) : PE X (.BinOp a op b pos) (tE P W (eOp f ga gb)) :=
  (pe_op ho ha hb).weaken fun σ H Q h => un2 h
theorem de_un {op : UnaryOp} {f : D → Mem → Option (D × Mem)} (ho : UnR X (unaryOp op) (rU1 P f)) (ha : PE X a (tE P W ga)) : PE X (.UnaryOp op a pos) (tE P W (eUn f ga)) :=
  (pe_un ho ha).weaken fun σ H Q h => un1 h
theorem de_cmp {op : CmpOp} {f : D → D → Mem → Option (D × Mem)} (ho : OpR X (compareOp op) (rO P f)) (ha : PE X a (tE P W ga)) (hb : PE X b (tE P W gb)) (hm : behindInMarks op b = false := by rfl) : PE X (.Compare a [op] [b] pos) (tE P W (eOp f ga gb)) :=
  (pe_cmpR ho ha hb hm).weaken fun σ H Q h => un2 h
theorem de_ix {f : D → D → Mem → Option (D × Mem)} (ho : IxR X (rO P f)) (ha : PE X a (tE P W ga)) (hb : PE X b (tE P W gb)) (hs : PlainIx b := by intro _ _; rfl) : PE X (.Subscript a b pos) (tE P W (eOp f ga gb)) :=
  (pe_ix ho ha hb hs).weaken fun σ H Q h => un2 h
theorem de_bi {x : Str} {id : String} {p : Pos} {f : List D → Mem → Option (D × Mem)} (hc : CallR X (.builtin id) (rB P f)) (hg : Gl X x) (hm : X.mg x = none) (hv : bootBuiltins x = some (.builtin id)) (ha : PA X (e :: es) (tA P W ta)) (hn : x ≠ "__name__" := by decide) (hdb : (x == ("__debug__" : Str)) = false := by decide)
    (he : starEach (e :: es) X.env = (false, eval e X.env) :: starEach es X.env := by rfl) (hpl : (backTo pos (starEach es X.env)).any (·.1) = false := by rfl) : PE X (.Call (.Name x p) (e :: es) [] pos) (tE P W (eArgs f ta)) :=
  (pe_callB hc hg hm hv ha hn hdb he hpl).weaken fun σ H Q h => unA h
theorem de_bf {x : Str} {id : String} {p : Pos} {f : List D → Mem → Option (D × Mem)} (hc : CallR X (.builtin id) (rB P f)) (hg : Gl X x) (hm : X.mg x = some (.builtin id)) (ha : PA X (e :: es) (tA P W ta)) (hdb : (x == ("__debug__" : Str)) = false := by decide)
    (he : starEach (e :: es) X.env = (false, eval e X.env) :: starEach es X.env := by rfl) (hpl : (backTo pos (starEach es X.env)).any (·.1) = false := by rfl) : PE X (.Call (.Name x p) (e :: es) [] pos) (tE P W (eArgs f ta)) :=
  (pe_callBfun hc hg hm ha hdb he hpl).weaken fun σ H Q h => unA h
theorem de_ty {x : Str} {T : String} {p : Pos} {f : List D → Mem → Option (D × Mem)} (hc : CallR X (.type T) (rB P f)) (hg : Gl X x) (hm : X.mg x = none) (hv : bootBuiltins x = some (.type T)) (ha : PA X (e :: es) (tA P W ta)) (hn : x ≠ "__name__" := by decide) (hdb : (x == ("__debug__" : Str)) = false := by decide)
    (he : starEach (e :: es) X.env = (false, eval e X.env) :: starEach es X.env := by rfl) (hpl : (backTo pos (starEach es X.env)).any (·.1) = false := by rfl) : PE X (.Call (.Name x p) (e :: es) [] pos) (tE P W (eArgs f ta)) :=
  (pe_callTy hc hg hm hv ha hn hdb he hpl).weaken fun σ H Q h => unA h

/-! #### arithmetic -/
def addD (x y : D) (m : Mem) : Option (D × Mem) :=
  match x, y with
  | .int i, .int j => some (.int (i + j), m)
  | .str a, .str b => if a.length + b.length ≤ sizeLine then some (.str (a ++ b), m) else none
  | .tup xs, .tup ys => if xs.length + ys.length ≤ sizeLine then some (.tup (xs ++ ys), m) else none
  | .ref i, .ref j => match m[i]?, m[j]? with
    | some (.lst xs), some (.lst ys) => if xs.length + ys.length ≤ sizeLine then some (.ref m.length, m ++ [.lst (xs ++ ys)]) else none
    | _, _ => none
  | _, _ => none
theorem RM.lst_at {α : List Addr} {H : Hp} {m : Mem} (rm : RM P α H m) {n : Nat} {a : Addr} {ds : List D} (h : m[n]? = some (.lst ds)) (ha : α[n]? = some a) : ∃ vs, H a = some (.lst vs) ∧ RDs P α H vs ds := rm.cell n _ a h ha
theorem op_addD (hK : P.K = X.K) : OpR X (binaryOp .Add) (rO P addD) := by
  intro pins s σ H x y v u Q I rx ry ⟨α, m, dx, dy, rm, r1, r2, h⟩
  unfold addD at h
  split at h
  · cases r1; cases r2
    exact op_add pins s σ H _ _ v u Q I rx ry ⟨_, _, rfl, rfl, h α H Ext.refl rm _ (.int _)⟩
  · cases r1; cases r2
    split at h
    · rename_i hz
      exact op_add_str pins s σ H _ _ v u Q I rx ry ⟨_, _, rfl, rfl, hz, h α H Ext.refl rm _ (.str _)⟩
    · exact False.elim h
  · cases r1 with
    | tup t1 q1 =>
      cases r2 with
      | tup t2 q2 =>
        split at h
        · rename_i hz
          rw [hK] at t1 t2
          refine op_catA pins s σ H _ _ v u Q I rx ry ⟨_, _, _, _, rfl, rfl, t1, t2, by rw [q1.length, q2.length]; exact hz, fun e => ?_, fun _ e => ?_, fun _ _ p hp => ?_⟩
          · subst e; cases q1
            exact h α H Ext.refl rm _ (.tup (by rw [hK]; exact t2) q2)
          · subst e; cases q2
            exact h α H Ext.refl rm _ (.tup (by rw [hK]; exact t1) (by rw [List.append_nil]; exact q1))
          · exact h α _ (Ext.side hp) (rm.side hp) _ (.newTup hp (q1.append q2))
        · exact False.elim h
  · cases r1 with
    | ref a1 =>
      cases r2 with
      | ref a2 =>
        split at h
        · rename_i xs ys h1 h2
          split at h
          · rename_i hz
            obtain ⟨vs, e1, q1⟩ := rm.lst_at h1 a1
            obtain ⟨ws, e2, q2⟩ := rm.lst_at h2 a2
            refine op_cat pins s σ H _ _ v u Q I rx ry ⟨_, _, _, _, rfl, rfl, e1, e2, by rw [q1.length, q2.length]; exact hz, fun p hp => ?_⟩
            exact h _ _ (Ext.new hp) (rm.new hp (.newLst hp (q1.append q2))) _ (.newRef rm)
          · exact False.elim h
        · exact False.elim h
  · exact False.elim h
def subD (x y : D) (m : Mem) : Option (D × Mem) :=
  match x, y with
  | .int i, .int j => some (.int (i - j), m)
  | _, _ => none
theorem op_subD : OpR X (binaryOp .Sub) (rO P subD) := by
  intro pins s σ H x y v u Q I rx ry ⟨α, m, dx, dy, rm, r1, r2, h⟩
  unfold subD at h
  split at h
  · cases r1; cases r2
    exact op_sub pins s σ H _ _ v u Q I rx ry ⟨_, _, rfl, rfl, h α H Ext.refl rm _ (.int _)⟩
  · exact False.elim h
/-- a product has room -/
def MulOk (i j : Int) : Prop := i.natAbs.log2 + j.natAbs.log2 < 1000000 ∨ CMul i j
open Classical in
noncomputable def mulD (x y : D) (m : Mem) : Option (D × Mem) :=
  match x, y with
  | .int i, .int j => if MulOk i j then some (.int (i * j), m) else none
  | .ref n, .int k => match m[n]? with
    | some (.lst xs) => if -(2 ^ 63) ≤ k ∧ k < 2 ^ 63 ∧ xs.length * k.toNat ≤ sizeLine then some (.ref m.length, m ++ [.lst (List.replicate k.toNat xs).flatten]) else none
    | _ => none
  | _, _ => none
theorem op_mulD : OpR X (binaryOp .Mult) (rO P mulD) := by
  intro pins s σ H x y v u Q I rx ry ⟨α, m, dx, dy, rm, r1, r2, h⟩
  unfold mulD at h
  split at h
  · cases r1; cases r2
    split at h
    · rename_i hz
      rcases hz with hz | hz
      · exact op_mulW pins s σ H _ _ v u Q I rx ry ⟨_, _, rfl, rfl, hz, h α H Ext.refl rm _ (.int _)⟩
      · exact op_mul pins s σ H _ _ v u Q I rx ry ⟨_, _, rfl, rfl, hz, h α H Ext.refl rm _ (.int _)⟩
    · exact False.elim h
  · cases r1 with
    | ref a1 =>
      cases r2
      split at h
      · rename_i xs h1
        split at h
        · rename_i hz
          obtain ⟨vs, e1, q1⟩ := rm.lst_at h1 a1
          refine op_rep pins s σ H _ _ v u Q I rx ry ⟨_, _, _, rfl, rfl, e1, hz.1, hz.2.1, by rw [q1.length]; exact hz.2.2, fun p hp => ?_⟩
          exact h _ _ (Ext.new hp) (rm.new hp (.newLst hp (q1.rep _))) _ (.newRef rm)
        · exact False.elim h
      · exact False.elim h
  · exact False.elim h
def divD (x y : D) (m : Mem) : Option (D × Mem) :=
  match x, y with
  | .int i, .int j => if 0 < j ∧ j.natAbs.log2 < 9000 then some (.int (i / j), m) else none
  | _, _ => none
theorem op_divD : OpR X (binaryOp .FloorDiv) (rO P divD) := by
  intro pins s σ H x y v u Q I rx ry ⟨α, m, dx, dy, rm, r1, r2, h⟩
  unfold divD at h
  split at h
  · cases r1; cases r2
    split at h
    · rename_i hz
      exact op_fdivW pins s σ H _ _ v u Q I rx ry ⟨_, _, rfl, rfl, hz, h α H Ext.refl rm _ (.int _)⟩
    · exact False.elim h
  · exact False.elim h
def modD (x y : D) (m : Mem) : Option (D × Mem) :=
  match x, y with
  | .int i, .int j => if 0 < j then some (.int (i % j), m) else none
  | _, _ => none
theorem op_modD : OpR X (binaryOp .Mod) (rO P modD) := by
  intro pins s σ H x y v u Q I rx ry ⟨α, m, dx, dy, rm, r1, r2, h⟩
  unfold modD at h
  split at h
  · cases r1; cases r2
    split at h
    · rename_i hz
      exact op_mod pins s σ H _ _ v u Q I rx ry ⟨_, _, rfl, rfl, hz, h α H Ext.refl rm _ (.int _)⟩
    · exact False.elim h
  · exact False.elim h
def negD (x : D) (m : Mem) : Option (D × Mem) :=
  match x with
  | .int i => some (.int (-i), m)
  | _ => none
theorem un_negD : UnR X (unaryOp .USub) (rU1 P negD) := by
  intro pins s σ H x v Q I rx ⟨α, m, dx, rm, r1, h⟩
  unfold negD at h
  split at h
  · cases r1
    exact un_neg pins s σ H _ v Q I rx ⟨_, rfl, h α H Ext.refl rm _ (.int _)⟩
  · exact False.elim h

/-! #### order -/
def ordD (p : Int → Int → Bool) (x y : D) (m : Mem) : Option (D × Mem) :=
  match x, y with
  | .int i, .int j => some (.bl (p i j), m)
  | _, _ => none
theorem ordD_of {op : CmpOp} {p : Int → Int → Bool} (h0 : OpR X (compareOp op) (rI0 fun i j => .bl (p i j))) : OpR X (compareOp op) (rO P (ordD p)) := by
  intro pins s σ H x y v u Q I rx ry ⟨α, m, dx, dy, rm, r1, r2, h⟩
  unfold ordD at h
  split at h
  · cases r1; cases r2
    exact h0 pins s σ H _ _ v u Q I rx ry ⟨_, _, rfl, rfl, h α H Ext.refl rm _ (.bl _)⟩
  · exact False.elim h
abbrev ltD := ordD fun i j => decide (i < j)
abbrev leD := ordD fun i j => decide (i ≤ j)
abbrev gtD := ordD fun i j => decide (j < i)
abbrev geD := ordD fun i j => decide (j ≤ i)
theorem op_ltD : OpR X (compareOp .Lt) (rO P ltD) := ordD_of op_lt
theorem op_leD : OpR X (compareOp .LtE) (rO P leD) := ordD_of op_le
theorem op_gtD : OpR X (compareOp .Gt) (rO P gtD) := ordD_of op_gt
theorem op_geD : OpR X (compareOp .GtE) (rO P geD) := ordD_of op_ge
end
/-! #### equality: what is told by data without dicts -/
def toP : Nat → Mem → D → Option PyData
  | 0, _, _ => none
  | k + 1, m, d => match d with
    | .non => some .none
    | .bl b => some (.bool b)
    | .int i => some (.int i)
    | .str x => some (.str x)
    | .tup xs => (xs.mapM (toP k m)).map .tuple
    | .fl _ => none
    | .ref n => match m[n]? with
      | some (.lst xs) => (xs.mapM (toP k m)).map .list
      | _ => none
section
variable {P : Pm} {α : List Addr} {H : Hp} {m : Mem}
theorem dpAll_of {f : D → Option PyData} (hf : ∀ v d p, RD P α H v d → f d = some p → Dp P.K H v p) : ∀ {vs : List V} {ds : List D} {ps : List PyData}, RDs P α H vs ds → ds.mapM f = some ps → DpAll P.K H vs ps
  | _, _, ps, .nil, h => by simp at h; subst h; exact .nil
  | _, _, ps, .cons r rs, h => by
    rw [List.mapM_cons] at h
    simp only [Option.bind_eq_bind, Option.bind_eq_some_iff, Option.pure_def, Option.some.injEq] at h
    obtain ⟨p, h1, ps', h2, rfl⟩ := h
    exact .cons (hf _ _ _ r h1) (dpAll_of hf rs h2)
theorem dp_of (rm : RM P α H m) : ∀ (k : Nat) (v : V) (d : D) (p : PyData), RD P α H v d → toP k m d = some p → Dp P.K H v p
  | 0, _, _, _, _, h => by cases h
  | k + 1, v, d, p, r, h => by
    unfold toP at h
    cases r with
    | non => cases h; exact .non
    | bl b => cases h; exact .bl b
    | int i => cases h; exact .int i
    | str x => cases h; exact .str x
    | tup t rs =>
      simp only [Option.map_eq_some_iff] at h
      obtain ⟨ps, h1, rfl⟩ := h
      exact .tup t (dpAll_of (dp_of rm k) rs h1)
    | fl t rs => cases h
    | ref ha =>
      dsimp only at h
      split at h
      · rename_i xs h1
        simp only [Option.map_eq_some_iff] at h
        obtain ⟨ps, h2, rfl⟩ := h
        obtain ⟨vs, e, rs⟩ := rm.cell _ _ _ h1 ha
        exact .lst (SqL.of e) (dpAll_of (dp_of rm k) rs h2)
      · cases h
end
def eqvD (m : Mem) (x y : D) : Option Bool :=
  match x, y with
  | .str a, .str b => some (decide (a = b))
  | _, _ => match toP 66 m x, toP 66 m y with
    | some p, some q => if SeqAt.shaped p = true ∧ SeqAt.shaped q = true then some (PyData.eqv p q) else none
    | _, _ => none
def eqD (x y : D) (m : Mem) : Option (D × Mem) := (eqvD m x y).map fun b => (.bl b, m)
def neD (x y : D) (m : Mem) : Option (D × Mem) := (eqvD m x y).map fun b => (.bl (!b), m)
section
variable {X : Cx} {P : Pm}
theorem op_eqDD (hK : P.K = X.K) (hu : X.A.units + 64 < cLine) : OpR X (compareOp .Eq) (rO P eqD) := by
  intro pins s σ H x y v u Q I rx ry ⟨α, m, dx, dy, rm, r1, r2, h⟩
  unfold eqD eqvD at h
  split at h
  · cases r1; cases r2
    refine op_eq pins s σ H _ _ v u Q I rx ry ⟨rfl, ?_⟩
    have q := h α H Ext.refl rm _ (.bl _)
    have e : ∀ a b : Str, decide (V.str a = V.str b) = decide (a = b) := fun a b => by rw [dec_str]; first | rfl | (by_cases z : a = b <;> simp [z])
    rw [e]; exact q
  · split at h
    · rename_i p q h1 h2
      split at h
      · rename_i hs
        refine op_eqD hu pins s σ H _ _ v u Q I rx ry ⟨p, q, ?_, ?_, hs.1, hs.2, h α H Ext.refl rm _ (.bl _)⟩
        · rw [← hK]; exact dp_of rm _ _ _ _ r1 h1
        · rw [← hK]; exact dp_of rm _ _ _ _ r2 h2
      · exact False.elim h
    · exact False.elim h
theorem op_neDD (hK : P.K = X.K) (hu : X.A.units + 64 < cLine) : OpR X (compareOp .NotEq) (rO P neD) := by
  intro pins s σ H x y v u Q I rx ry ⟨α, m, dx, dy, rm, r1, r2, h⟩
  unfold neD eqvD at h
  split at h
  · cases r1; cases r2
    refine op_ne pins s σ H _ _ v u Q I rx ry ⟨rfl, ?_⟩
    have q := h α H Ext.refl rm _ (.bl _)
    have e : ∀ a b : Str, decide (V.str a = V.str b) = decide (a = b) := fun a b => by rw [dec_str]; first | rfl | (by_cases z : a = b <;> simp [z])
    rw [e]; exact q
  · split at h
    · rename_i p q h1 h2
      split at h
      · rename_i hs
        refine op_neD hu pins s σ H _ _ v u Q I rx ry ⟨p, q, ?_, ?_, hs.1, hs.2, h α H Ext.refl rm _ (.bl _)⟩
        · rw [← hK]; exact dp_of rm _ _ _ _ r1 h1
        · rw [← hK]; exact dp_of rm _ _ _ _ r2 h2
      · exact False.elim h
    · exact False.elim h
end
/-! #### is -/
def isD (x y : D) : Option Bool :=
  match y with
  | .non => some (match x with | .non => true | _ => false)
  | .bl b => some (match x with | .bl a => decide (a = b) | _ => false)
  | _ => none
def isVD (x y : D) (m : Mem) : Option (D × Mem) := (isD x y).map fun b => (.bl b, m)
def isntVD (x y : D) (m : Mem) : Option (D × Mem) := (isD x y).map fun b => (.bl (!b), m)
section
variable {X : Cx} {P : Pm}
theorem is_odd {M : Model} {A : Around} {E : Value → Shared → Prop} {x : V} {v : Value} {b : Bool} {s : Shared} {Q : Bool → Shared → Prop} (r : RelV x v) (hx : x = .non ∨ (∃ i, x = .int i) ∨ (∃ z, x = .str z) ∨ ∃ a, x = .ref a) (h : Q false s) : wpAny M A (isSame v (.bool b)) Q E s := by
  rcases hx with rfl | ⟨i, rfl⟩ | ⟨z, rfl⟩ | ⟨a, rfl⟩
  · cases r; exact wpAny_pure h
  · obtain ⟨t, rfl⟩ := r; exact wpAny_pure h
  · obtain ⟨t, rfl⟩ := r; exact wpAny_pure h
  · cases r; exact wpAny_pure h
theorem op_isDD : OpR X (compareOp .Is) (rO P isVD) := by
  intro pins s σ H x y v u Q I rx ry ⟨α, m, dx, dy, rm, r1, r2, h⟩
  unfold isVD isD at h
  split at h
  · cases r2
    refine op_isN pins s σ H _ _ v u Q I rx ry ⟨rfl, ?_⟩
    have q := h α H Ext.refl rm _ (.bl _)
    cases r1 <;> exact q
  · cases r2
    cases r1 with
    | bl a => exact op_is_bl pins s σ H _ _ v u Q I rx ry ⟨_, _, rfl, rfl, h α H Ext.refl rm _ (.bl _)⟩
    | non => cases (show u = Value.bool _ from ry); exact wpAny_bind (is_odd rx (.inl rfl) (wpAny_pure ⟨.bl false, H, I, rfl, h α H Ext.refl rm _ (.bl _)⟩))
    | int i => cases (show u = Value.bool _ from ry); exact wpAny_bind (is_odd rx (.inr (.inl ⟨_, rfl⟩)) (wpAny_pure ⟨.bl false, H, I, rfl, h α H Ext.refl rm _ (.bl _)⟩))
    | str z => cases (show u = Value.bool _ from ry); exact wpAny_bind (is_odd rx (.inr (.inr (.inl ⟨_, rfl⟩))) (wpAny_pure ⟨.bl false, H, I, rfl, h α H Ext.refl rm _ (.bl _)⟩))
    | tup t rs => cases (show u = Value.bool _ from ry); exact wpAny_bind (is_odd rx (.inr (.inr (.inr ⟨_, rfl⟩))) (wpAny_pure ⟨.bl false, H, I, rfl, h α H Ext.refl rm _ (.bl _)⟩))
    | fl t rs => cases (show u = Value.bool _ from ry); exact wpAny_bind (is_odd rx (.inr (.inr (.inr ⟨_, rfl⟩))) (wpAny_pure ⟨.bl false, H, I, rfl, h α H Ext.refl rm _ (.bl _)⟩))
    | ref z => cases (show u = Value.bool _ from ry); exact wpAny_bind (is_odd rx (.inr (.inr (.inr ⟨_, rfl⟩))) (wpAny_pure ⟨.bl false, H, I, rfl, h α H Ext.refl rm _ (.bl _)⟩))
  · exact False.elim h
theorem op_isntDD : OpR X (compareOp .IsNot) (rO P isntVD) := by
  intro pins s σ H x y v u Q I rx ry ⟨α, m, dx, dy, rm, r1, r2, h⟩
  unfold isntVD isD at h
  split at h
  · cases r2
    refine op_notN pins s σ H _ _ v u Q I rx ry ⟨rfl, ?_⟩
    have q := h α H Ext.refl rm _ (.bl _)
    cases r1 <;> exact q
  · cases r2
    cases r1 with
    | bl a => exact op_isnot_bl pins s σ H _ _ v u Q I rx ry ⟨_, _, rfl, rfl, h α H Ext.refl rm _ (.bl _)⟩
    | non => cases (show u = Value.bool _ from ry); exact wpAny_bind (is_odd rx (.inl rfl) (wpAny_pure ⟨.bl true, H, I, rfl, h α H Ext.refl rm _ (.bl _)⟩))
    | int i => cases (show u = Value.bool _ from ry); exact wpAny_bind (is_odd rx (.inr (.inl ⟨_, rfl⟩)) (wpAny_pure ⟨.bl true, H, I, rfl, h α H Ext.refl rm _ (.bl _)⟩))
    | str z => cases (show u = Value.bool _ from ry); exact wpAny_bind (is_odd rx (.inr (.inr (.inl ⟨_, rfl⟩))) (wpAny_pure ⟨.bl true, H, I, rfl, h α H Ext.refl rm _ (.bl _)⟩))
    | tup t rs => cases (show u = Value.bool _ from ry); exact wpAny_bind (is_odd rx (.inr (.inr (.inr ⟨_, rfl⟩))) (wpAny_pure ⟨.bl true, H, I, rfl, h α H Ext.refl rm _ (.bl _)⟩))
    | fl t rs => cases (show u = Value.bool _ from ry); exact wpAny_bind (is_odd rx (.inr (.inr (.inr ⟨_, rfl⟩))) (wpAny_pure ⟨.bl true, H, I, rfl, h α H Ext.refl rm _ (.bl _)⟩))
    | ref z => cases (show u = Value.bool _ from ry); exact wpAny_bind (is_odd rx (.inr (.inr (.inr ⟨_, rfl⟩))) (wpAny_pure ⟨.bl true, H, I, rfl, h α H Ext.refl rm _ (.bl _)⟩))
  · exact False.elim h
end
end Dw

namespace Dw
open PySem PySem.Spec PyProof.Rows L2

section
variable {P : Pm} {α : List Addr} {H : Hp} {m : Mem}
/-- what a cell's list is -/
def lstOf (m : Mem) (n : Nat) : Option (List D) := match m[n]? with
  | some (.lst xs) => some xs
  | _ => none
theorem RM.sql (rm : RM P α H m) {n : Nat} {a : Addr} {xs : List D} (h : lstOf m n = some xs) (ha : α[n]? = some a) : ∃ vs, SqL P.K H a vs ∧ RDs P α H vs xs := by
  unfold lstOf at h
  split at h
  · rename_i h1
    cases h
    obtain ⟨vs, e, r⟩ := rm.cell _ _ _ h1 ha
    exact ⟨vs, SqL.of e, r⟩
  · cases h
theorem RDs.atI {vs : List V} {ds : List D} (r : RDs P α H vs ds) {i : Int} {d : D} (h : L2.atI ds i = some d) : ∃ v, L2.atI vs i = some v ∧ RD P α H v d := by
  unfold L2.atI at h ⊢
  rw [r.length]
  cases e : ixN ds.length i with
  | none => rw [e] at h; cases h
  | some j =>
    rw [e] at h
    exact r.get h
end
/-! #### items, slices -/
def ixD (x y : D) (m : Mem) : Option (D × Mem) :=
  match x, y with
  | .tup xs, .int i => (L2.atI xs i).map fun d => (d, m)
  | .fl xs, .int i => (L2.atI xs i).map fun d => (d, m)
  | .ref n, .int i => (lstOf m n).bind fun xs => (L2.atI xs i).map fun d => (d, m)
  | .str z, .int i => if z.length ≤ sizeLine then (L2.atI z.cps.toList i).map fun c => (.str ⟨#[c]⟩, m) else none
  | _, _ => none
section
variable {X : Cx} {P : Pm} {W : WX} {e a b c : Expr} {es : List Expr} {pos : Pos} {ga gb gc g : G} {ta : GA}
theorem ix_D (hK : P.K = X.K) : IxR X (rO P ixD) := by
  intro value slice pins s σ H x y v u Q I rx ry ⟨α, m, dx, dy, rm, r1, r2, h⟩ hs
  unfold ixD at h
  split at h
  · rename_i xs i
    cases r2
    cases r1 with
    | tup t rs =>
      cases e : L2.atI xs i with
      | none => rw [e] at h; exact False.elim h
      | some d =>
        rw [e] at h
        obtain ⟨v', h1, h2⟩ := rs.atI e
        exact ix_tup value slice pins s σ H _ _ v u Q I rx ry ⟨_, _, _, _, rfl, rfl, by rw [← hK]; exact t, h1, h α H Ext.refl rm _ h2⟩ hs
  · rename_i xs i
    cases r2
    cases r1 with
    | fl t rs =>
      cases e : L2.atI xs i with
      | none => rw [e] at h; exact False.elim h
      | some d =>
        rw [e] at h
        obtain ⟨v', h1, h2⟩ := rs.atI e
        exact ix_list value slice pins s σ H _ _ v u Q I rx ry ⟨_, _, _, _, rfl, rfl, by rw [← hK]; exact t.sql, h1, h α H Ext.refl rm _ h2⟩ hs
  · rename_i n i
    cases r2
    cases r1 with
    | ref ha =>
      cases e0 : lstOf m n with
      | none => rw [e0] at h; exact False.elim h
      | some xs =>
        rw [e0, Option.bind_some] at h
        cases e : L2.atI xs i with
        | none => rw [e] at h; exact False.elim h
        | some d =>
          rw [e] at h
          obtain ⟨vs, q, rs⟩ := rm.sql e0 ha
          obtain ⟨v', h1, h2⟩ := rs.atI e
          exact ix_list value slice pins s σ H _ _ v u Q I rx ry ⟨_, _, _, _, rfl, rfl, by rw [← hK]; exact q, h1, h α H Ext.refl rm _ h2⟩ hs
  · rename_i z i
    cases r2
    cases r1
    split at h
    · rename_i hz
      cases e : L2.atI z.cps.toList i with
      | none => rw [e] at h; exact False.elim h
      | some d =>
        rw [e] at h
        exact ix_str value slice pins s σ H _ _ v u Q I rx ry ⟨_, _, _, rfl, rfl, hz, e, h α H Ext.refl rm _ (.str _)⟩ hs
    · exact False.elim h
  · exact False.elim h
def cutD (xs : List D) (lo hi : Option Int) : List D := (xs.drop (HT.sIx xs.length 0 lo)).take (HT.sIx xs.length xs.length hi - HT.sIx xs.length 0 lo)
theorem RDs.cut {α : List Addr} {H : Hp} {vs : List V} {ds : List D} (r : RDs P α H vs ds) (lo hi : Option Int) : RDs P α H (cutV vs lo hi) (cutD ds lo hi) := by
  unfold cutV cutD
  rw [r.length]
  exact (r.drop _).take _
def slD (x : D) (lo hi : Option Int) (m : Mem) : Option (D × Mem) :=
  match x with
  | .tup xs => some (.tup (cutD xs lo hi), m)
  | .ref n => (lstOf m n).map fun xs => (.ref m.length, m ++ [.lst (cutD xs lo hi)])
  | .str z => if z.length ≤ sizeLine then some (.str (cutS z lo hi), m) else none
  | _ => none
def rSl (P : Pm) : V → Option Int → Option Int → Hp → VK → Prop := fun x lo hi H Q => ∃ α m dx, RM P α H m ∧ RD P α H x dx ∧ PostO P α H (slD dx lo hi m) (wV P Q)
theorem cutV_whole (xs : List V) (lo hi : Option Int) (h : HT.sIx xs.length 0 lo = 0 ∧ HT.sIx xs.length xs.length hi = xs.length) : cutV xs lo hi = xs := by
  unfold cutV
  rw [h.1, h.2, List.drop_zero, Nat.sub_zero, List.take_length]
theorem sl_D (hK : P.K = X.K) : SlR X (rSl P) := by
  intro pins s σ H x v vl vu lo hi sl Q I rx hs pl pu ⟨α, m, dx, rm, r1, h⟩
  unfold slD at h
  split at h
  · cases r1 with
    | tup t rs =>
      refine sl_tupA pins s σ H _ v vl vu lo hi sl Q I rx hs pl pu ⟨_, _, rfl, by rw [← hK]; exact t, fun hw => ?_, fun _ p hp => ?_⟩
      · have q := rs.cut lo hi
        rw [cutV_whole _ _ _ hw] at q
        exact h α H Ext.refl rm _ (.tup t q)
      · exact h α _ (Ext.side hp) (rm.side hp) _ (.newTup hp (rs.cut lo hi))
  · rename_i n
    cases r1 with
    | ref ha =>
      cases e0 : lstOf m n with
      | none => rw [e0] at h; exact False.elim h
      | some xs =>
        rw [e0] at h
        obtain ⟨vs, q, rs⟩ := rm.sql e0 ha
        refine sl_list pins s σ H _ v vl vu lo hi sl Q I rx hs pl pu ⟨_, _, rfl, by rw [← hK]; exact q, fun p hp => ?_⟩
        exact h _ _ (Ext.new hp) (rm.new hp (.newLst hp (rs.cut lo hi))) _ (.newRef rm)
  · cases r1
    split at h
    · rename_i hz
      exact sl_str pins s σ H _ v vl vu lo hi sl Q I rx hs pl pu ⟨_, rfl, hz, h α H Ext.refl rm _ (.str _)⟩
    · exact False.elim h
  · exact False.elim h
/-- a bound of a slice -/
abbrev GO := Env → Mem → R (Option Int)
def oNone : GO := fun _ m => .ok none m
def oSome (g : G) : GO := fun ρ m => (g ρ m).bind fun d m => match d with
  | .int i => .ok (some i) m
  | _ => .bad
def tOD (P : Pm) (W : WX) (g : GO) : TO := fun σ H Q => ∃ α ρ m, RM P α H m ∧ RE P α H ρ σ ∧ Post P W σ α H (g ρ m) fun _ H' o _ => Q o H'
theorem do_none : PO X none (tOD P W oNone) := by
  have h := po_none (X := X)
  exact ⟨fun pins s σ H Q I ⟨α, ρ, m, rm, re, q⟩ => h.run pins s σ H Q I (q α H Ext.refl rm)⟩
theorem do_some (he : PE X e (tE P W g)) : PO X (some e) (tOD P W (oSome g)) := by
  have h := po_some he
  refine ⟨fun pins s σ H Q I ⟨α, ρ, m, rm, re, q⟩ => h.run pins s σ H Q I ?_⟩
  refine tE_bind rm re q fun α1 H1 d m1 e1 r1 p1 v rv => ?_
  cases rv with
  | int i => exact ⟨i, rfl, p1 α1 H1 Ext.refl r1⟩
  | _ => exact False.elim p1
def eSl (g : G) (lo hi : GO) : G := fun ρ m => (g ρ m).bind fun x m => (lo ρ m).bind fun l m => (hi ρ m).bind fun h m => R.of (slD x l h m)
theorem tO_bind {β : Type} {go : GO} {k : Option Int → Mem → R β} {Θ : List Addr → Hp → β → Mem → Prop} {σ : L2.St} {H : Hp} {α : List Addr} {ρ : Env} {m : Mem} (rm : RM P α H m) (re : RE P α H ρ σ)
    (h : Post P W σ α H ((go ρ m).bind k) Θ) {Q : Option Int → Hp → Prop} (q : ∀ α' H' b m', Ext P α H α' H' → RM P α' H' m' → Post P W σ α' H' (k b m') Θ → Q b H') : tOD P W go σ H Q :=
  ⟨α, ρ, m, rm, re, h.bind.mono fun α' H' d m' e r p => q α' H' d m' e r p⟩
theorem de_sl {lo hi : Option Expr} {gl gh : GO} {p2 : Pos} (hK : P.K = X.K) (he : PE X e (tE P W g)) (hl : PO X lo (tOD P W gl)) (hu : PO X hi (tOD P W gh)) : PE X (.Subscript e (.Slice lo hi none p2) pos) (tE P W (eSl g gl gh)) :=
  (pe_slice (sl_D hK) he hl hu).weaken fun σ H Q ⟨α, ρ, m, rm, re, h⟩ => by
    refine tE_bind rm re h fun α1 H1 d1 m1 e1 r1 p1 v1 rv1 => ?_
    refine tO_bind r1 (re.mono e1) p1 fun α2 H2 l m2 e2 r2 p2 => ?_
    refine tO_bind r2 ((re.mono e1).mono e2) p2 fun α3 H3 u m3 e3 r3 p3 => ?_
    exact ⟨α3, m3, d1, r3, (rv1.mono e2).mono e3, p3.of⟩
/-! #### in -/
def flV : D → Option V
  | .non => some .non
  | .bl b => some (.bl b)
  | .int i => some (.int i)
  | .str x => some (.str x)
  | _ => none
theorem flV_rel {α : List Addr} {H : Hp} {v w : V} {d : D} (r : RD P α H v d) (h : flV d = some w) : v = w ∧ flatV v = true := by
  cases r <;> cases h <;> exact ⟨rfl, rfl⟩
theorem flVs_rel {α : List Addr} {H : Hp} : ∀ {vs ws : List V} {ds : List D}, RDs P α H vs ds → ds.mapM flV = some ws → vs = ws ∧ vs.all flatV = true
  | _, ws, _, .nil, h => by simp at h; subst h; exact ⟨rfl, rfl⟩
  | _, ws, _, .cons r rs, h => by
    rw [List.mapM_cons] at h
    simp only [Option.bind_eq_bind, Option.bind_eq_some_iff, Option.pure_def, Option.some.injEq] at h
    obtain ⟨p, h1, ps', h2, rfl⟩ := h
    obtain ⟨rfl, f1⟩ := flV_rel r h1
    obtain ⟨rfl, f2⟩ := flVs_rel rs h2
    exact ⟨rfl, by rw [List.all_cons, f1, f2]; rfl⟩
def inD (m : Mem) (x y : D) : Option Bool :=
  match y with
  | .str z => match x with
    | .str ⟨⟨[c]⟩⟩ => some (decide (c ∈ z.cps.toList))
    | _ => none
  | .tup ys => match flV x, ys.mapM flV with
    | some w, some ws => some (inV w ws)
    | _, _ => none
  | .ref n => match toP 66 m x, toP 66 m (.ref n) with
    | some p, some (.list ps) => if SeqAt.shaped p = true ∧ SeqAt.shaped (.list ps) = true then some (ps.any fun z => PyData.eqv z p) else none
    | _, _ => none
  | _ => none
def inVD (x y : D) (m : Mem) : Option (D × Mem) := (inD m x y).map fun b => (.bl b, m)
def notInVD (x y : D) (m : Mem) : Option (D × Mem) := (inD m x y).map fun b => (.bl (!b), m)
theorem op_inDD (hK : P.K = X.K) (hu : X.A.units + 65 < cLine) : OpR X (compareOp .In) (rO P inVD) := by
  intro pins s σ H x y v u Q I rx ry ⟨α, m, dx, dy, rm, r1, r2, h⟩
  unfold inVD inD at h
  split at h
  · cases r2
    split at h
    · rename_i z _ c
      cases r1
      exact op_in_sign pins s σ H _ _ v u Q I rx ry ⟨c, z, rfl, rfl, h α H Ext.refl rm _ (.bl _)⟩
    · exact False.elim h
  · cases r2 with
    | tup t rs =>
      split at h
      · rename_i w ws h1 h2
        obtain ⟨rfl, f1⟩ := flV_rel r1 h1
        obtain ⟨rfl, f2⟩ := flVs_rel rs h2
        exact op_in_seq pins s σ H _ _ v u Q I rx ry ⟨_, _, rfl, .inr (by rw [← hK]; exact t), f1, f2, h α H Ext.refl rm _ (.bl _)⟩
      · exact False.elim h
  · split at h
    · rename_i p ps h1 h2
      split at h
      · rename_i hs
        refine op_inD hu pins s σ H _ _ v u Q I rx ry ⟨p, ps, ?_, ?_, hs.1, hs.2, h α H Ext.refl rm _ (.bl _)⟩
        · rw [← hK]; exact dp_of rm _ _ _ _ r1 h1
        · rw [← hK]; exact dp_of rm _ _ _ _ r2 h2
      · exact False.elim h
    · exact False.elim h
  · exact False.elim h
theorem op_notInDD (hK : P.K = X.K) (hu : X.A.units + 65 < cLine) : OpR X (compareOp .NotIn) (rO P notInVD) := by
  intro pins s σ H x y v u Q I rx ry ⟨α, m, dx, dy, rm, r1, r2, h⟩
  unfold notInVD inD at h
  split at h
  · cases r2
    split at h
    · rename_i z _ c
      cases r1
      exact op_notIn_sign pins s σ H _ _ v u Q I rx ry ⟨c, z, rfl, rfl, h α H Ext.refl rm _ (.bl _)⟩
    · exact False.elim h
  · cases r2 with
    | tup t rs =>
      split at h
      · rename_i w ws h1 h2
        obtain ⟨rfl, f1⟩ := flV_rel r1 h1
        obtain ⟨rfl, f2⟩ := flVs_rel rs h2
        exact op_notIn_seq pins s σ H _ _ v u Q I rx ry ⟨_, _, rfl, .inr (by rw [← hK]; exact t), f1, f2, h α H Ext.refl rm _ (.bl _)⟩
      · exact False.elim h
  · split at h
    · rename_i p ps h1 h2
      split at h
      · rename_i hs
        refine op_notInD hu pins s σ H _ _ v u Q I rx ry ⟨p, ps, ?_, ?_, hs.1, hs.2, h α H Ext.refl rm _ (.bl _)⟩
        · rw [← hK]; exact dp_of rm _ _ _ _ r1 h1
        · rw [← hK]; exact dp_of rm _ _ _ _ r2 h2
      · exact False.elim h
    · exact False.elim h
  · exact False.elim h
/-! #### built-in calls -/
def lenD (ds : List D) (m : Mem) : Option (D × Mem) :=
  match ds with
  | [.str z] => if z.length ≤ sizeLine then some (.int z.length, m) else none
  | [.tup xs] => some (.int xs.length, m)
  | [.fl xs] => some (.int xs.length, m)
  | [.ref n] => (lstOf m n).map fun xs => (.int xs.length, m)
  | _ => none
theorem bi_len (hK : P.K = X.K) : CallR X (.builtin "len") (rB P lenD) := by
  intro pins s σ H xs us Q I r ⟨α, m, ds, rm, rs, h⟩
  unfold lenD at h
  split at h
  · cases rs with
    | cons r1 rs =>
      cases rs; cases r1
      split at h
      · rename_i hz
        exact call_len pins s σ H _ us Q I r ⟨_, _, rfl, ⟨hz, rfl⟩, h α H Ext.refl rm _ (.int _)⟩
      · exact False.elim h
  · cases rs with
    | cons r1 rs =>
      cases rs
      cases r1 with
      | tup t q =>
        exact call_len pins s σ H _ us Q I r ⟨_, _, rfl, .inr ⟨_, by rw [← hK]; exact t, q.length.symm⟩, h α H Ext.refl rm _ (.int _)⟩
  · cases rs with
    | cons r1 rs =>
      cases rs
      cases r1 with
      | fl t q =>
        exact call_len pins s σ H _ us Q I r ⟨_, _, rfl, .inl ⟨_, by rw [← hK]; exact t.sql, q.length.symm⟩, h α H Ext.refl rm _ (.int _)⟩
  · rename_i n
    cases rs with
    | cons r1 rs =>
      cases rs
      cases r1 with
      | ref ha =>
        cases e0 : lstOf m n with
        | none => rw [e0] at h; exact False.elim h
        | some xs =>
          rw [e0] at h
          obtain ⟨vs, q, rs⟩ := rm.sql e0 ha
          exact call_len pins s σ H _ us Q I r ⟨_, _, rfl, .inl ⟨_, by rw [← hK]; exact q, rs.length.symm⟩, h α H Ext.refl rm _ (.int _)⟩
  · exact False.elim h
def intD (ds : List D) (m : Mem) : Option (D × Mem) :=
  match ds with
  | [.int i] => some (.int i, m)
  | [.bl b] => some (.int (if b then 1 else 0), m)
  | [.str z] => if z.length ≤ 640 then (PySem.intText? z).map fun n => (.int n, m) else none
  | _ => none
theorem ty_int : CallR X (.type "int") (rB P intD) := by
  intro pins s σ H xs us Q I r ⟨α, m, ds, rm, rs, h⟩
  unfold intD at h
  split at h
  · cases rs with
    | cons r1 rs => cases rs; cases r1; exact call_int1 pins s σ H _ us Q I r (.inl ⟨_, rfl, h α H Ext.refl rm _ (.int _)⟩)
  · cases rs with
    | cons r1 rs => cases rs; cases r1; exact call_int1 pins s σ H _ us Q I r (.inr ⟨_, rfl, h α H Ext.refl rm _ (.int _)⟩)
  · rename_i z
    cases rs with
    | cons r1 rs =>
      cases rs; cases r1
      split at h
      · rename_i hz
        cases e : PySem.intText? z with
        | none => rw [e] at h; exact False.elim h
        | some n =>
          rw [e] at h
          exact call_int_str pins s σ H _ us Q I r ⟨_, _, rfl, e, hz, h α H Ext.refl rm _ (.int _)⟩
      · exact False.elim h
  · exact False.elim h
def strD (ds : List D) (m : Mem) : Option (D × Mem) :=
  match ds with
  | [.int i] => if i.natAbs.log2 < 1920 then some (.str (toString i), m) else none
  | _ => none
theorem ty_str : CallR X (.type "str") (rB P strD) := by
  intro pins s σ H xs us Q I r ⟨α, m, ds, rm, rs, h⟩
  unfold strD at h
  split at h
  · cases rs with
    | cons r1 rs =>
      cases rs; cases r1
      split at h
      · rename_i hz
        exact call_str_int pins s σ H _ us Q I r ⟨_, rfl, hz, h α H Ext.refl rm _ (.str _)⟩
      · exact False.elim h
  · exact False.elim h
def gcdD (ds : List D) (m : Mem) : Option (D × Mem) :=
  match ds with
  | [.int i, .int j] => some (.int ((Nat.gcd i.natAbs j.natAbs : Nat) : Int), m)
  | _ => none
theorem bi_gcd : CallR X (.builtin "math.gcd") (rB P gcdD) := by
  intro pins s σ H xs us Q I r ⟨α, m, ds, rm, rs, h⟩
  unfold gcdD at h
  split at h
  · cases rs with
    | cons r1 rs => cases rs with
      | cons r2 rs => cases rs; cases r1; cases r2; exact cr_gcd pins s σ H _ us Q I r ⟨_, _, rfl, h α H Ext.refl rm _ (.int _)⟩
  · exact False.elim h
def blV : D → Option Bool
  | .bl b => some b
  | _ => none
theorem blVs_rel {α : List Addr} {H : Hp} : ∀ {vs : List V} {ds : List D} {bs : List Bool}, RDs P α H vs ds → ds.mapM blV = some bs → vs = bs.map V.bl
  | _, _, bs, .nil, h => by simp at h; subst h; rfl
  | _, _, bs, .cons r rs, h => by
    rw [List.mapM_cons] at h
    simp only [Option.bind_eq_bind, Option.bind_eq_some_iff, Option.pure_def, Option.some.injEq] at h
    obtain ⟨p, h1, ps', h2, rfl⟩ := h
    cases r <;> cases h1
    rw [blVs_rel rs h2]; rfl
def allD (ds : List D) (m : Mem) : Option (D × Mem) :=
  match ds with
  | [.ref n] => (lstOf m n).bind fun xs => (xs.mapM blV).map fun bs => (.bl (bs.all id), m)
  | _ => none
def anyD (ds : List D) (m : Mem) : Option (D × Mem) :=
  match ds with
  | [.ref n] => (lstOf m n).bind fun xs => (xs.mapM blV).map fun bs => (.bl (bs.any id), m)
  | _ => none
theorem bi_all (hK : P.K = X.K) (hc : X.calm = true) : CallR X (.builtin "all") (rB P allD) := by
  intro pins s σ H xs us Q I r ⟨α, m, ds, rm, rs, h⟩
  unfold allD at h
  split at h
  · rename_i n
    cases rs with
    | cons r1 rs =>
      cases rs
      cases r1 with
      | ref ha =>
        cases e0 : lstOf m n with
        | none => rw [e0] at h; exact False.elim h
        | some ys =>
          rw [e0, Option.bind_some] at h
          cases e1 : ys.mapM blV with
          | none => rw [e1] at h; exact False.elim h
          | some bs =>
            rw [e1] at h
            obtain ⟨vs, q, rs⟩ := rm.sql e0 ha
            rw [blVs_rel rs e1, hK] at q
            exact cr_all hc pins s σ H _ us Q I r ⟨_, _, rfl, q, h α H Ext.refl rm _ (.bl _)⟩
  · exact False.elim h
theorem bi_any (hK : P.K = X.K) (hc : X.calm = true) : CallR X (.builtin "any") (rB P anyD) := by
  intro pins s σ H xs us Q I r ⟨α, m, ds, rm, rs, h⟩
  unfold anyD at h
  split at h
  · rename_i n
    cases rs with
    | cons r1 rs =>
      cases rs
      cases r1 with
      | ref ha =>
        cases e0 : lstOf m n with
        | none => rw [e0] at h; exact False.elim h
        | some ys =>
          rw [e0, Option.bind_some] at h
          cases e1 : ys.mapM blV with
          | none => rw [e1] at h; exact False.elim h
          | some bs =>
            rw [e1] at h
            obtain ⟨vs, q, rs⟩ := rm.sql e0 ha
            rw [blVs_rel rs e1, hK] at q
            exact cr_any hc pins s σ H _ us Q I r ⟨_, _, rfl, q, h α H Ext.refl rm _ (.bl _)⟩
  · exact False.elim h
def tupleD (ds : List D) (m : Mem) : Option (D × Mem) :=
  match ds with
  | [.ref n] => (lstOf m n).map fun xs => (.tup xs, m)
  | [.tup xs] => some (.tup xs, m)
  | _ => none
theorem ty_tuple (hK : P.K = X.K) : CallR X (.type "tuple") (rB P tupleD) := by
  intro pins s σ H xs us Q I r ⟨α, m, ds, rm, rs, h⟩
  unfold tupleD at h
  split at h
  · rename_i n
    cases rs with
    | cons r1 rs =>
      cases rs
      cases r1 with
      | ref ha =>
        cases e0 : lstOf m n with
        | none => rw [e0] at h; exact False.elim h
        | some ys =>
          rw [e0] at h
          obtain ⟨vs, q, rs⟩ := rm.sql e0 ha
          exact call_tuple_of pins s σ H _ us Q I r ⟨_, _, rfl, .inl ⟨by rw [← hK]; exact q, fun p hp => h α _ (Ext.side hp) (rm.side hp) _ (.newTup hp rs)⟩⟩
  · cases rs with
    | cons r1 rs =>
      cases rs
      cases r1 with
      | tup t q => exact call_tuple_of pins s σ H _ us Q I r ⟨_, _, rfl, .inr ⟨by rw [← hK]; exact t, h α H Ext.refl rm _ (.tup t q)⟩⟩
  · exact False.elim h
def listD (ds : List D) (m : Mem) : Option (D × Mem) :=
  match ds with
  | [.ref n] => (lstOf m n).map fun xs => (.ref m.length, m ++ [.lst xs])
  | [.tup xs] => some (.ref m.length, m ++ [.lst xs])
  | _ => none
theorem ty_list (hK : P.K = X.K) : CallR X (.type "list") (rB P listD) := by
  intro pins s σ H xs us Q I r ⟨α, m, ds, rm, rs, h⟩
  unfold listD at h
  split at h
  · rename_i n
    cases rs with
    | cons r1 rs =>
      cases rs
      cases r1 with
      | ref ha =>
        cases e0 : lstOf m n with
        | none => rw [e0] at h; exact False.elim h
        | some ys =>
          rw [e0] at h
          obtain ⟨vs, q, rs⟩ := rm.sql e0 ha
          exact call_list_of pins s σ H _ us Q I r ⟨_, _, rfl, .inl (by rw [← hK]; exact q), fun p hp => h _ _ (Ext.new hp) (rm.new hp (.newLst hp rs)) _ (.newRef rm)⟩
  · cases rs with
    | cons r1 rs =>
      cases rs
      cases r1 with
      | tup t q => exact call_list_of pins s σ H _ us Q I r ⟨_, _, rfl, .inr (by rw [← hK]; exact t), fun p hp => h _ _ (Ext.new hp) (rm.new hp (.newLst hp q)) _ (.newRef rm)⟩
  · exact False.elim h
def maxD (ds : List D) (m : Mem) : Option (D × Mem) :=
  match ds with
  | [.int i, .int j] => some (.int (if j > i then j else i), m)
  | _ => none
theorem bi_max (hc : X.calm = true) : CallR X (.builtin "max") (rB P maxD) := by
  intro pins s σ H xs us Q I r ⟨α, m, ds, rm, rs, h⟩
  unfold maxD at h
  split at h
  · cases rs with
    | cons r1 rs => cases rs with
      | cons r2 rs => cases rs; cases r1; cases r2; exact call_max2 hc pins s σ H _ us Q I r ⟨_, _, rfl, h α H Ext.refl rm _ (.int _)⟩
  · exact False.elim h
/-! repr -/
def reprD (ds : List D) (m : Mem) : Option (D × Mem) :=
  match ds with
  | [d] => match toP 66 m d with
    | some p => if p.showable = true ∧ p.hasDict = false ∧ p.depth ≤ 64 ∧ p.shown.length ≤ sizeLine then some (.str p.shown, m) else none
    | none => none
  | _ => none
theorem bi_repr (hK : P.K = X.K) (hu : X.A.units + 66 < cLine) (hg : X.A.guards = some []) : CallR X (.builtin "repr") (rB P reprD) := by
  intro pins s σ H xs us Q I r ⟨α, m, ds, rm, rs, h⟩
  unfold reprD at h
  split at h
  · rename_i d
    split at h
    · rename_i p hp
      split at h
      · rename_i hz
        obtain ⟨h1, h2, h3, h4⟩ := hz
        cases rs with
        | cons r1 rs =>
          cases rs
          obtain ⟨u, rfl, ru⟩ := vals1 r
          have q := h α H Ext.refl rm _ (.str _)
          have dp := dp_of rm _ _ _ _ r1 hp
          rw [hK] at dp
          obtain ⟨as, rd⟩ := Dp.reads I p _ u dp ru
          have fin : ∀ h' u tk, (∀ b o, s.heap.get? b = some o → h'.get? b = some o) → EP X pins σ Q (.str p.shown u) { s with heap := h', toks := tk } := fun h' u tk k => ⟨.str p.shown, H, I.kept k, ⟨_, rfl⟩, q⟩
          have big : ∀ a, u = Value.ref a → wpAny (model X.prog X.w) X.A (call (.builtin "repr") [.ref a]) (EP X pins σ Q) X.xe s := fun a e => by
            subst e
            exact repr_of_reads' rd h1 (PyData.noDict_hsm h2) hg (by omega) (fun _ _ e => e) fin h4
          cases dp with
          | non => cases ru; exact PySem.P.repr_of_none (fin s.heap _ _ fun _ _ e => e)
          | bl b => cases ru; exact PySem.P.repr_of_bool (fin s.heap _ _ fun _ _ e => e)
          | int i => obtain ⟨t, rfl⟩ := ru; exact PySem.P.repr_of_int (by simpa [PyData.showable] using h1) (fin s.heap _ _ fun _ _ e => e)
          | str x => obtain ⟨t, rfl⟩ := ru; exact PySem.P.repr_of_str (fin s.heap _ _ fun _ _ e => e) h4
          | lst q1 q2 => cases ru; exact big _ rfl
          | tup q1 q2 => cases ru; exact big _ rfl
      · exact False.elim h
    · exact False.elim h
  · exact False.elim h
/-! isinstance -/
inductive Ty where | int | bool | str | tuple | list | dict
def Ty.nm : Ty → String
  | .int => "int" | .bool => "bool" | .str => "str" | .tuple => "tuple" | .list => "list" | .dict => "dict"
def tyB (T : Ty) (x : D) (m : Mem) : Option Bool :=
  match x with
  | .non => some false
  | .int _ => some (match T with | .int => true | _ => false)
  | .bl _ => some (match T with | .int => true | .bool => true | _ => false)
  | .str _ => some (match T with | .str => true | _ => false)
  | .tup _ => some (match T with | .tuple => true | _ => false)
  | .fl _ => none
  | .ref n => match m[n]? with
    | some (.lst _) => some (match T with | .list => true | _ => false)
    | some (.dct _) => some (match T with | .dict => true | _ => false)
    | _ => none
def isD1 (T : Ty) (x : D) (m : Mem) : Option (D × Mem) := (tyB T x m).map fun b => (.bl b, m)
theorem kit1 (K : PySem.W.Frag) (T : Ty) (x : D) (m : Mem) (b : Bool) (h : tyB T x m = some b) : ∀ t, (match x with | .non => t = "NoneType" | .int _ => t = "int" | .bl _ => t = "bool" | .str _ => t = "str" | .tup _ => t = "tuple" | .fl _ => False | .ref n => (match m[n]? with | some (.lst _) => t = "list" | some (.dct _) => t = "dict" | _ => False)) →
    PySem.W.kitOne K (.type t) (.type T.nm) = some b := by
  intro t ht
  cases x <;> first
    | (dsimp only at ht; subst ht; simp only [tyB, Option.some.injEq] at h; subst h; cases T <;> exact kit_ty (by decide +kernel))
    | (exact False.elim ht)
    | skip
  rename_i n
  dsimp only at ht
  unfold tyB at h
  dsimp only at h
  split at ht
  · rename_i e; rw [e] at h; subst ht; simp only [Option.some.injEq] at h; subst h; cases T <;> exact kit_ty (by decide +kernel)
  · rename_i e; rw [e] at h; subst ht; simp only [Option.some.injEq] at h; subst h; cases T <;> exact kit_ty (by decide +kernel)
  · exact False.elim ht
theorem tyX_tup {K : PySem.W.Frag} {H : Hp} {a : Addr} {vs : List V} (t : SqT K H a vs) : TyX K H (.ref a) (.type "tuple") := by
  rcases t with (t | ⟨o, t⟩) | ⟨o, its, n, h1, h2, _⟩
  · exact .base (.tup t)
  · exact .fTuple t
  · exact .kTuple h1 h2
theorem de_isi {T : Ty} {pf p2 : Pos} (hK : P.K = X.K) (hg : Gl X "isinstance") (hm : X.mg "isinstance" = none) (hgT : Gl X (Str.ofString T.nm)) (hmT : X.mg (Str.ofString T.nm) = none) (hvT : bootBuiltins (Str.ofString T.nm) = some (.type T.nm))
    (hn : Str.ofString T.nm ≠ "__name__") (hd : (Str.ofString T.nm == ("__debug__" : Str)) = false) (ha : PE X a (tE P W g)) (hs : starEach [a, .Name (Str.ofString T.nm) p2] X.env = (false, eval a X.env) :: starEach [.Name (Str.ofString T.nm) p2] X.env := by rfl) :
    PE X (.Call (.Name "isinstance" pf) [a, .Name (Str.ofString T.nm) p2] [] pos) (tE P W (eUn (isD1 T) g)) :=
  (pe_callB call_isi hg hm (by decide +kernel) (pa_cons ha (pa_cons (pe_bltn (v := .ty T.nm) hgT hmT hvT rfl hn hd) pa_nil) hs) (by decide) (by decide) hs).weaken fun σ H Q h => by
    have q := un1 h
    refine (show tE P W g σ H _ from ?_)
    obtain ⟨α, ρ, m, rm, re, q⟩ := q
    refine ⟨α, ρ, m, rm, re, q.mono fun α' H' d m' e r p v rv => ?_⟩
    obtain ⟨α2, m2, dx, r2, rv2, p2⟩ := p v rv
    unfold isD1 at p2
    cases et : tyB T dx m2 with
    | none => rw [et] at p2; exact False.elim p2
    | some b =>
      rw [et] at p2
      have kk := kit1 X.K T dx m2 b et
      have fin := p2 α2 H' Ext.refl r2 _ (.bl b)
      refine ⟨v, .ty T.nm, ?_⟩
      cases rv2 with
      | non => exact ⟨_, _, b, rfl, .ty _, .base .non, kk _ rfl, fin⟩
      | bl z => exact ⟨_, _, b, rfl, .ty _, .base (.bl z), kk _ rfl, fin⟩
      | int z => exact ⟨_, _, b, rfl, .ty _, .base (.int z), kk _ rfl, fin⟩
      | str z => exact ⟨_, _, b, rfl, .ty _, .base (.str z), kk _ rfl, fin⟩
      | tup t rs => exact ⟨_, _, b, rfl, .ty _, tyX_tup (by rw [← hK]; exact t), kk _ rfl, fin⟩
      | fl t rs => cases et
      | @ref a n ha =>
        unfold tyB at et
        dsimp only at et kk
        cases ec : m2[n]? with
        | none => rw [ec] at et; cases et
        | some c =>
          rw [ec] at et kk
          cases c with
          | lst xs =>
            obtain ⟨vs, e1, _⟩ := r2.cell n _ a ec ha
            exact ⟨_, _, b, rfl, .ty _, .base (.lst e1), kk _ rfl, fin⟩
          | dct xs =>
            obtain ⟨vs, e1, _⟩ := r2.cell n _ a ec ha
            exact ⟨_, _, b, rfl, .ty _, .base (.dK e1), kk _ rfl, fin⟩
end
end Dw

namespace Dw
open PySem PySem.Spec PyProof.Rows L2

/-! ### 7. the memory made small again -/
section
variable {P : Pm} {α β : List Addr} {H H1 : Hp} {m m' : Mem}
mutual
theorem RD.fits : ∀ {v : V} {d : D}, RD P α H v d → d.fits α.length = true
  | _, _, .non => rfl
  | _, _, .bl _ => rfl
  | _, _, .int _ => rfl
  | _, _, .str _ => rfl
  | _, _, .tup _ r => by rw [D.fits]; exact RDs.fits r
  | _, _, .fl _ r => by rw [D.fits]; exact RDs.fits r
  | _, _, .ref h => by rw [D.fits]; exact decide_eq_true (List.getElem?_eq_some_iff.mp h).1
theorem RDs.fits : ∀ {vs : List V} {ds : List D}, RDs P α H vs ds → D.fitsL α.length ds = true
  | _, _, .nil => rfl
  | _, _, .cons r rs => by rw [D.fitsL, RD.fits r, RDs.fits rs]; rfl
end
mutual
theorem RD.shrink : ∀ {v : V} {d : D}, RD P (α ++ β) H v d → d.fits α.length = true → RD P α H v d
  | _, _, .non, _ => .non
  | _, _, .bl b, _ => .bl b
  | _, _, .int i, _ => .int i
  | _, _, .str x, _ => .str x
  | _, _, .tup t r, h => .tup t (RDs.shrink r (by rw [D.fits] at h; exact h))
  | _, _, .fl t r, h => .fl t (RDs.shrink r (by rw [D.fits] at h; exact h))
  | _, _, .ref e, h => .ref (by rw [D.fits] at h; rw [List.getElem?_append_left (of_decide_eq_true h)] at e; exact e)
theorem RDs.shrink : ∀ {vs : List V} {ds : List D}, RDs P (α ++ β) H vs ds → D.fitsL α.length ds = true → RDs P α H vs ds
  | _, _, .nil, _ => .nil
  | _, _, .cons r rs, h => by
    rw [D.fitsL, Bool.and_eq_true] at h
    exact .cons (RD.shrink r h.1) (RDs.shrink rs h.2)
end
theorem RKs.fits : ∀ {vs : List (Key × V)} {ds : List (Key × D)}, RKs P α H vs ds → D.fitsL α.length (ds.map (·.2)) = true
  | _, _, .nil => rfl
  | _, _, .cons r rs => by rw [List.map_cons, D.fitsL, r.fits, RKs.fits rs]; rfl
theorem RKs.shrink : ∀ {vs : List (Key × V)} {ds : List (Key × D)}, RKs P (α ++ β) H vs ds → D.fitsL α.length (ds.map (·.2)) = true → RKs P α H vs ds
  | _, _, .nil, _ => .nil
  | _, _, .cons r rs, h => by
    rw [List.map_cons, D.fitsL, Bool.and_eq_true] at h
    exact .cons (r.shrink h.1) (RKs.shrink rs h.2)
theorem RFs.shrink : ∀ {vs : List (Str × V)} {ds : List (Str × D)}, RFs P (α ++ β) H vs ds → D.fitsL α.length (ds.map (·.2)) = true → RFs P α H vs ds
  | _, _, .nil, _ => .nil
  | _, _, .cons r rs, h => by
    rw [List.map_cons, D.fitsL, Bool.and_eq_true] at h
    exact .cons (r.shrink h.1) (RFs.shrink rs h.2)
theorem RC.fits {a : Addr} {c : Cell} (h : RC P α H a c) : c.fits α.length = true := by
  cases c with
  | lst ds => obtain ⟨_, _, r⟩ := h; exact r.fits
  | dct ds => obtain ⟨_, _, r⟩ := h; exact r.fits
theorem RC.shrink {a : Addr} {c : Cell} (h : RC P (α ++ β) H a c) (f : c.fits α.length = true) : RC P α H a c := by
  cases c with
  | lst ds => obtain ⟨vs, e, r⟩ := h; exact ⟨vs, e, r.shrink f⟩
  | dct ds => obtain ⟨vs, e, r⟩ := h; exact ⟨vs, e, r.shrink f⟩
/-- the cells of m are in m' as they were, or hold nothing newer -/
def KeepOk (m m' : Mem) : Prop := m.length ≤ m'.length ∧ ∀ i c, i < m.length → m'[i]? = some c → m[i]? = some c ∨ c.fits m.length = true
theorem Ext.shrink {α' : List Addr} (e : Ext P α H α' H1) : Ext P α H α H1 := ⟨⟨[], by simp⟩, fun b o h n t => ⟨(e.keep b o h n t).1, n⟩, e.tup, e.frz⟩
theorem RM.shrink {α' : List Addr} (rm : RM P α H m) (e : Ext P α H α' H1) (rm' : RM P α' H1 m') (k : KeepOk m m') : RM P α H1 (m'.take m.length) := by
  obtain ⟨γ, rfl⟩ := e.pre
  have lt : ∀ {i : Nat} {c : Cell}, (m'.take m.length)[i]? = some c → i < m.length ∧ m'[i]? = some c := fun {i c} h => by
    have h1 := (List.getElem?_eq_some_iff.mp h).1
    rw [List.length_take] at h1
    have hi : i < m.length := by omega
    rw [List.getElem?_take_of_lt hi] at h
    exact ⟨hi, h⟩
  have up : ∀ {i : Nat} {a : Addr}, α[i]? = some a → (α ++ γ)[i]? = some a := fun {i a} h => by
    rw [List.getElem?_append_left (List.getElem?_eq_some_iff.mp h).1]; exact h
  refine ⟨by rw [List.length_take, rm.len]; have := k.1; omega, fun i j a a1 a2 => rm'.inj i j a (up a1) (up a2), fun i c a h1 h2 => ?_, rm'.tab⟩
  obtain ⟨hi, h1⟩ := lt h1
  have rc := rm'.cell i c a h1 (up h2)
  refine rc.shrink ?_
  rw [rm.len]
  rcases k.2 i c hi h1 with q | q
  · have := (rm.cell i c a q h2).fits
    rw [rm.len] at this
    exact this
  · exact q
end
def Env.fits (n : Nat) (ρ : Env) : Bool := ρ.all fun o => match o with
  | some d => d.fits n
  | none => true
def Fl.fits (n : Nat) : Fl → Bool
  | .nx ρ => Env.fits n ρ
  | .ret d => d.fits n
  | .brk ρ => Env.fits n ρ
  | .cnt ρ => Env.fits n ρ
open Classical in
noncomputable def gcR {β : Type} (fit : Nat → β → Bool) (m : Mem) (r : R β) : R β :=
  match r with
  | .ok b m' => if fit m.length b = true ∧ KeepOk m m' then .ok b (m'.take m.length) else .ok b m'
  | .exc c fs m' => if D.fitsL m.length (fs.map (·.2)) = true ∧ KeepOk m m' then .exc c fs (m'.take m.length) else .exc c fs m'
  | .bad => .bad
section
variable {P : Pm} {W : WX} {σ : L2.St} {α : List Addr} {H : Hp} {m : Mem}
theorem ExcR.shrink {β : List Addr} {cls : Value} {dd : Option Addr} {c : Str} {fs : List (Str × D)} (h : ExcR P (α ++ β) H cls dd c fs) (f : D.fitsL α.length (fs.map (·.2)) = true) : ExcR P α H cls dd c fs := by
  obtain ⟨C, d, fv, h1, h2, h3, h4, h5⟩ := h
  exact ⟨C, d, fv, h1, h2, h3, h4, h5.shrink f⟩
theorem Post.gc {β : Type} {fit : Nat → β → Bool} {r : R β} {Φ Ψ : List Addr → Hp → β → Mem → Prop} (rm : RM P α H m) (h : Post P W σ α H (gcR fit m r) Φ)
    (k : ∀ α' H' b m', Ext P α H α' H' → RM P α' H' m' → Φ α' H' b m' → Ψ α' H' b m')
    (ks : ∀ γ H' b m', Ext P α H (α ++ γ) H' → RM P (α ++ γ) H' m' → fit α.length b = true → RM P α H' (m'.take m.length) → Ext P α H α H' → Φ α H' b (m'.take m.length) → Ψ (α ++ γ) H' b m') : Post P W σ α H r Ψ := by
  cases r with
  | ok b m' =>
    unfold gcR at h
    dsimp only at h
    intro α' H' e rm'
    split at h
    · rename_i hz
      obtain ⟨γ, rfl⟩ := e.pre
      have r2 := rm.shrink e rm' hz.2
      exact ks γ H' b m' e rm' (by rw [rm.len]; exact hz.1) r2 e.shrink (h α H' e.shrink r2)
    · exact k α' H' b m' e rm' (h α' H' e rm')
  | exc c fs m' =>
    unfold gcR at h
    dsimp only at h
    intro α' H' cls dd e rm' x
    split at h
    · rename_i hz
      obtain ⟨γ, rfl⟩ := e.pre
      have r2 := rm.shrink e rm' hz.2
      exact h α H' cls dd e.shrink r2 (x.shrink (by rw [rm.len]; exact hz.1))
    · exact h α' H' cls dd e rm' x
  | bad => exact h
noncomputable def gcD (m : Mem) (r : R D) : R D := gcR D.fits m r
noncomputable def gcT (m : Mem) (r : R Bool) : R Bool := gcR (fun _ _ => true) m r
noncomputable def gcF (m : Mem) (r : R Fl) : R Fl := gcR Fl.fits m r
theorem Post.gcD {r : R D} {Q : VK} (rm : RM P α H m) (h : Post P W σ α H (gcD m r) (wV P Q)) : Post P W σ α H r (wV P Q) :=
  Post.gc rm h (fun _ _ _ _ _ _ q => q) fun γ H' b m' e r f _ _ q v rv => q v (rv.shrink f)
theorem Post.gcT {r : R Bool} {Q : Bool → Hp → Prop} (rm : RM P α H m) (h : Post P W σ α H (gcT m r) fun _ H' b _ => Q b H') : Post P W σ α H r fun _ H' b _ => Q b H' :=
  Post.gc rm h (fun _ _ _ _ _ _ q => q) fun γ H' b m' e r f _ _ q => q
theorem RE.shrink {β : List Addr} {ρ : Env} {σ : L2.St} (re : RE P (α ++ β) H ρ σ) (f : Env.fits α.length ρ = true) : RE P α H ρ σ :=
  ⟨re.len, fun i d h => by
    obtain ⟨v, h1, h2⟩ := re.at_ i d h
    refine ⟨v, h1, h2.shrink ?_⟩
    exact List.all_eq_true.mp f _ (List.mem_of_getElem? h)⟩
end

/-! ### 8. tests -/
def truD (x : D) (m : Mem) : Option Bool :=
  match x with
  | .non => some false
  | .bl b => some b
  | .int i => some (i != 0)
  | .str z => if z.length ≤ sizeLine then some ((z.length : Int) != 0) else none
  | .tup xs => some (!xs.isEmpty)
  | .fl xs => some (!xs.isEmpty)
  | .ref n => match m[n]? with
    | some (.lst xs) => some (!xs.isEmpty)
    | some (.dct kvs) => some (!kvs.isEmpty)
    | none => none
noncomputable def tTru (g : G) : GT := fun ρ m => gcT m ((g ρ m).bind fun d m => R.of ((truD d m).map fun b => (b, m)))
noncomputable def tOp' (f : D → D → Mem → Option (D × Mem)) (a b : G) : GT := fun ρ m => gcT m ((a ρ m).bind fun x m => (b ρ m).bind fun y m => R.of ((f x y m).bind fun z => (blV z.1).map fun k => (k, z.2)))
def tNot' (t : GT) : GT := fun ρ m => (t ρ m).bind fun b m => .ok (!b) m
def tAnd' (t u : GT) : GT := fun ρ m => (t ρ m).bind fun b m => if b = true then u ρ m else .ok false m
def tOr' (t u : GT) : GT := fun ρ m => (t ρ m).bind fun b m => if b = true then .ok true m else u ρ m
def eAnd (a b : G) : G := fun ρ m => (a ρ m).bind fun d m => match d with
  | .bl true => b ρ m
  | .bl false => .ok (.bl false) m
  | _ => .bad
def eOr (a b : G) : G := fun ρ m => (a ρ m).bind fun d m => match d with
  | .bl true => .ok (.bl true) m
  | .bl false => b ρ m
  | _ => .bad
def eNot (a : G) : G := fun ρ m => (a ρ m).bind fun d m => match d with
  | .bl b => .ok (.bl (!b)) m
  | _ => .bad
def eIf (t : GT) (a b : G) : G := fun ρ m => (t ρ m).bind fun k m => if k = true then a ρ m else b ρ m
def chainK (f' : D → D → Mem → Option (D × Mem)) (c : G) (ρ : Env) (y : D) (z : D × Mem) : R D := match z.1 with
  | .bl true => (c ρ z.2).bind fun w m => R.of (f' y w m)
  | .bl false => .ok (.bl false) z.2
  | _ => .bad
def eChain (f f' : D → D → Mem → Option (D × Mem)) (a b c : G) : G := fun ρ m => (a ρ m).bind fun x m => (b ρ m).bind fun y m => (R.of (f x y m)).bind fun z m => chainK f' c ρ y (z, m)
noncomputable def tOfE (g : G) : GT := fun ρ m => gcT m ((g ρ m).bind fun d m => match d with
  | .bl b => .ok b m
  | _ => .bad)
section
variable {X : Cx} {P : Pm} {W : WX} {e a b c : Expr} {es rest : List Expr} {pos : Pos} {ga gb gc g : G} {ta : GA} {t u : GT}
theorem truV_of {α : List Addr} {H : Hp} {m : Mem} {v : V} {d : D} {k : Bool} (hK : P.K = X.K) (rm : RM P α H m) (rv : RD P α H v d) (h : truD d m = some k) : TruV X.K v H k := by
  unfold truD at h
  cases rv with
  | non => cases h; rfl
  | bl b => cases h; rfl
  | int i => cases h; rfl
  | str z =>
    dsimp only at h
    split at h
    · rename_i hz; cases h; exact ⟨hz, rfl⟩
    · cases h
  | @tup a vs ds t rs =>
    cases h
    refine .inr (.inl ⟨vs, by rw [← hK]; exact t, ?_⟩)
    cases rs <;> rfl
  | @fl a vs ds t rs =>
    cases h
    refine .inl ⟨vs, by rw [← hK]; exact t.sql, ?_⟩
    cases rs <;> rfl
  | @ref a n ha =>
    dsimp only at h
    split at h
    · rename_i xs e1
      cases h
      obtain ⟨vs, e2, r⟩ := rm.cell n _ a e1 ha
      exact .inl ⟨vs, SqL.of e2, by cases r <;> rfl⟩
    · rename_i xs e1
      cases h
      obtain ⟨vs, e2, r⟩ := rm.cell n _ a e1 ha
      exact .inr (.inr ⟨vs, e2, by cases r <;> rfl⟩)
    · cases h
theorem dt_tru (hK : P.K = X.K) (ha : PE X a (tE P W g)) (he : ∀ whole, isTrue a X.env whole = (do let v ← whole; standAt a.pos; holding [v] (truthy v)) := by intro _; rfl) : PT X a (tT P W (tTru g)) :=
  (pt_truth ha he).weaken fun σ H Q ⟨α, ρ, m, rm, re, h⟩ => by
    refine tE_bind rm re (h.gcT rm) fun α1 H1 d m1 e1 r1 p1 v rv => ?_
    have p1 := p1.of
    cases et : truD d m1 with
    | none => rw [et] at p1; exact False.elim p1
    | some k =>
      rw [et] at p1
      exact ⟨k, truV_of hK r1 rv et, p1 α1 H1 Ext.refl r1⟩
theorem dt_cmp {op : CmpOp} {f : D → D → Mem → Option (D × Mem)} (ho : OpR X (compareOp op) (rO P f)) (ha : PE X a (tE P W ga)) (hb : PE X b (tE P W gb)) (hm : behindInMarks op b = false := by rfl) : PT X (.Compare a [op] [b] pos) (tT P W (tOp' f ga gb)) :=
  (pt_cmpR ho ha hb hm).weaken fun σ H Q ⟨α, ρ, m, rm, re, h⟩ => by
    refine tE_bind rm re (h.gcT rm) fun α1 H1 d1 m1 e1 r1 p1 v1 rv1 => ?_
    refine tE_bind r1 (re.mono e1) p1 fun α2 H2 d2 m2 e2 r2 p2 v2 rv2 => ?_
    refine ⟨α2, m2, d1, d2, r2, rv1.mono e2, rv2, ?_⟩
    have p2 := p2.of
    cases ef : f d1 d2 m2 with
    | none => rw [ef] at p2; exact False.elim p2
    | some z =>
      rw [ef, Option.bind_some] at p2
      obtain ⟨z, mz⟩ := z
      intro α3 H3 e3 r3 v rv
      cases rv with
      | bl k => exact ⟨k, rfl, p2 α3 H3 e3 r3⟩
      | _ => exact False.elim p2
theorem dt_not (ha : PT X a (tT P W t)) : PT X (.UnaryOp .Not a pos) (tT P W (tNot' t)) :=
  (pt_not ha).weaken fun σ H Q ⟨α, ρ, m, rm, re, h⟩ => by
    refine tT_bind rm re h fun α1 H1 b m1 e1 r1 p1 => ?_
    exact p1 α1 H1 Ext.refl r1
theorem _root_.L2.PW.weaken {t t' : TT} (h : PW X e t) (k : ∀ σ H Q, t' σ H Q → t σ H Q) : PW X e t' := ⟨fun wh pins s σ H Q I q => h.run wh pins s σ H Q I (k _ _ _ q)⟩
theorem dw_and1 (ha : PT X a (tT P W t)) : PW X (.BoolOp .And [a] pos) (tT P W t) := pw_and1 ha
theorem dw_or1 (ha : PT X a (tT P W t)) : PW X (.BoolOp .Or [a] pos) (tT P W t) := pw_or1 ha
theorem dw_and (ha : PT X a (tT P W t)) (hb : PW X (.BoolOp .And (b :: rest) pos) (tT P W u)) : PW X (.BoolOp .And (a :: b :: rest) pos) (tT P W (tAnd' t u)) :=
  (pw_and ha hb).weaken fun σ H Q ⟨α, ρ, m, rm, re, h⟩ => by
    refine tT_bind rm re h fun α1 H1 b m1 e1 r1 p1 => ?_
    cases b with
    | true => exact ⟨α1, ρ, m1, r1, re.mono e1, p1⟩
    | false => exact p1 α1 H1 Ext.refl r1
theorem dw_or (ha : PT X a (tT P W t)) (hb : PW X (.BoolOp .Or (b :: rest) pos) (tT P W u)) : PW X (.BoolOp .Or (a :: b :: rest) pos) (tT P W (tOr' t u)) :=
  (pw_or ha hb).weaken fun σ H Q ⟨α, ρ, m, rm, re, h⟩ => by
    refine tT_bind rm re h fun α1 H1 b m1 e1 r1 p1 => ?_
    cases b with
    | true => exact p1 α1 H1 Ext.refl r1
    | false => exact ⟨α1, ρ, m1, r1, re.mono e1, p1⟩
theorem de_one {op : BoolOp} (h : PE X a (tE P W g)) : PE X (.BoolOp op [a] pos) (tE P W g) := pe_one h
theorem de_and (ha : PE X a (tE P W ga)) (hb : PE X (.BoolOp .And (b :: rest) pos) (tE P W gb)) : PE X (.BoolOp .And (a :: b :: rest) pos) (tE P W (eAnd ga gb)) :=
  (pe_and ha hb).weaken fun σ H Q ⟨α, ρ, m, rm, re, h⟩ => by
    refine tE_bind rm re h fun α1 H1 d m1 e1 r1 p1 v rv => ?_
    cases rv with
    | bl k =>
      cases k with
      | true => exact ⟨true, rfl, α1, ρ, m1, r1, re.mono e1, p1⟩
      | false => exact ⟨false, rfl, p1 α1 H1 Ext.refl r1 _ (.bl false)⟩
    | _ => exact False.elim p1
theorem de_or (ha : PE X a (tE P W ga)) (hb : PE X (.BoolOp .Or (b :: rest) pos) (tE P W gb)) : PE X (.BoolOp .Or (a :: b :: rest) pos) (tE P W (eOr ga gb)) :=
  (pe_or ha hb).weaken fun σ H Q ⟨α, ρ, m, rm, re, h⟩ => by
    refine tE_bind rm re h fun α1 H1 d m1 e1 r1 p1 v rv => ?_
    cases rv with
    | bl k =>
      cases k with
      | true => exact ⟨true, rfl, p1 α1 H1 Ext.refl r1 _ (.bl true)⟩
      | false => exact ⟨false, rfl, α1, ρ, m1, r1, re.mono e1, p1⟩
    | _ => exact False.elim p1
theorem de_not (ha : PE X a (tE P W g)) : PE X (.UnaryOp .Not a pos) (tE P W (eNot g)) :=
  (pe_not ha).weaken fun σ H Q ⟨α, ρ, m, rm, re, h⟩ => by
    refine tE_bind rm re h fun α1 H1 d m1 e1 r1 p1 v rv => ?_
    cases rv with
    | bl k => exact ⟨k, rfl, p1 α1 H1 Ext.refl r1 _ (.bl _)⟩
    | _ => exact False.elim p1
theorem de_if (hc : PT X c (tT P W t)) (ha : PE X a (tE P W ga)) (hb : PE X b (tE P W gb)) : PE X (.IfExp c a b pos) (tE P W (eIf t ga gb)) :=
  (pe_ifExp hc ha hb).weaken fun σ H Q ⟨α, ρ, m, rm, re, h⟩ => by
    refine tT_bind rm re h fun α1 H1 b m1 e1 r1 p1 => ?_
    cases b with
    | true => exact ⟨α1, ρ, m1, r1, re.mono e1, p1⟩
    | false => exact ⟨α1, ρ, m1, r1, re.mono e1, p1⟩
theorem chain_un {f f' : D → D → Mem → Option (D × Mem)} {σ : L2.St} {H : Hp} {Q : VK} {α : List Addr} {ρ : Env} {m : Mem} (rm : RM P α H m) (re : RE P α H ρ σ) (h : Post P W σ α H (eChain f f' ga gb gc ρ m) (wV P Q)) :
    tChain (rO P f) (rO P f') (tE P W ga) (tE P W gb) (tE P W gc) σ H Q := by
  refine tE_bind rm re h fun α1 H1 d1 m1 e1 r1 p1 v1 rv1 => ?_
  refine tE_bind r1 (re.mono e1) p1 fun α2 H2 d2 m2 e2 r2 p2 v2 rv2 => ?_
  refine ⟨α2, m2, d1, d2, r2, rv1.mono e2, rv2, ?_⟩
  cases ef : f d1 d2 m2 with
  | none => rw [ef] at p2; exact False.elim p2
  | some z =>
    rw [ef] at p2
    obtain ⟨z, mz⟩ := z
    intro α3 H3 e3 r3 v rv
    have p3 : Post P W σ α3 H3 (chainK f' gc ρ d2 (z, mz)) (wV P Q) := Post.from p2 e3
    unfold chainK at p3
    cases rv with
    | bl k =>
      refine ⟨k, rfl, ?_⟩
      cases k with
      | true =>
        rw [if_pos rfl]
        refine tE_bind r3 (((re.mono e1).mono e2).mono e3) p3 fun α4 H4 d4 m4 e4 r4 p4 v4 rv4 => ?_
        exact ⟨α4, m4, d2, d4, r4, (rv2.mono e3).mono e4, rv4, p4.of⟩
      | false =>
        rw [if_neg Bool.false_ne_true]
        exact p3 α3 H3 Ext.refl r3 _ (.bl false)
    | _ => exact False.elim p3
theorem de_chain {op op' : CmpOp} {f f' : D → D → Mem → Option (D × Mem)} (ho : OpR X (compareOp op) (rO P f)) (ho' : OpR X (compareOp op') (rO P f')) (ha : PE X a (tE P W ga)) (hb : PE X b (tE P W gb)) (hc : PE X c (tE P W gc))
    (hm : lastMarks [op, op'] [b, c] = false := by with_unfolding_all rfl) : PE X (.Compare a [op, op'] [b, c] pos) (tE P W (eChain f f' ga gb gc)) :=
  (pe_chain ho ho' ha hb hc hm).weaken fun σ H Q ⟨α, ρ, m, rm, re, h⟩ => chain_un rm re h
theorem dt_chain {op op' : CmpOp} {f f' : D → D → Mem → Option (D × Mem)} (ho : OpR X (compareOp op) (rO P f)) (ho' : OpR X (compareOp op') (rO P f')) (ha : PE X a (tE P W ga)) (hb : PE X b (tE P W gb)) (hc : PE X c (tE P W gc))
    (hm : lastMarks [op, op'] [b, c] = false := by with_unfolding_all rfl) : PT X (.Compare a [op, op'] [b, c] pos) (tT P W (tOfE (eChain f f' ga gb gc))) :=
  (pt_chain ho ho' ha hb hc hm).weaken fun σ H Q ⟨α, ρ, m, rm, re, h⟩ => by
    refine chain_un rm re ((h.gcT rm).bind.mono fun α1 H1 d m1 e1 r1 p1 v rv => ?_)
    cases rv with
    | bl k => exact ⟨k, rfl, p1 α1 H1 Ext.refl r1⟩
    | _ => exact False.elim p1
end
end Dw

namespace Dw
open PySem PySem.Spec PyProof.Rows L2

/-! ### 9. targets -/
def gN (i : Nat) : GG := fun d ρ m => .ok (ρ.set i (some d)) m
abbrev GGs := List D → Env → Mem → R Env
def gsNil : GGs := fun ds ρ m => match ds with
  | [] => .ok ρ m
  | _ => .bad
def gsCons (g : GG) (gs : GGs) : GGs := fun ds ρ m => match ds with
  | d :: r => (g d ρ m).bind fun ρ' m' => gs r ρ' m'
  | [] => .bad
def gT (n : Nat) (gs : GGs) : GG := fun d ρ m => match d with
  | .tup ds => if ds.length = n then gs ds ρ m else .bad
  | _ => .bad
def setD (o i d : D) (m : Mem) : Option Mem :=
  match o, i with
  | .ref n, .int k => match m[n]? with
    | some (.lst xs) => (ixN xs.length k).map fun j => m.set n (.lst (xs.set j d))
    | _ => none
  | _, _ => none
def gSb (go gi : G) : GG := fun d ρ m => (go ρ m).bind fun o m1 => (gi ρ m1).bind fun i m2 => match setD o i d m2 with
  | some m3 => .ok ρ m3
  | none => .bad
def tGs (P : Pm) (W : WX) (g : GGs) : TGs := fun vs σ H Q => ∃ α ρ m ds, RM P α H m ∧ RE P α H ρ σ ∧ RDs P α H vs ds ∧ Post P W σ α H (g ds ρ m) fun α' H' ρ' _ => ∀ σ', RE P α' H' ρ' σ' → Q σ' H'
section
variable {X : Cx} {P : Pm} {W : WX} {E : XK} {e a b c : Expr} {es rest : List Expr} {pos : Pos} {ga gb gc g : G} {ta : GA} {t u : GT}
theorem RE.set {α : List Addr} {H : Hp} {ρ : Env} {σ : L2.St} {v : V} {d : D} (re : RE P α H ρ σ) (rv : RD P α H v d) (i : Nat) : RE P α H (ρ.set i (some d)) (σ.set i (some v)) := by
  refine ⟨by rw [List.length_set, List.length_set]; exact re.len, fun j d' h => ?_⟩
  by_cases hj : i = j
  · subst hj
    by_cases hi : i < ρ.length
    · rw [List.getElem?_set_self hi] at h
      cases h
      exact ⟨v, List.getElem?_set_self (by rw [← re.len]; exact hi), rv⟩
    · rw [List.getElem?_eq_none (by rw [List.length_set]; omega)] at h
      cases h
  · rw [List.getElem?_set_ne hj] at h
    rw [List.getElem?_set_ne hj]
    exact re.at_ j d' h
theorem RE.setNone {α : List Addr} {H : Hp} {ρ : Env} {σ : L2.St} (re : RE P α H ρ σ) (i : Nat) : RE P α H (ρ.set i none) (σ.set i none) := by
  refine ⟨by rw [List.length_set, List.length_set]; exact re.len, fun j d' h => ?_⟩
  by_cases hj : i = j
  · subst hj
    by_cases hi : i < ρ.length
    · rw [List.getElem?_set_self hi] at h; cases h
    · rw [List.getElem?_eq_none (by rw [List.length_set]; omega)] at h; cases h
  · rw [List.getElem?_set_ne hj] at h
    rw [List.getElem?_set_ne hj]
    exact re.at_ j d' h
theorem Post.sig {β : Type} {σ σ' : L2.St} {α : List Addr} {H : Hp} {r : R β} {Φ : List Addr → Hp → β → Mem → Prop} (h : Post P (xW E) σ α H r Φ) : Post P (xW E) σ' α H r Φ := by
  cases r <;> exact h
theorem dg_name {i : Nat} {x : Str} (hN : X.N.Nodup) (hi : X.N[i]? = some x) (hx : Loc X.env.scope x) (hf : X.fn x = true ∨ X.env.scope.names.lookup x = some .local) : PG X (.Name x pos) (tG P W (gN i)) :=
  (pg_name hN hi hx hf).weaken fun v σ H Q ⟨α, ρ, m, d, rm, re, rv, h⟩ => h α H Ext.refl rm _ (re.set rv i)
theorem dgs_nil : PGs X [] (tGs P (xW E) gsNil) := by
  have h := pgs_nil (X := X)
  refine ⟨fun pins s σ H vs us Q I r ⟨α, ρ, m, ds, rm, re, rs, q⟩ => h.run pins s σ H vs us Q I r ?_⟩
  unfold gsNil at q
  cases rs with
  | nil => exact ⟨rfl, q α H Ext.refl rm _ re⟩
  | cons _ _ => exact False.elim q
theorem dgs_cons {gg : GG} {gs : GGs} (h1 : PG X e (tG P (xW E) gg)) (h2 : PGs X es (tGs P (xW E) gs)) (hs : (assignEach (e :: es) X.env).map (·.2) = assign e X.env :: (assignEach es X.env).map (·.2) := by rfl) : PGs X (e :: es) (tGs P (xW E) (gsCons gg gs)) := by
  have h := pgs_cons h1 h2 hs
  refine ⟨fun pins s σ H vs us Q I r ⟨α, ρ, m, ds, rm, re, rs, q⟩ => h.run pins s σ H vs us Q I r ?_⟩
  unfold gsCons at q
  cases rs with
  | nil => exact False.elim q
  | cons r0 rs =>
    refine ⟨_, _, rfl, α, ρ, m, _, rm, re, r0, q.bind.mono fun α1 H1 ρ1 m1 e1 r1 p1 σ1 re1 => ?_⟩
    exact ⟨α1, ρ1, m1, _, r1, re1, rs.mono e1, p1.sig⟩
theorem dg_tup {gs : GGs} {k n : Nat} (hK : P.K = X.K) (hc : X.calm = true) (h : PGs X es (tGs P (xW E) gs)) (hn : (assignEach es X.env).length = n := by rfl) (hst : (assignEach es X.env).findIdx? (·.1) = none := by rfl) :
    PG X (.Tuple es k pos) (tG P (xW E) (gT n gs)) :=
  (pg_tup hc h hn hst).weaken fun v σ H Q ⟨α, ρ, m, d, rm, re, rv, q⟩ => by
    unfold gT at q
    cases rv with
    | tup t rs =>
      dsimp only at q
      split at q
      · rename_i hz
        exact ⟨_, _, rfl, by rw [← hK]; exact t, by rw [rs.length]; exact hz, α, ρ, m, _, rm, re, rs, q⟩
      · exact False.elim q
    | _ => exact False.elim q
def rSet (P : Pm) : TSet := fun o i v H Q => ∃ α m d1 d2 d3, RM P α H m ∧ RD P α H o d1 ∧ RD P α H i d2 ∧ RD P α H v d3 ∧ (match setD d1 d2 d3 m with
  | some m' => ∀ α' H', Ext P α H α' H' → RM P α' H' m' → Q H'
  | none => False)
theorem set_D : PSet X (rSet P) := by
  intro pins s σ H o i v ov iv u Q I ro ri rv ⟨α, m, d1, d2, d3, rm, r1, r2, r3, h⟩
  unfold setD at h
  split at h
  · rename_i m' hm
    split at hm
    · rename_i n k
      cases r2
      cases r1 with
      | @ref a n ha =>
        split at hm
        · rename_i xs e1
          cases e2 : ixN xs.length k with
          | none => rw [e2] at hm; cases hm
          | some j =>
            rw [e2] at hm
            cases hm
            obtain ⟨vs, e3, rs⟩ := rm.cell n _ a e1 ha
            refine set_list pins s σ H _ _ v ov iv u Q I ro ri rv ⟨a, vs, k, j, rfl, rfl, e3, by rw [rs.length]; exact e2, ?_⟩
            have ex : Ext P α H α (upd H a (.lst (vs.set j v))) := Ext.write (List.mem_of_getElem? ha) (by rw [e3]; trivial)
            exact h α _ ex (rm.write ha ⟨_, upd_same, (rs.set r3 j).mono ex⟩)
        · cases hm
    · cases hm
  · exact False.elim h
theorem dg_sub {o i : Expr} {go gi : G} (ho : PE X o (tE P (xW E) go)) (hi : PE X i (tE P (xW E) gi))
    (ha : ∀ v, assign (.Subscript o i pos) X.env v = (do
      let ov ← holding [v] (eval o X.env)
      let iv ← holding [v, ov] (eval i X.env)
      standAt pos
      holding [v, ov, iv] (setItem ov iv v)
      release [v, ov, iv] []) := by intro _; rfl) : PG X (.Subscript o i pos) (tG P (xW E) (gSb go gi)) :=
  (pg_sub ho hi (set_D (P := P)) ha).weaken fun v σ H Q ⟨α, ρ, m, d, rm, re, rv, q⟩ => by
    refine tE_bind rm re q fun α1 H1 d1 m1 e1 r1 p1 v1 rv1 => ?_
    refine tE_bind r1 (re.mono e1) p1 fun α2 H2 d2 m2 e2 r2 p2 v2 rv2 => ?_
    refine ⟨α2, m2, d1, d2, d, r2, rv1.mono e2, rv2, (rv.mono e1).mono e2, ?_⟩
    cases es : setD d1 d2 d m2 with
    | none => rw [es] at p2; exact p2
    | some m3 =>
      rw [es] at p2
      exact fun α3 H3 e3 r3 => p2 α3 H3 e3 r3 σ (((re.mono e1).mono e2).mono e3)

/-! ### 10. statements -/
def tS (P : Pm) (E : XK) (g : GS) : TS := fun D σ H => ∃ α ρ m, RM P α H m ∧ RE P α H ρ σ ∧ Post P (xW E) σ α H (g ρ m) fun α' H' f _ => flD P D α' H' f
def sNil : GS := fun ρ m => .ok (.nx ρ) m
def contK (b : GS) (f : Fl) (m : Mem) : R Fl := match f with
  | .nx ρ => b ρ m
  | .ret d => .ok (.ret d) m
  | .brk ρ => .ok (.brk ρ) m
  | .cnt ρ => .ok (.cnt ρ) m
def sSeq (a b : GS) : GS := fun ρ m => (a ρ m).bind fun f m => contK b f m
def sBrk : GS := fun ρ m => .ok (.brk ρ) m
def sCnt : GS := fun ρ m => .ok (.cnt ρ) m
def sRet (g : G) : GS := fun ρ m => (g ρ m).bind fun d m => .ok (.ret d) m
def sRetN : GS := fun ρ m => .ok (.ret .non) m
def sExpr (g : G) : GS := fun ρ m => (g ρ m).bind fun _ m => .ok (.nx ρ) m
def sAsg (g : G) (t : GG) : GS := fun ρ m => (g ρ m).bind fun d m => (t d ρ m).bind fun ρ m => .ok (.nx ρ) m
def sPar (i j : Nat) (a b : G) : GS := fun ρ m => (a ρ m).bind fun x m => (b ρ m).bind fun y m => .ok (.nx ((ρ.set i (some x)).set j (some y))) m
def sIf (t : GT) (a b : GS) : GS := fun ρ m => (t ρ m).bind fun k m => if k = true then a ρ m else b ρ m
def sAug (f : D → D → Mem → Option (D × Mem)) (i : Nat) (g : G) : GS := fun ρ m => (eVar i ρ m).bind fun x m => (g ρ m).bind fun y m => (R.of (f x y m)).bind fun z m => .ok (.nx (ρ.set i (some z))) m
theorem ds_nil : PSs X [] (tS P E sNil) := pss_nil.weaken fun D σ H ⟨α, ρ, m, rm, re, q⟩ => q α H Ext.refl rm _ re
theorem ds_pass : PS X (.Pass pos) (tS P E sNil) := ps_pass.weaken fun D σ H ⟨α, ρ, m, rm, re, q⟩ => q α H Ext.refl rm _ re
theorem ds_doc {x : Str} {j : Nat} {p : Pos} : PS X (.Expr (.Constant (.str x) j p) pos) (tS P E sNil) := ps_doc.weaken fun D σ H ⟨α, ρ, m, rm, re, q⟩ => q α H Ext.refl rm _ re
theorem ds_break : PS X (.Break pos) (tS P E sBrk) := ps_break.weaken fun D σ H ⟨α, ρ, m, rm, re, q⟩ => q α H Ext.refl rm _ re
theorem ds_continue : PS X (.Continue pos) (tS P E sCnt) := ps_continue.weaken fun D σ H ⟨α, ρ, m, rm, re, q⟩ => q α H Ext.refl rm _ re
theorem ds_cons {st : Stmt} {sts : List Stmt} {g1 g2 : GS} (h1 : PS X st (tS P E g1)) (h2 : PSs X sts (tS P E g2)) : PSs X (st :: sts) (tS P E (sSeq g1 g2)) :=
  (pss_cons h1 h2).weaken fun D σ H ⟨α, ρ, m, rm, re, q⟩ => by
    refine ⟨α, ρ, m, rm, re, q.bind.mono fun α1 H1 f m1 e1 r1 p1 => ?_⟩
    unfold contK at p1
    cases f with
    | nx ρ1 => exact fun σ1 re1 => ⟨α1, ρ1, m1, r1, re1, p1.sig⟩
    | ret d => exact p1 α1 H1 Ext.refl r1
    | brk ρ1 => exact p1 α1 H1 Ext.refl r1
    | cnt ρ1 => exact p1 α1 H1 Ext.refl r1
theorem ds_one {st : Stmt} {g1 : GS} (h1 : PS X st (tS P E g1)) : PSs X [st] (tS P E g1) := pss_one h1
theorem ds_expr (he : PE X e (tE P (xW E) g)) (hs : swapsWith e none pos.line X.env = pure false := by rfl) : PS X (.Expr e pos) (tS P E (sExpr g)) :=
  (ps_expr he hs).weaken fun D σ H ⟨α, ρ, m, rm, re, q⟩ => by
    refine tE_bind rm re q fun α1 H1 d m1 e1 r1 p1 v rv => ?_
    exact p1 α1 H1 Ext.refl r1 σ (re.mono e1)
theorem ds_ret (he : PE X e (tE P (xW E) g)) : PS X (.Return (some e) pos) (tS P E (sRet g)) :=
  (ps_ret he).weaken fun D σ H ⟨α, ρ, m, rm, re, q⟩ => by
    refine tE_bind rm re q fun α1 H1 d m1 e1 r1 p1 v rv => ?_
    exact p1 α1 H1 Ext.refl r1 v rv
theorem ds_retN : PS X (.Return none pos) (tS P E sRetN) := ps_retN.weaken fun D σ H ⟨α, ρ, m, rm, re, q⟩ => q α H Ext.refl rm _ .non
theorem ds_asg {tg : Expr} {gg : GG} (he : PE X e (tE P (xW E) g)) (hg : PG X tg (tG P (xW E) gg)) (hs : swapsWithSole [tg] e pos.line X.env = pure false := by rfl) (hw : swappedStores [tg] e X.env = pure none := by rfl)
    (h1 : (assignEach [tg] X.env).map (·.2) = [assign tg X.env] := by rfl) : PS X (.Assign [tg] e pos) (tS P E (sAsg g gg)) :=
  (ps_asg he hg hs hw h1).weaken fun D σ H ⟨α, ρ, m, rm, re, q⟩ => by
    refine tE_bind rm re q fun α1 H1 d m1 e1 r1 p1 v rv => ?_
    refine ⟨α1, ρ, m1, d, r1, re.mono e1, rv, p1.bind.mono fun α2 H2 ρ2 m2 e2 r2 p2 σ2 re2 => ?_⟩
    exact p2 α2 H2 Ext.refl r2 σ2 re2
theorem ds_set {i : Nat} {x : Str} {pos' : Pos} (hN : X.N.Nodup) (hi : X.N[i]? = some x) (hx : Loc X.env.scope x) (he : PE X e (tE P (xW E) g)) (hf : X.fn x = true ∨ X.env.scope.names.lookup x = some .local) (hs : swapsWith e (some (.Name x pos')) pos.line X.env = pure false := by rfl) :
    PS X (.Assign [.Name x pos'] e pos) (tS P E (sAsg g (gN i))) :=
  (ps_set hN hi hx he hs hf).weaken fun D σ H ⟨α, ρ, m, rm, re, q⟩ => by
    refine tE_bind rm re q fun α1 H1 d m1 e1 r1 p1 v rv => ?_
    exact p1 α1 H1 Ext.refl r1 _ ((re.mono e1).set rv i)
theorem ds_par {i j : Nat} {x y : Str} {a b : Expr} {px py pt : Pos} {kt k2 : Nat} {pt2 : Pos} (hc : X.calm = true) (hN : X.N.Nodup) (hi : X.N[i]? = some x) (hj : X.N[j]? = some y) (hij : i ≠ j)
    (hx : X.env.scope.names.lookup x = some .local) (hy : X.env.scope.names.lookup y = some .local) (ha : PE X a (tE P (xW E) ga)) (hb : PE X b (tE P (xW E) gb))
    (hw : swappedStores [.Tuple [.Name x px, .Name y py] kt pt] (.Tuple [a, b] k2 pt2) X.env = pure (some [x, y]))
    (hs1 : starEach [a, b] X.env = (false, eval a X.env) :: starEach [b] X.env := by rfl) (hs2 : starEach [b] X.env = (false, eval b X.env) :: starEach [] X.env := by rfl)
    (hs : swapsWithSole [.Tuple [.Name x px, .Name y py] kt pt] (.Tuple [a, b] k2 pt2) pos.line X.env = pure false := by rfl) :
    PS X (.Assign [.Tuple [.Name x px, .Name y py] kt pt] (.Tuple [a, b] k2 pt2) pos) (tS P E (sPar i j ga gb)) :=
  (ps_par hc hN hi hj hij hx hy (pa_cons ha (pa_cons hb pa_nil hs2) hs1) hw hs).weaken fun D σ H ⟨α, ρ, m, rm, re, q⟩ => by
    refine tE_bind rm re q fun α1 H1 d1 m1 e1 r1 p1 v1 rv1 => ?_
    refine tE_bind r1 (re.mono e1) p1 fun α2 H2 d2 m2 e2 r2 p2 v2 rv2 => ?_
    exact ⟨v1, v2, rfl, p2 α2 H2 Ext.refl r2 _ ((((re.mono e1).mono e2).set (rv1.mono e2) i).set rv2 j)⟩
theorem ds_if {c : Expr} {a b : List Stmt} {g1 g2 : GS} (hc : PT X c (tT P (xW E) t)) (ha : PSs X a (tS P E g1)) (hb : PSs X b (tS P E g2)) : PS X (.If c a b pos) (tS P E (sIf t g1 g2)) :=
  (ps_if hc ha hb).weaken fun D σ H ⟨α, ρ, m, rm, re, q⟩ => by
    refine tT_bind rm re q fun α1 H1 k m1 e1 r1 p1 => ?_
    cases k with
    | true => exact ⟨α1, ρ, m1, r1, re.mono e1, p1⟩
    | false => exact ⟨α1, ρ, m1, r1, re.mono e1, p1⟩
def rIp (P : Pm) (f : D → D → Mem → Option (D × Mem)) : TIp := rO P f
theorem ds_aug {i : Nat} {x : Str} {op : Operator} {f : D → D → Mem → Option (D × Mem)} {pos' : Pos} (hN : X.N.Nodup) (hi : X.N[i]? = some x) (hx : Loc X.env.scope x) (he : PE X e (tE P (xW E) g)) (ho : PIp X op (rO P f)) (hf : X.fn x = true ∨ X.env.scope.names.lookup x = some .local) :
    PS X (.AugAssign (.Name x pos') op e pos) (tS P E (sAug f i g)) :=
  (ps_aug hN hi hx he ho hf).weaken fun D σ H ⟨α, ρ, m, rm, re, q⟩ => by
    have q0 : Post P (xW E) σ α H ((eVar i ρ m).bind fun x m => (g ρ m).bind fun y m => (R.of (f x y m)).bind fun z m => .ok (.nx (ρ.set i (some z))) m) (fun α' H' f _ => flD P D α' H' f) := q
    unfold eVar at q0
    cases ei : ρ[i]? with
    | none => rw [ei] at q0; exact False.elim q0
    | some o =>
      cases o with
      | none => rw [ei] at q0; exact False.elim q0
      | some d =>
        rw [ei] at q0
        obtain ⟨v, h1, h2⟩ := re.at_ i d ei
        refine ⟨v, h1, ?_⟩
        refine tE_bind rm re q0 fun α1 H1 d1 m1 e1 r1 p1 v1 rv1 => ?_
        refine ⟨α1, m1, d, d1, r1, h2.mono e1, rv1, ?_⟩
        cases ef : f d d1 m1 with
        | none => rw [ef] at p1; exact False.elim p1
        | some z =>
          rw [ef] at p1
          obtain ⟨z, mz⟩ := z
          intro α2 H2 e2 r2 v2 rv2
          exact p1 α2 H2 e2 r2 _ (((re.mono e1).mono e2).set rv2 i)
def iaddD (x y : D) (m : Mem) : Option (D × Mem) :=
  match x, y with
  | .int i, .int j => some (.int (i + j), m)
  | _, _ => none
theorem ip_addD : PIp X .Add (rO P iaddD) := by
  intro pins s σ H x y v u Q I rx ry ⟨α, m, dx, dy, rm, r1, r2, h⟩
  unfold iaddD at h
  split at h
  · cases r1; cases r2
    exact ip_add pins s σ H _ _ v u Q I rx ry ⟨_, _, rfl, rfl, h α H Ext.refl rm _ (.int _)⟩
  · exact False.elim h
theorem ip_subD : PIp X .Sub (rO P subD) := by
  intro pins s σ H x y v u Q I rx ry ⟨α, m, dx, dy, rm, r1, r2, h⟩
  unfold subD at h
  split at h
  · cases r1; cases r2
    exact ip_sub pins s σ H _ _ v u Q I rx ry ⟨_, _, rfl, rfl, h α H Ext.refl rm _ (.int _)⟩
  · exact False.elim h

/-! ### 11. loops -/
structure Itn where
  items : List D
  live : List (Nat × List D)
def LiveOk (m : Mem) (l : List (Nat × List D)) : Prop := ∀ p ∈ l, lstOf m p.1 = some p.2
structure ItOk (P : Pm) (α : List Addr) (H : Hp) (J : It) (it : Itn) : Prop where
  go : ∀ i α1 H1 m d, Ext P α H α1 H1 → RM P α1 H1 m → LiveOk m it.live → it.items[i]? = some d → J.go i H1 ∧ ∀ v H2, J.yld i H1 v H2 → Ext P α1 H1 α1 H2 ∧ RM P α1 H2 m ∧ RD P α1 H2 v d ∧ ∀ b o, H1 b = some o → H2 b = some o
  stop : ∀ i α1 H1 m, Ext P α H α1 H1 → RM P α1 H1 m → LiveOk m it.live → it.items.length ≤ i → J.stop i H1
abbrev GI := Env → Mem → R Itn
def iD (P : Pm) (W : WX) (gi : GI) : TI := fun σ H R => ∃ α ρ m, RM P α H m ∧ RE P α H ρ σ ∧ Post P W σ α H (gi ρ m) fun α' H' it _ => ∀ J, ItOk P α' H' J it → R J H'
open Classical in
noncomputable def forG (l : List (Nat × List D)) (tg : GG) (body : GS) : List D → Env → Mem → R Fl
  | [], ρ, m => if LiveOk m l then .ok (.nx ρ) m else .bad
  | x :: xs, ρ, m => if LiveOk m l then (gcF m ((tg x ρ m).bind fun ρ1 m1 => body ρ1 m1)).bind fun f m2 => match f with
      | .nx ρ2 => forG l tg body xs ρ2 m2
      | .cnt ρ2 => forG l tg body xs ρ2 m2
      | .brk ρ2 => .ok (.nx ρ2) m2
      | .ret d => .ok (.ret d) m2
    else .bad
noncomputable def sFor (gi : GI) (tg : GG) (body : GS) : GS := fun ρ m => (gi ρ m).bind fun it m1 => forG it.live tg body it.items ρ m1
theorem Post.gcF {σ : L2.St} {α : List Addr} {H : Hp} {m : Mem} {r : R Fl} {Ψ : List Addr → Hp → Fl → Mem → Prop} (rm : RM P α H m) (h : Post P W σ α H (gcF m r) Ψ)
    (ks : ∀ γ H' f m', Ext P α H (α ++ γ) H' → RM P (α ++ γ) H' m' → Fl.fits α.length f = true → RM P α H' (m'.take m.length) → Ext P α H α H' → Ψ α H' f (m'.take m.length) → Ψ (α ++ γ) H' f m') : Post P W σ α H r Ψ :=
  Post.gc rm h (fun _ _ _ _ _ _ q => q) ks
theorem ds_for {tg iter : Expr} {body : List Stmt} {gi : GI} {gg : GG} {gb : GS} (hp : PassesOwn (model X.prog X.w) X.A X.env X.xe) (hc : X.calm = true) (hi : PI X tg iter (iD P (xW E) gi)) (hg : PG X tg (tG P (xW E) gg)) (hb : PSs X body (tS P E gb)) (hs : ∀ x, foldedSetIterable iter X.env x = pure x := by intro _; rfl) :
    PS X (.For tg iter body [] pos) (tS P E (sFor gi gg gb)) :=
  (ps_for hp hc hi hg hb hs).weaken fun D σ H ⟨α, ρ, m, rm, re, q⟩ => by
    refine ⟨α, ρ, m, rm, re, q.bind.mono fun α1 H1 it m1 e1 r1 p1 J ok => ?_⟩
    refine ⟨fun i k σ H => k = it.items.length - i ∧ i ≤ it.items.length ∧ ∃ α' ρ m, Ext P α1 H1 α' H ∧ RM P α' H m ∧ RE P α' H ρ σ ∧ Post P (xW E) σ α' H (forG it.live gg gb (it.items.drop i) ρ m) (fun α' H' f _ => flD P D α' H' f),
      ⟨it.items.length, by omega, by omega, α1, ρ, m1, Ext.refl, r1, re.mono e1, by rw [List.drop_zero]; exact p1⟩, ?_⟩
    rintro i k σ2 H2 ⟨rfl, hi, α2, ρ2, m2, e2, r2, re2, p2⟩
    by_cases hlt : i < it.items.length
    · obtain ⟨d, hd⟩ : ∃ d, it.items[i]? = some d := ⟨it.items[i], List.getElem?_eq_getElem hlt⟩
      have hdrop : it.items.drop i = d :: it.items.drop (i + 1) := by
        rw [List.drop_eq_getElem_cons hlt]
        rw [List.getElem?_eq_getElem hlt] at hd
        rw [Option.some.inj hd]
      rw [hdrop] at p2
      unfold forG at p2
      split at p2
      · rename_i hl
        obtain ⟨g1, g2⟩ := ok.go i α2 H2 m2 d e2 r2 hl hd
        refine .inr ⟨g1, fun σ' H' => ∃ k', k' < it.items.length - i ∧ (k' = it.items.length - (i + 1) ∧ i + 1 ≤ it.items.length ∧ ∃ α' ρ m, Ext P α1 H1 α' H' ∧ RM P α' H' m ∧ RE P α' H' ρ σ' ∧ Post P (xW E) σ' α' H' (forG it.live gg gb (it.items.drop (i + 1)) ρ m) (fun α' H' f _ => flD P D α' H' f)),
          fun σ' H' h => h, fun v H3 y => ?_⟩
        obtain ⟨e3, r3, rv, _⟩ := g2 v H3 y
        have p3 := Post.gcF (Ψ := fun α' H' f m' => match f with
            | .nx ρ' => ∀ σ', RE P α' H' ρ' σ' → ∃ α2 m, Ext P α1 H1 α2 H' ∧ RM P α2 H' m ∧ RE P α2 H' ρ' σ' ∧ Post P (xW E) σ' α2 H' (forG it.live gg gb (it.items.drop (i + 1)) ρ' m) (fun α' H' f _ => flD P D α' H' f)
            | .cnt ρ' => ∀ σ', RE P α' H' ρ' σ' → ∃ α2 m, Ext P α1 H1 α2 H' ∧ RM P α2 H' m ∧ RE P α2 H' ρ' σ' ∧ Post P (xW E) σ' α2 H' (forG it.live gg gb (it.items.drop (i + 1)) ρ' m) (fun α' H' f _ => flD P D α' H' f)
            | .brk ρ' => ∀ σ', RE P α' H' ρ' σ' → D.nx σ' H'
            | .ret d => ∀ v, RD P α' H' v d → D.rt v H') r3 ((p2.bind.mono fun α' H' f m' e' r' p => by
          cases f with
          | nx ρ' => exact fun σ' re' => ⟨α', m', e2.trans e', r', re', p.sig⟩
          | cnt ρ' => exact fun σ' re' => ⟨α', m', e2.trans e', r', re', p.sig⟩
          | brk ρ' => exact fun σ' re' => p α' H' Ext.refl r' σ' re'
          | ret d => exact p α' H' Ext.refl r').from e3) (fun γ H' f m' e' r' hf r'' e'' p => by
          cases f with
          | nx ρ' => exact fun σ' re' => p σ' (re'.shrink hf)
          | cnt ρ' => exact fun σ' re' => p σ' (re'.shrink hf)
          | brk ρ' => exact fun σ' re' => p σ' (re'.shrink hf)
          | ret d => exact fun v rv => p v (rv.shrink hf))
        refine ⟨α2, ρ2, m2, d, r3, re2.mono e3, rv, p3.bind.mono fun α4 H4 ρ4 m4 e4 r4 p4 σ4 re4 => ?_⟩
        refine ⟨α4, ρ4, m4, r4, re4, p4.sig.mono fun α5 H5 f m5 e5 r5 p5 => ?_⟩
        have fin : ∀ {ρ' : Env}, (∀ σ', RE P α5 H5 ρ' σ' → ∃ α2 m, Ext P α1 H1 α2 H5 ∧ RM P α2 H5 m ∧ RE P α2 H5 ρ' σ' ∧ Post P (xW E) σ' α2 H5 (forG it.live gg gb (it.items.drop (i + 1)) ρ' m) (fun α' H' f _ => flD P D α' H' f)) →
            ∀ σ', RE P α5 H5 ρ' σ' → ∃ k', k' < it.items.length - i ∧ (k' = it.items.length - (i + 1) ∧ i + 1 ≤ it.items.length ∧ ∃ α' ρ m, Ext P α1 H1 α' H5 ∧ RM P α' H5 m ∧ RE P α' H5 ρ σ' ∧ Post P (xW E) σ' α' H5 (forG it.live gg gb (it.items.drop (i + 1)) ρ m) (fun α' H' f _ => flD P D α' H' f)) := fun {ρ'} h σ' re' => by
          obtain ⟨a6, m6, x1, x2, x3, x4⟩ := h σ' re'
          exact ⟨_, by omega, rfl, by omega, a6, ρ', m6, x1, x2, x3, x4⟩
        cases f with
        | nx ρ' => exact fin p5
        | cnt ρ' => exact fin p5
        | brk ρ' => exact p5
        | ret d => exact p5
      · exact False.elim p2
    · have hi2 : it.items.length ≤ i := Nat.le_of_not_lt hlt
      rw [List.drop_eq_nil_of_le hi2] at p2
      unfold forG at p2
      split at p2
      · rename_i hl
        exact .inl ⟨ok.stop i α2 H2 m2 e2 r2 hl hi2, p2 α2 H2 Ext.refl r2 σ2 re2⟩
      · exact False.elim p2
/-! while -/
noncomputable def whileG (t : GT) (body : GS) : Nat → Env → Mem → R Fl
  | 0, _, _ => .bad
  | k + 1, ρ, m => (t ρ m).bind fun b m1 => if b = true then (gcF m1 (body ρ m1)).bind fun f m2 => match f with
      | .nx ρ2 => whileG t body k ρ2 m2
      | .cnt ρ2 => whileG t body k ρ2 m2
      | .brk ρ2 => .ok (.nx ρ2) m2
      | .ret d => .ok (.ret d) m2
    else .ok (.nx ρ) m1
@[irreducible] def whileTop : Nat := 18446744073709551616
noncomputable def sWhile (t : GT) (body : GS) : GS := fun ρ m => whileG t body whileTop ρ m
theorem ds_while {c : Expr} {body : List Stmt} {gb : GS} (hp : PassesOwn (model X.prog X.w) X.A X.env X.xe) (hc : PT X c (tT P (xW E) t)) (hb : PSs X body (tS P E gb)) : PS X (.While c body [] pos) (tS P E (sWhile t gb)) :=
  (ps_while hp hc hb).weaken fun D σ H ⟨α, ρ, m, rm, re, q⟩ => by
    refine ⟨fun k σ H => ∃ α ρ m, RM P α H m ∧ RE P α H ρ σ ∧ Post P (xW E) σ α H (whileG t gb k ρ m) (fun α' H' f _ => flD P D α' H' f), ⟨whileTop, α, ρ, m, rm, re, q⟩, ?_⟩
    rintro k σ1 H1 ⟨α1, ρ1, m1, r1, re1, p1⟩
    cases k with
    | zero => exact False.elim p1
    | succ k =>
      unfold whileG at p1
      refine tT_bind r1 re1 p1 fun α2 H2 b m2 e2 r2 p2 => ?_
      cases b with
      | false =>
        rw [if_neg Bool.false_ne_true] at p2 ⊢
        exact p2 α2 H2 Ext.refl r2 _ (re1.mono e2)
      | true =>
        rw [if_pos rfl] at p2 ⊢
        refine ⟨fun σ' H' => ∃ α ρ m, RM P α H' m ∧ RE P α H' ρ σ' ∧ Post P (xW E) σ' α H' (whileG t gb k ρ m) (fun α' H' f _ => flD P D α' H' f), fun σ' H' h => ⟨k, by omega, h⟩, ?_⟩
        have p3 := Post.gcF (Ψ := fun α' H' f m' => match f with
            | .nx ρ' => ∀ σ', RE P α' H' ρ' σ' → ∃ α2 m, RM P α2 H' m ∧ RE P α2 H' ρ' σ' ∧ Post P (xW E) σ' α2 H' (whileG t gb k ρ' m) (fun α' H' f _ => flD P D α' H' f)
            | .cnt ρ' => ∀ σ', RE P α' H' ρ' σ' → ∃ α2 m, RM P α2 H' m ∧ RE P α2 H' ρ' σ' ∧ Post P (xW E) σ' α2 H' (whileG t gb k ρ' m) (fun α' H' f _ => flD P D α' H' f)
            | .brk ρ' => ∀ σ', RE P α' H' ρ' σ' → D.nx σ' H'
            | .ret d => ∀ v, RD P α' H' v d → D.rt v H') r2 (p2.bind.mono fun α' H' f m' e' r' p => by
          cases f with
          | nx ρ' => exact fun σ' re' => ⟨α', m', r', re', p.sig⟩
          | cnt ρ' => exact fun σ' re' => ⟨α', m', r', re', p.sig⟩
          | brk ρ' => exact fun σ' re' => p α' H' Ext.refl r' σ' re'
          | ret d => exact p α' H' Ext.refl r') (fun γ H' f m' e' r' hf r'' e'' p => by
          cases f with
          | nx ρ' => exact fun σ' re' => p σ' (re'.shrink hf)
          | cnt ρ' => exact fun σ' re' => p σ' (re'.shrink hf)
          | brk ρ' => exact fun σ' re' => p σ' (re'.shrink hf)
          | ret d => exact fun v rv => p v (rv.shrink hf))
        refine ⟨α2, ρ1, m2, r2, re1.mono e2, p3.mono fun α5 H5 f m5 e5 r5 p5 => ?_⟩
        cases f with
        | nx ρ' => exact fun σ' re' => let ⟨a, m, x⟩ := p5 σ' re'; ⟨a, ρ', m, x⟩
        | cnt ρ' => exact fun σ' re' => let ⟨a, m, x⟩ := p5 σ' re'; ⟨a, ρ', m, x⟩
        | brk ρ' => exact p5
        | ret d => exact p5
end
end Dw

namespace Dw
open PySem PySem.Spec PyProof.Rows L2

/-! ### 12. what is walked -/
def iSeq (g : G) : GI := fun ρ m => (g ρ m).bind fun d m => match d with
  | .tup xs => .ok ⟨xs, []⟩ m
  | .ref n => match lstOf m n with
    | some xs => .ok ⟨xs, [(n, xs)]⟩ m
    | none => .bad
  | .str z => .ok ⟨z.cps.toList.map fun c => .str ⟨#[c]⟩, []⟩ m
  | _ => .bad
def rngD (lo : Int) (n : Nat) : List D := (List.range n).map fun (k : Nat) => D.int (lo + (k : Int))
def iRg1 (a : G) : GI := fun ρ m => (a ρ m).bind fun d m => match d with
  | .int j => if -(2 ^ 62) ≤ j ∧ j < 2 ^ 62 then .ok ⟨rngD 0 j.toNat, []⟩ m else .bad
  | _ => .bad
def rg2 (d e : D) (m : Mem) : R Itn := match d, e with
  | .int i, .int j => if -(2 ^ 62) ≤ i ∧ i < 2 ^ 62 ∧ -(2 ^ 62) ≤ j ∧ j < 2 ^ 62 then .ok ⟨rngD i (j - i).toNat, []⟩ m else .bad
  | _, _ => .bad
def iRg2 (a b : G) : GI := fun ρ m => (a ρ m).bind fun d m => (b ρ m).bind fun e m => rg2 d e m
def zip2 (d e : D) (m : Mem) : R Itn := match d, e with
  | .tup xs, .tup ys => .ok ⟨(xs.zip ys).map fun p => .tup [p.1, p.2], []⟩ m
  | .ref i, .ref j => match lstOf m i, lstOf m j with
    | some xs, some ys => .ok ⟨(xs.zip ys).map fun p => .tup [p.1, p.2], [(i, xs), (j, ys)]⟩ m
    | _, _ => .bad
  | _, _ => .bad
def iZip (a b : G) : GI := fun ρ m => (a ρ m).bind fun d m => (b ρ m).bind fun e m => zip2 d e m
section
variable {X : Cx} {P : Pm} {W : WX} {E : XK} {tg e e2 a b : Expr} {es : List Expr} {pos p tpos : Pos} {ga g : G} {ta : GA}
theorem _root_.L2.PI.weaken {w w' : TI} (h : PI X tg e w) (k : ∀ σ H R, w' σ H R → w σ H R) : PI X tg e w' := ⟨fun pins s σ H R I q => h.run pins s σ H R I (k _ _ _ q)⟩
theorem _root_.L2.PI.or {w w' : TI} (h : PI X tg e w) (h' : PI X tg e w') : PI X tg e fun σ H R => w σ H R ∨ w' σ H R := ⟨fun pins s σ H R I q => q.elim (h.run pins s σ H R I) (h'.run pins s σ H R I)⟩
theorem di_seq (hK : P.K = X.K) (he : PE X e (tE P W g)) : PI X tg e (iD P W (iSeq g)) :=
  (((pi_list he).or (pi_tup he)).or (pi_str he)).weaken fun σ H Q ⟨α, ρ, m, rm, re, h⟩ => by
    unfold iSeq at h
    cases hg : g ρ m with
    | bad => rw [hg] at h; exact False.elim h
    | exc c fs m1 => exact .inl (.inl ⟨α, ρ, m, rm, re, by rw [hg] at h ⊢; exact h⟩)
    | ok d m1 =>
      rw [hg] at h
      cases d with
      | tup xs =>
        refine .inl (.inr ⟨α, ρ, m, rm, re, ?_⟩)
        rw [hg]
        intro α1 H1 e1 r1 v rv
        cases rv with
        | @tup ad vs ds t rs =>
          have t' : SqT X.K H1 ad vs := by rw [← hK]; exact t
          refine ⟨ad, rfl, ⟨vs, t'⟩, h α1 H1 e1 r1 _ ⟨fun i α2 H2 m2 d e2 r2 l hd => ?_, fun i α2 H2 m2 e2 r2 l hi => ?_⟩⟩
          · have t2 : SqT X.K H2 ad vs := by have := e2.tup _ _ t; rw [hK] at this; exact this
            obtain ⟨v, h3, h4⟩ := rs.get hd
            refine ⟨⟨vs, v, t2, h3⟩, fun w H3 y => ?_⟩
            obtain ⟨rfl, y⟩ := y
            have z := y vs t2
            rw [h3] at z
            cases z
            exact ⟨Ext.refl, r2, h4.mono e2, fun _ _ h => h⟩
          · have t2 : SqT X.K H2 ad vs := by have := e2.tup _ _ t; rw [hK] at this; exact this
            exact ⟨vs, t2, by rw [rs.length]; exact hi⟩
      | ref n =>
        dsimp only [Dw.R.bind_ok] at h
        cases hl : lstOf m1 n with
        | none => rw [hl] at h; exact False.elim h
        | some xs =>
          rw [hl] at h
          refine .inl (.inl ⟨α, ρ, m, rm, re, ?_⟩)
          rw [hg]
          intro α1 H1 e1 r1 v rv
          cases rv with
          | @ref ad n ha =>
            obtain ⟨vs, q1, q2⟩ := r1.sql hl ha
            refine ⟨ad, rfl, ⟨vs, by rw [← hK]; exact q1⟩, h α1 H1 e1 r1 _ ?_⟩
            have get : ∀ α2 H2 m, Ext P α1 H1 α2 H2 → RM P α2 H2 m → LiveOk m [(n, xs)] → ∃ vs, SqL X.K H2 ad vs ∧ RDs P α2 H2 vs xs := fun α2 H2 m e r l => by
              obtain ⟨vs, h1, h2⟩ := r.sql (l _ (List.mem_singleton.mpr rfl)) (e.at_ ha)
              exact ⟨vs, by rw [← hK]; exact h1, h2⟩
            refine ⟨fun i α2 H2 m2 d e2 r2 l hd => ?_, fun i α2 H2 m2 e2 r2 l hi => ?_⟩
            · obtain ⟨vs, h1, h2⟩ := get α2 H2 m2 e2 r2 l
              obtain ⟨v, h3, h4⟩ := h2.get hd
              refine ⟨⟨vs, v, h1, h3⟩, fun w H3 y => ?_⟩
              obtain ⟨rfl, y⟩ := y
              have z := y vs h1
              rw [h3] at z
              cases z
              exact ⟨Ext.refl, r2, h4, fun _ _ h => h⟩
            · obtain ⟨vs, h1, h2⟩ := get α2 H2 m2 e2 r2 l
              exact ⟨vs, h1, by rw [h2.length]; exact hi⟩
      | str z =>
        refine .inr ⟨α, ρ, m, rm, re, ?_⟩
        rw [hg]
        intro α1 H1 e1 r1 v rv
        cases rv with
        | str z =>
          refine ⟨z, rfl, h α1 H1 e1 r1 _ ⟨fun i α2 H2 m2 d e2 r2 l hd => ?_, fun i α2 H2 m2 e2 r2 l hi => ?_⟩⟩
          · rw [List.getElem?_map, Array.getElem?_toList] at hd
            cases hc : z.cps[i]? with
            | none => rw [hc] at hd; cases hd
            | some c =>
              rw [hc] at hd
              cases hd
              refine ⟨(Array.getElem?_eq_some_iff.mp hc).1, fun w H3 y => ?_⟩
              obtain ⟨rfl, c', hc', rfl⟩ := y
              rw [hc] at hc'
              cases hc'
              exact ⟨Ext.refl, r2, .str _, fun _ _ h => h⟩
          · have hi2 : (z.cps.toList.map fun c => D.str ⟨#[c]⟩).length ≤ i := hi
            rw [List.length_map, Array.length_toList] at hi2
            exact hi2
      | non => exact False.elim h
      | fl xs => exact False.elim h
      | bl b => exact False.elim h
      | int i => exact False.elim h
theorem itok_range {α : List Addr} {H : Hp} (lo : Int) (n : Nat) : ItOk P α H (Itr lo n) ⟨rngD lo n, []⟩ := by
  have len : (rngD lo n).length = n := by simp [rngD]
  refine ⟨fun i α1 H1 m d e r l hd => ?_, fun i α1 H1 m e r l hi => ?_⟩
  · have hi : i < n := by rw [← len]; exact (List.getElem?_eq_some_iff.mp hd).1
    have hd' : d = .int (lo + (i : Int)) := by
      have : (rngD lo n)[i]? = some (.int (lo + (i : Int))) := by simp [rngD, hi]
      have hd : (rngD lo n)[i]? = some d := hd
      rw [this] at hd
      exact (Option.some.inj hd).symm
    subst hd'
    refine ⟨hi, fun v H2 y => ?_⟩
    obtain ⟨rfl, rfl⟩ := y
    exact ⟨Ext.refl, r, .int _, fun _ _ h => h⟩
  · have hi : (rngD lo n).length ≤ i := hi
    rw [len] at hi
    exact hi
theorem di_range1 (hg : Gl X "range") (hm : X.mg "range" = none) (ha : PE X a (tE P W ga)) (hs : starEach [a] X.env = [(false, eval a X.env)] := by rfl) : PI X tg (.Call (.Name "range" p) [a] [] pos) (iD P W (iRg1 ga)) :=
  (pi_range1 hg hm (pa_cons ha pa_nil hs) hs).weaken fun σ H Q ⟨α, ρ, m, rm, re, h⟩ => by
    refine tE_bind rm re h fun α1 H1 d m1 e1 r1 p1 v rv => ?_
    cases rv with
    | int j =>
      dsimp only at p1
      split at p1
      · rename_i hz
        exact ⟨j, rfl, hz.1, hz.2, p1 α1 H1 Ext.refl r1 _ (itok_range 0 _)⟩
      · exact False.elim p1
    | _ => exact False.elim p1
theorem di_range2 (hg : Gl X "range") (hm : X.mg "range" = none) (ha : PE X a (tE P W ga)) (hb : PE X b (tE P W g)) (hs : starEach [a, b] X.env = [(false, eval a X.env), (false, eval b X.env)] := by rfl) (hs2 : starEach [b] X.env = [(false, eval b X.env)] := by rfl) :
    PI X tg (.Call (.Name "range" p) [a, b] [] pos) (iD P W (iRg2 ga g)) :=
  (pi_range2 hg hm (pa_cons ha (pa_cons hb pa_nil hs2) (by rw [hs, hs2])) hs hs2).weaken fun σ H Q ⟨α, ρ, m, rm, re, h⟩ => by
    refine tE_bind rm re h fun α1 H1 d1 m1 e1 r1 p1 v1 rv1 => ?_
    refine tE_bind r1 (re.mono e1) p1 fun α2 H2 d2 m2 e2 r2 p2 v2 rv2 => ?_
    unfold rg2 at p2
    cases rv1 with
    | int i =>
      cases rv2 with
      | int j =>
        dsimp only at p2
        split at p2
        · rename_i hz
          exact ⟨i, j, rfl, hz, p2 α2 H2 Ext.refl r2 _ (itok_range i _)⟩
        · exact False.elim p2
      | _ => exact False.elim p2
    | _ => exact False.elim p2
theorem zip_get {xs ys : List D} {i : Nat} {d : D} (h : ((xs.zip ys).map fun p => D.tup [p.1, p.2])[i]? = some d) : ∃ x y, xs[i]? = some x ∧ ys[i]? = some y ∧ d = .tup [x, y] := by
  rw [List.getElem?_map] at h
  cases hz : (xs.zip ys)[i]? with
  | none => rw [hz] at h; cases h
  | some p =>
    rw [hz] at h
    cases h
    obtain ⟨h1, h2⟩ := List.getElem?_zip_eq_some.mp hz
    exact ⟨p.1, p.2, h1, h2, rfl⟩
theorem di_zip {elts : List Expr} {kk : Nat} (hK : P.K = X.K) (hg : Gl X "zip") (hm : X.mg "zip" = none) (ha : PE X a (tE P W ga)) (hb : PE X b (tE P W g)) (hs : starEach [a, b] X.env = (false, eval a X.env) :: starEach [b] X.env := by rfl) (hs2 : starEach [b] X.env = (false, eval b X.env) :: starEach [] X.env := by rfl)
    (hpl : (backTo pos (starEach [b] X.env)).any (·.1) = false := by rfl) : PI X (.Tuple elts kk tpos) (.Call (.Name "zip" p) [a, b] [] pos) (iD P W (iZip ga g)) :=
  (RZ.pi_zipA hg hm (pa_cons ha (pa_cons hb pa_nil hs2) hs) hs hpl).weaken fun σ H Q ⟨α, ρ, m, rm, re, h⟩ => by
    refine tE_bind rm re h fun α1 H1 d1 m1 e1 r1 p1 v1 rv1 => ?_
    refine tE_bind r1 (re.mono e1) p1 fun α2 H2 d2 m2 e2 r2 p2 v2 rv2 => ?_
    unfold zip2 at p2
    replace rv1 := rv1.mono e2
    cases rv1 with
    | @tup a1 vs xs t1 q1 =>
      cases rv2 with
      | @tup a2 ws ys t2 q2 =>
        have s1 : SqT X.K H2 a1 vs := by rw [← hK]; exact t1
        have s2 : SqT X.K H2 a2 ws := by rw [← hK]; exact t2
        refine ⟨a1, a2, vs, ws, rfl, .inr ⟨s1, s2, p2 α2 H2 Ext.refl r2 _ ⟨fun i α3 H3 m3 d e3 r3 l hd => ?_, fun i α3 H3 m3 e3 r3 l hi => ?_⟩⟩⟩
        · have z1 : SqT X.K H3 a1 vs := by have := e3.tup _ _ t1; rw [hK] at this; exact this
          have z2 : SqT X.K H3 a2 ws := by have := e3.tup _ _ t2; rw [hK] at this; exact this
          obtain ⟨x, y, h1, h2, rfl⟩ := zip_get hd
          obtain ⟨v, g1, g2⟩ := q1.get h1
          obtain ⟨w, g3, g4⟩ := q2.get h2
          refine ⟨⟨vs, ws, v, w, z1, z2, g1, g3⟩, fun u H4 yl => ?_⟩
          obtain ⟨T, v', w', rfl, hT, rfl, y1, y2⟩ := yl
          have w1 := y1 _ z1
          have w2 := y2 _ z2
          rw [g1] at w1; rw [g3] at w2
          cases w1; cases w2
          exact ⟨Ext.side hT, r3.side hT, .newTup hT (.cons (g2.mono e3) (.cons (g4.mono e3) .nil)), fun b o h => by rw [upd_ne (ne_of_none h hT)]; exact h⟩
        · have z1 : SqT X.K H3 a1 vs := by have := e3.tup _ _ t1; rw [hK] at this; exact this
          have z2 : SqT X.K H3 a2 ws := by have := e3.tup _ _ t2; rw [hK] at this; exact this
          have hi : ((xs.zip ys).map fun p => D.tup [p.1, p.2]).length ≤ i := hi
          rw [List.length_map, List.length_zip] at hi
          refine ⟨vs, ws, z1, z2, ?_⟩
          rw [q1.length, q2.length]
          omega
      | _ => exact False.elim p2
    | @ref a1 n1 h1 =>
      cases rv2 with
      | @ref a2 n2 h2 =>
        dsimp only at p2
        split at p2
        · rename_i xs ys l1 l2
          obtain ⟨vs, t1, q1⟩ := r2.sql l1 h1
          obtain ⟨ws, t2, q2⟩ := r2.sql l2 h2
          refine ⟨a1, a2, vs, ws, rfl, .inl ⟨by rw [← hK]; exact t1, by rw [← hK]; exact t2, p2 α2 H2 Ext.refl r2 _ ?_⟩⟩
          have get : ∀ α3 H3 m, Ext P α2 H2 α3 H3 → RM P α3 H3 m → LiveOk m [(n1, xs), (n2, ys)] → ∃ vs ws, SqL X.K H3 a1 vs ∧ RDs P α3 H3 vs xs ∧ SqL X.K H3 a2 ws ∧ RDs P α3 H3 ws ys := fun α3 H3 m e r l => by
            obtain ⟨vs, g1, g2⟩ := r.sql (l (n1, xs) (by simp)) (e.at_ h1)
            obtain ⟨ws, g3, g4⟩ := r.sql (l (n2, ys) (by simp)) (e.at_ h2)
            exact ⟨vs, ws, by rw [← hK]; exact g1, g2, by rw [← hK]; exact g3, g4⟩
          refine ⟨fun i α3 H3 m3 d e3 r3 l hd => ?_, fun i α3 H3 m3 e3 r3 l hi => ?_⟩
          · obtain ⟨vs, ws, z1, q1, z2, q2⟩ := get α3 H3 m3 e3 r3 l
            obtain ⟨x, y, h1, h2, rfl⟩ := zip_get hd
            obtain ⟨v, g1, g2⟩ := q1.get h1
            obtain ⟨w, g3, g4⟩ := q2.get h2
            refine ⟨⟨vs, ws, v, w, z1, z2, g1, g3⟩, fun u H4 yl => ?_⟩
            obtain ⟨T, v', w', rfl, hT, rfl, y1, y2⟩ := yl
            have w1 := y1 _ z1
            have w2 := y2 _ z2
            rw [g1] at w1; rw [g3] at w2
            cases w1; cases w2
            exact ⟨Ext.side hT, r3.side hT, .newTup hT (.cons g2 (.cons g4 .nil)), fun b o h => by rw [upd_ne (ne_of_none h hT)]; exact h⟩
          · obtain ⟨vs, ws, z1, q1, z2, q2⟩ := get α3 H3 m3 e3 r3 l
            have hi : ((xs.zip ys).map fun p => D.tup [p.1, p.2]).length ≤ i := hi
            rw [List.length_map, List.length_zip] at hi
            refine ⟨vs, ws, z1, z2, ?_⟩
            rw [q1.length, q2.length]
            omega
        · exact False.elim p2
      | _ => exact False.elim p2
    | _ => exact False.elim p2

/-! ### 13. comprehensions -/
/-- a target of names alone, in a comprehension whose own slots are vs -/
structure TgN (P : Pm) (vs : List Nat) (g : TG) (gg : GG) : Prop where
  run : ∀ (α : List Addr) (H : Hp) (m : Mem) (v : V) (d : D) (ρ ρ1 : Env) (m1 : Mem) (σ : L2.St) (Q : L2.St → Hp → Prop), RM P α H m → RD P α H v d → RE P α H ρ σ → gg d ρ m = .ok ρ1 m1 →
    (m1 = m → ∀ σ2, RE P α H ρ1 σ2 → wipe σ2 vs = wipe σ vs → Q σ2 H) → g v σ H Q
  noexc : ∀ (d : D) (ρ : Env) (m : Mem) c fs m1, gg d ρ m ≠ .exc c fs m1
theorem wipe_get : ∀ (l : List Nat) (σ : L2.St) (j : Nat), (wipe σ l)[j]? = if j ∈ l then (if j < σ.length then some none else none) else σ[j]? := by
  intro l σ j
  induction l with
  | nil => rfl
  | cons a l ih =>
    show ((wipe σ l).set a none)[j]? = _
    by_cases ha : a = j
    · subst ha
      rw [if_pos List.mem_cons_self]
      by_cases hl : a < σ.length
      · rw [List.getElem?_set_self (by rw [wipe_length]; exact hl), if_pos hl]
      · rw [List.getElem?_eq_none (by rw [List.length_set, wipe_length]; omega), if_neg hl]
    · rw [List.getElem?_set_ne ha, ih]
      have e : (j ∈ a :: l) ↔ j ∈ l := by simp [Ne.symm ha]
      by_cases hj : j ∈ l
      · rw [if_pos hj, if_pos (e.mpr hj)]
      · rw [if_neg hj, if_neg fun z => hj (e.mp z)]
theorem wipe_set {vs : List Nat} {i : Nat} (h : i ∈ vs) (σ : L2.St) (o : Option V) : wipe (σ.set i o) vs = wipe σ vs := by
  apply List.ext_getElem?
  intro j
  rw [wipe_get, wipe_get, List.length_set]
  by_cases hj : j ∈ vs
  · rw [if_pos hj, if_pos hj]
  · rw [if_neg hj, if_neg hj]
    exact List.getElem?_set_ne fun z => hj (by rw [← z]; exact h)
theorem wipe_wipe (vs : List Nat) (σ : L2.St) : wipe (wipe σ vs) vs = wipe σ vs := by
  apply List.ext_getElem?
  intro j
  rw [wipe_get, wipe_get, wipe_length]
  by_cases hj : j ∈ vs
  · rw [if_pos hj, if_pos hj]
  · rw [if_neg hj, if_neg hj]
theorem tgn_name {vs : List Nat} {i : Nat} (h : i ∈ vs) : TgN P vs (gName i) (gN i) :=
  ⟨fun α H m v d ρ ρ1 m1 σ Q rm rv re e k => by
    unfold gN at e
    cases e
    exact k rfl _ (re.set rv i) (wipe_set h σ _), fun d ρ m c fs m1 e => by unfold gN at e; cases e⟩
structure TgsN (P : Pm) (vs : List Nat) (g : TGs) (gg : GGs) : Prop where
  run : ∀ (α : List Addr) (H : Hp) (m : Mem) (us : List V) (ds : List D) (ρ ρ1 : Env) (m1 : Mem) (σ : L2.St) (Q : L2.St → Hp → Prop), RM P α H m → RDs P α H us ds → RE P α H ρ σ → gg ds ρ m = .ok ρ1 m1 →
    (m1 = m → ∀ σ2, RE P α H ρ1 σ2 → wipe σ2 vs = wipe σ vs → Q σ2 H) → g us σ H Q
  noexc : ∀ (ds : List D) (ρ : Env) (m : Mem) c fs m1, gg ds ρ m ≠ .exc c fs m1
theorem tgsn_nil {vs : List Nat} : TgsN P vs gNil gsNil := by
  refine ⟨fun α H m us ds ρ ρ1 m1 σ Q rm rs re e k => ?_, fun ds ρ m c fs m1 e => ?_⟩
  · cases rs with
    | nil => cases e; exact ⟨rfl, k rfl σ re rfl⟩
    | cons _ _ => cases e
  · unfold gsNil at e
    cases ds <;> cases e
theorem tgsn_cons {vs : List Nat} {g : TG} {gs : TGs} {gg : GG} {ggs : GGs} (h1 : TgN P vs g gg) (h2 : TgsN P vs gs ggs) : TgsN P vs (gCons g gs) (gsCons gg ggs) := by
  refine ⟨fun α H m us ds ρ ρ1 m1 σ Q rm rs re e k => ?_, fun ds ρ m c fs m1 e => ?_⟩
  · cases rs with
    | nil => cases e
    | cons r rs =>
      unfold gsCons at e
      dsimp only at e
      cases e2 : gg _ ρ m with
      | ok ρ2 m2 =>
        rw [e2] at e
        refine ⟨_, _, rfl, h1.run α H m _ _ ρ ρ2 m2 σ _ rm r re e2 fun em σ2 re2 w2 => ?_⟩
        subst em
        exact h2.run α H _ _ _ ρ2 ρ1 m1 σ2 Q rm rs re2 e fun em σ3 re3 w3 => k em σ3 re3 (w3.trans w2)
      | exc c fs m2 => rw [e2] at e; cases e
      | bad => rw [e2] at e; cases e
  · cases ds with
    | nil => cases e
    | cons d r =>
      unfold gsCons at e
      dsimp only at e
      cases e2 : gg d ρ m with
      | ok ρ2 m2 => rw [e2] at e; exact h2.noexc _ _ _ _ _ _ e
      | exc c' fs' m2 => exact h1.noexc _ _ _ _ _ _ e2
      | bad => rw [e2] at e; cases e
theorem tgn_tup {vs : List Nat} {n : Nat} {gs : TGs} {ggs : GGs} (h : TgsN P vs gs ggs) : TgN P vs (gTup P.K n gs) (gT n ggs) := by
  refine ⟨fun α H m v d ρ ρ1 m1 σ Q rm rv re e k => ?_, fun d ρ m c fs m1 e => ?_⟩
  · unfold gT at e
    cases rv with
    | tup t rs =>
      dsimp only at e
      split at e
      · rename_i hz
        exact ⟨_, _, rfl, t, by rw [rs.length]; exact hz, h.run α H m _ _ ρ ρ1 m1 σ Q rm rs re e k⟩
      · cases e
    | _ => cases e
  · unfold gT at e
    cases d with
    | tup xs =>
      dsimp only at e
      split at e
      · exact h.noexc _ _ _ _ _ _ e
      · cases e
    | _ => cases e
def wipeE (ρ : Env) : List Nat → Env
  | [] => ρ
  | v :: vs => (wipeE ρ vs).set v none
theorem RE.wipe {α : List Addr} {H : Hp} {ρ : Env} {σ : L2.St} (re : RE P α H ρ σ) : ∀ vs : List Nat, RE P α H (wipeE ρ vs) (L2.wipe σ vs)
  | [] => re
  | v :: vs => (RE.wipe re vs).setNone v
def oFit (n : Nat) (o : Option D) : Bool := match o with
  | some d => d.fits n
  | none => true
noncomputable def gcO (m : Mem) (r : R (Option D)) : R (Option D) := gcR oFit m r
def keepD (o : Option D) (acc : List D) : List D := match o with
  | some d => acc ++ [d]
  | none => acc
/-- one turn: the item kept, or not -/
def turnC (tg : GG) (t : GT) (g : G) (x : D) (ρ : Env) (m : Mem) : R (Option D) := (tg x ρ m).bind fun ρ1 m1 => (t ρ1 m1).bind fun b m2 => if b = true then (g ρ1 m2).bind fun d m3 => .ok (some d) m3 else .ok none m2
open Classical in
noncomputable def compG (l : List (Nat × List D)) (tg : GG) (t : GT) (g : G) (ρ : Env) : List D → List D → Mem → R (List D)
  | [], acc, m => if LiveOk m l then .ok acc m else .bad
  | x :: xs, acc, m => if LiveOk m l then (gcO m (turnC tg t g x ρ m)).bind fun o m4 => compG l tg t g ρ xs (keepD o acc) m4 else .bad
def R.noexc {β : Type} (r : R β) : R β := match r with
  | .exc _ _ _ => .bad
  | r => r
noncomputable def eComp (own : List Nat) (gi : GI) (tg : GG) (t : GT) (g : G) : G := fun ρ m => (gi ρ m).bind fun it m1 =>
  if it.items.length ≤ sizeLine then (R.noexc (compG it.live tg t g (wipeE ρ own) it.items [] m1)).bind fun acc m2 => .ok (.ref m2.length) (m2 ++ [.lst acc]) else .bad
def tYes' : GT := fun _ m => .ok true m
abbrev W0 : WX := fun _ _ _ _ => False
theorem compG_noexc {β : Type} {r : R β} {σ : L2.St} {α : List Addr} {H : Hp} {Θ : List Addr → Hp → β → Mem → Prop} (h : Post P W σ α H (R.noexc r) Θ) : Post P W0 σ α H r Θ := by
  cases r with
  | ok b m => exact h
  | exc c fs m => exact False.elim h
  | bad => exact h
theorem dc_pts {X' : Cx} : PTs X' [] (tT P W tYes') := by
  have h := pts_nil (X := X')
  exact ⟨fun pins s σ H Q I ⟨α, ρ, m, rm, re, q⟩ => h.run pins s σ H Q I (q α H Ext.refl rm)⟩
theorem dc_pts1 {X' : Cx} {c : Expr} {t : GT} (hc : PT X' c (tT P W t)) : PTs X' [c] (tT P W t) := pts_one hc
mutual
theorem RD.touch {α : List Addr} {H : Hp} {p : Addr} {o : HO} (w : Wr (H p)) : ∀ {v : V} {d : D}, RD P α H v d → RD P α (upd H p o) v d
  | _, _, .non => .non
  | _, _, .bl b => .bl b
  | _, _, .int i => .int i
  | _, _, .str x => .str x
  | _, _, .tup h r => .tup (sqt_upd (fun u q => ⟨(w.no u q).1, (w.no u q).2.1⟩) h) (RDs.touch w r)
  | _, _, .fl h r => .fl (frz_upd (fun u q => ⟨(w.no u q).1, (w.no u q).2.1⟩) h) (RDs.touch w r)
  | _, _, .ref h => .ref h
theorem RDs.touch {α : List Addr} {H : Hp} {p : Addr} {o : HO} (w : Wr (H p)) : ∀ {vs : List V} {ds : List D}, RDs P α H vs ds → RDs P α (upd H p o) vs ds
  | _, _, .nil => .nil
  | _, _, .cons r rs => .cons (RD.touch w r) (RDs.touch w rs)
end
theorem RKs.touch {α : List Addr} {H : Hp} {p : Addr} {o : HO} (w : Wr (H p)) : ∀ {vs : List (Key × V)} {ds : List (Key × D)}, RKs P α H vs ds → RKs P α (upd H p o) vs ds
  | _, _, .nil => .nil
  | _, _, .cons r rs => .cons (r.touch w) (RKs.touch w rs)
/-- a list that is ours but no cell is written -/
theorem RM.touch {α : List Addr} {H : Hp} {m : Mem} {p : Addr} {o : HO} (rm : RM P α H m) (w : Wr (H p)) (hp : p ∉ α) : RM P α (upd H p o) m := by
  refine ⟨rm.len, rm.inj, fun i c a h1 h2 => ?_, tabs_upd (fun u q => ⟨(w.no u q).2.2.1, (w.no u q).2.2.2⟩) rm.tab⟩
  have rc := rm.cell i c a h1 h2
  have ne : a ≠ p := fun z => hp (by rw [← z]; exact List.mem_of_getElem? h2)
  cases c with
  | lst ds => obtain ⟨vs, e, r⟩ := rc; exact ⟨vs, by rw [upd_ne ne]; exact e, r.touch w⟩
  | dct ds => obtain ⟨vs, e, r⟩ := rc; exact ⟨vs, by rw [upd_ne ne]; exact e, r.touch w⟩
theorem Ext.touch {α α' : List Addr} {H H' : Hp} {p : Addr} {o : HO} (e : Ext P α H α' H') (w : Wr (H' p)) (hp : H p = none) : Ext P α H α' (upd H' p o) := by
  refine ⟨e.pre, fun b u h n t => ?_, fun b xs h => sqt_upd (fun u q => ⟨(w.no u q).1, (w.no u q).2.1⟩) (e.tup b xs h), fun b xs h => frz_upd (fun u q => ⟨(w.no u q).1, (w.no u q).2.1⟩) (e.frz b xs h)⟩
  obtain ⟨h1, h2⟩ := e.keep b u h n t
  exact ⟨by rw [upd_ne (ne_of_none h hp)]; exact h1, h2⟩
/-- the list becomes a cell -/
theorem Ext.adopt {α α' : List Addr} {H H' : Hp} {p : Addr} (e : Ext P α H α' H') (hp : H p = none) : Ext P α H (α' ++ [p]) H' := by
  obtain ⟨β, hβ⟩ := e.pre
  refine ⟨⟨β ++ [p], by rw [hβ, List.append_assoc]⟩, fun b u h n t => ?_, e.tup, e.frz⟩
  obtain ⟨h1, h2⟩ := e.keep b u h n t
  refine ⟨h1, fun z => ?_⟩
  rcases List.mem_append.mp z with z | z
  · exact h2 z
  · rw [List.mem_singleton] at z
    exact ne_of_none h hp z
mutual
theorem RD.wide {α β : List Addr} {H : Hp} : ∀ {v : V} {d : D}, RD P α H v d → RD P (α ++ β) H v d
  | _, _, .non => .non
  | _, _, .bl b => .bl b
  | _, _, .int i => .int i
  | _, _, .str x => .str x
  | _, _, .tup h r => .tup h (RDs.wide r)
  | _, _, .fl h r => .fl h (RDs.wide r)
  | _, _, .ref h => .ref (by rw [List.getElem?_append_left (List.getElem?_eq_some_iff.mp h).1]; exact h)
theorem RDs.wide {α β : List Addr} {H : Hp} : ∀ {vs : List V} {ds : List D}, RDs P α H vs ds → RDs P (α ++ β) H vs ds
  | _, _, .nil => .nil
  | _, _, .cons r rs => .cons (RD.wide r) (RDs.wide rs)
end
theorem RKs.wide {α β : List Addr} {H : Hp} : ∀ {vs : List (Key × V)} {ds : List (Key × D)}, RKs P α H vs ds → RKs P (α ++ β) H vs ds
  | _, _, .nil => .nil
  | _, _, .cons r rs => .cons r.wide (RKs.wide rs)
theorem RM.adopt {α : List Addr} {H : Hp} {m : Mem} {p : Addr} {vs : List V} {ds : List D} (rm : RM P α H m) (hp : p ∉ α) (h : H p = some (.lst vs)) (r : RDs P α H vs ds) : RM P (α ++ [p]) H (m ++ [.lst ds]) := by
  have two : ∀ (i : Nat) (a : Addr), (α ++ [p])[i]? = some a → α[i]? = some a ∨ (i = α.length ∧ a = p) := fun i a h => by
    by_cases hi : i < α.length
    · rw [List.getElem?_append_left hi] at h; exact .inl h
    · have hi2 : i < (α ++ [p]).length := (List.getElem?_eq_some_iff.mp h).1
      have e : i = α.length := by rw [List.length_append, List.length_singleton] at hi2; omega
      rw [e, List.getElem?_concat_length] at h
      exact .inr ⟨e, (Option.some.inj h).symm⟩
  refine ⟨by simp [rm.len], fun i j a a1 a2 => ?_, fun i c' a h1 h2 => ?_, rm.tab⟩
  · rcases two i a a1 with x | ⟨x, rfl⟩
    · rcases two j a a2 with y | ⟨y, rfl⟩
      · exact rm.inj i j a x y
      · exact absurd (List.mem_of_getElem? x) hp
    · rcases two j a a2 with y | ⟨y, _⟩
      · exact absurd (List.mem_of_getElem? y) hp
      · rw [x, y]
  · rcases two i a h2 with x | ⟨x, rfl⟩
    · rw [List.getElem?_append_left (by rw [← rm.len]; exact (List.getElem?_eq_some_iff.mp x).1)] at h1
      have rc := rm.cell i c' a h1 x
      cases c' with
      | lst ds => obtain ⟨vs, e, r⟩ := rc; exact ⟨vs, e, r.wide⟩
      | dct ds => obtain ⟨vs, e, r⟩ := rc; exact ⟨vs, e, r.wide⟩
    · rw [x, rm.len, List.getElem?_concat_length] at h1
      cases h1
      exact ⟨vs, h, r.wide⟩
/-- the reading of a comprehension -/
theorem lc_un {gi : GI} {g0 : TG} {gg : GG} {t : GT} {ge : G} {own : List Nat} (ht : TgN P own g0 gg) {σ : L2.St} {H : Hp} {Q : VK} {α : List Addr} {ρ : Env} {m : Mem} (rm : RM P α H m) (re : RE P α H ρ σ)
    (h : Post P W σ α H (eComp own gi gg t ge ρ m) (wV P Q)) : tLc (iD P W gi) g0 (tT P W0 t) (tE P W0 ge) own σ H Q := by
  refine ⟨α, ρ, m, rm, re, h.bind.mono fun α1 H1 it m1 e1 r1 p1 J ok => ?_⟩
  intro D hD
  split at p1
  · rename_i hsz
    have re1 := (re.mono e1).wipe own
    refine ⟨fun i k H => k = it.items.length - i ∧ i ≤ it.items.length ∧ ∃ α2 m2 acc vacc, Ext P α1 H1 α2 H ∧ RM P α2 H m2 ∧ H D = some (.lst vacc) ∧ D ∉ α2 ∧ RDs P α2 H vacc acc ∧ acc.length ≤ i ∧
        Post P W σ α1 H1 ((R.noexc (compG it.live gg t ge (wipeE ρ own) (it.items.drop i) acc m2)).bind fun acc m2 => .ok (.ref m2.length) (m2 ++ [.lst acc])) (wV P Q),
      ⟨it.items.length, by omega, by omega, α1, m1, [], [], Ext.side hD, r1.side hD, upd_same, r1.not_mem hD, .nil, by simp, by rw [List.drop_zero]; exact p1⟩, ?_⟩
    rintro i k H2 ⟨rfl, hi, α2, m2, acc, vacc, e2, r2, hD2, nD, rs, hl, p2⟩
    have wD : Wr (H2 D) := by rw [hD2]; trivial
    by_cases hlt : i < it.items.length
    · obtain ⟨x, hx⟩ : ∃ x, it.items[i]? = some x := ⟨it.items[i], List.getElem?_eq_getElem hlt⟩
      have hdrop : it.items.drop i = x :: it.items.drop (i + 1) := by
        rw [List.drop_eq_getElem_cons hlt]
        rw [List.getElem?_eq_getElem hlt] at hx
        rw [Option.some.inj hx]
      rw [hdrop] at p2
      unfold compG at p2
      split at p2
      · rename_i hlive
        obtain ⟨g1, g2⟩ := ok.go i α2 H2 m2 x e2 r2 hlive hx
        refine .inr ⟨g1, fun H' => ∃ α2 m2 acc vacc, Ext P α1 H1 α2 H' ∧ RM P α2 H' m2 ∧ H' D = some (.lst vacc) ∧ D ∉ α2 ∧ RDs P α2 H' vacc acc ∧ acc.length ≤ i + 1 ∧
            Post P W σ α1 H1 ((R.noexc (compG it.live gg t ge (wipeE ρ own) (it.items.drop (i + 1)) acc m2)).bind fun acc m2 => .ok (.ref m2.length) (m2 ++ [.lst acc])) (wV P Q),
          fun H' hN => ⟨it.items.length - (i + 1), by omega, rfl, by omega, hN⟩, fun v H3 y => ?_⟩
        obtain ⟨e3, r3, rv, kp⟩ := g2 v H3 y
        have hD3 := kp D _ hD2
        have rs3 := rs.mono e3
        have re3 : RE P α2 H3 (wipeE ρ own) (L2.wipe σ own) := re1.mono (e2.trans e3)
        have e23 := e2.trans e3
        -- the turn's result
        cases hturn : turnC gg t ge x (wipeE ρ own) m2 with
        | bad => rw [hturn] at p2; exact False.elim p2
        | exc c fs mm => 
          rw [hturn] at p2
          exfalso
          unfold gcO gcR at p2
          dsimp only at p2
          split at p2 <;> exact p2
        | ok o mo =>
          rw [hturn] at p2
          have choose : ∀ (α4 : List Addr) (H4 : Hp), Ext P α2 H3 α4 H4 → RM P α4 H4 mo → ∃ α5 m5, Ext P α2 H3 α5 H4 ∧ RM P α5 H4 m5 ∧ (∀ d v, o = some d → RD P α4 H4 v d → RD P α5 H4 v d) ∧
              Post P W σ α1 H1 ((R.noexc (compG it.live gg t ge (wipeE ρ own) (it.items.drop (i + 1)) (keepD o acc) m5)).bind fun acc m2 => .ok (.ref m2.length) (m2 ++ [.lst acc])) (wV P Q) := fun α4 H4 e4 r4 => by
            unfold gcO gcR at p2
            dsimp only at p2
            split at p2
            · rename_i hz
              obtain ⟨γ, rfl⟩ := e4.pre
              refine ⟨α2, _, e4.shrink, r3.shrink e4 r4 hz.2, fun d v ho rv => rv.shrink ?_, p2⟩
              rw [r3.len]
              have := hz.1
              rw [ho] at this
              exact this
            · exact ⟨α4, mo, e4, r4, fun _ _ _ h => h, p2⟩
          -- the turn, part by part
          unfold turnC at hturn
          cases htg : gg x (wipeE ρ own) m2 with
          | bad => rw [htg] at hturn; cases hturn
          | exc c fs mm => rw [htg] at hturn; cases hturn
          | ok ρ1 mt =>
            rw [htg] at hturn
            refine ht.run α2 H3 m2 v x (wipeE ρ own) ρ1 mt _ _ r3 rv re3 htg fun em σ2 re4 w2 => ⟨w2.trans (wipe_wipe own σ), ?_⟩
            subst em
            dsimp only [Dw.R.bind_ok] at hturn
            cases htt : t ρ1 mt with
            | bad => rw [htt] at hturn; cases hturn
            | exc c fs mm => rw [htt] at hturn; cases hturn
            | ok bb mb =>
              rw [htt] at hturn
              refine ⟨α2, ρ1, mt, r3, re4, ?_⟩
              rw [htt]
              intro α6 H6 e6 r6
              have keepD6 := e6.keep D _ hD3 nD (fun _ z => nomatch z)
              cases bb with
              | false =>
                simp only [Bool.false_eq_true, if_false]
                cases hturn
                obtain ⟨α5, m5, e5, r5, _, p5⟩ := choose α6 H6 e6 r6
                have nD5 := (e5.keep D _ hD3 nD (fun _ z => nomatch z)).2
                exact ⟨α5, m5, acc, vacc, e23.trans e5, r5, keepD6.1, nD5, rs3.mono e5, by omega, p5⟩
              | true =>
                simp only [if_true]
                simp only [Dw.R.bind_ok, if_true] at hturn
                cases hge : ge ρ1 mb with
                | bad => rw [hge] at hturn; cases hturn
                | exc c fs mm => rw [hge] at hturn; cases hturn
                | ok d md =>
                  rw [hge] at hturn
                  cases hturn
                  refine ⟨α6, ρ1, mb, r6, re4.mono e6, ?_⟩
                  rw [hge]
                  intro α7 H7 e7 r7 y ry
                  have keepD7 := e7.keep D _ keepD6.1 keepD6.2 (fun _ z => nomatch z)
                  refine ⟨vacc, keepD7.1, by rw [rs.length]; omega, ?_⟩
                  obtain ⟨α5, m5, e5, r5, up, p5⟩ := choose α7 H7 (e6.trans e7) r7
                  have nD5 := (e5.keep D _ hD3 nD (fun _ z => nomatch z)).2
                  have w7 : Wr (H7 D) := by rw [keepD7.1]; trivial
                  exact ⟨α5, m5, acc ++ [d], vacc ++ [y], (e23.trans e5).touch w7 hD, r5.touch w7 nD5, upd_same, nD5,
                    ((rs3.mono e5).append (.cons (up d y rfl ry) .nil)).touch w7, by rw [List.length_append]; simp; omega, p5⟩
      · exact False.elim p2
    · have hi2 : it.items.length ≤ i := Nat.le_of_not_lt hlt
      rw [List.drop_eq_nil_of_le hi2] at p2
      unfold compG at p2
      split at p2
      · rename_i hlive
        refine .inl ⟨ok.stop i α2 H2 m2 e2 r2 hlive hi2, ?_⟩
        exact p2 (α2 ++ [D]) H2 (e2.adopt hD) (r2.adopt nD hD2 rs) _ (.ref (by rw [← r2.len, List.getElem?_concat_length]))
      · exact False.elim p2
  · exact False.elim p1
/-- the rules -/
theorem de_comp {tg iter elt : Expr} {ifs : List Expr} {scope : Scope} {own : List (Str × Nat)} {gi : GI} {g0 : TG} {gg : GG} {t : GT} {ge : G} (hc : X.calm = true) (hN : X.N.Nodup) (hi : PI X tg iter (iD P W gi)) (ok : BlkOk X.N X.env.scope scope own) (ht : TgN P (own.map (·.2)) g0 gg)
    (hg : ∀ (s : Shared) (H : Hp) (C : Addr) (cl : List (Str × Addr)) (fp : List Addr), PG (X.blk s H scope (compEnvC scope cl C X.env) fp) tg g0)
    (hts : ∀ (s : Shared) (H : Hp) (C : Addr) (cl : List (Str × Addr)) (fp : List Addr), PTs (X.blk s H scope (compEnvC scope cl C X.env) fp) ifs (tT P W0 t))
    (he : ∀ (s : Shared) (H : Hp) (C : Addr) (cl : List (Str × Addr)) (fp : List Addr), PE (X.blk s H scope (compEnvC scope cl C X.env) fp) elt (tE P W0 ge)) (hs : ∀ x, foldedSetIterable iter X.env x = pure x := by intro _; rfl) :
    PE X (.ListComp elt [⟨tg, iter, ifs, 0⟩] scope pos) (tE P W (eComp (own.map (·.2)) gi gg t ge)) :=
  (pe_lc hc hN hi ok hg hts he hs).weaken fun σ H Q ⟨α, ρ, m, rm, re, h⟩ => lc_un ht rm re h
theorem ds_setComp {i : Nat} {y : Str} {py spos : Pos} {tg iter elt : Expr} {ifs : List Expr} {scope : Scope} {own : List (Str × Nat)} {gi : GI} {g0 : TG} {gg : GG} {t : GT} {ge : G} (hc : X.calm = true) (hN : X.N.Nodup) (hy : X.N[i]? = some y) (hyl : X.env.scope.names.lookup y = some .local)
    (hsw : swapsWith (.ListComp elt [⟨tg, iter, ifs, 0⟩] scope pos) (some (.Name y py)) spos.line X.env = pure true)
    (hi : PI X tg iter (iD P (xW E) gi)) (ok : BlkOk X.N X.env.scope scope own) (ht : TgN P (own.map (·.2)) g0 gg)
    (hg : ∀ (s : Shared) (H : Hp) (C : Addr) (cl : List (Str × Addr)) (fp : List Addr), PG (X.blk s H scope (compEnvC scope cl C X.env) fp) tg g0)
    (hts : ∀ (s : Shared) (H : Hp) (C : Addr) (cl : List (Str × Addr)) (fp : List Addr), PTs (X.blk s H scope (compEnvC scope cl C X.env) fp) ifs (tT P W0 t))
    (he : ∀ (s : Shared) (H : Hp) (C : Addr) (cl : List (Str × Addr)) (fp : List Addr), PE (X.blk s H scope (compEnvC scope cl C X.env) fp) elt (tE P W0 ge)) (hs : ∀ x, foldedSetIterable iter X.env x = pure x := by intro _; rfl) :
    PS X (.Assign [.Name y py] (.ListComp elt [⟨tg, iter, ifs, 0⟩] scope pos) spos) (tS P E (sAsg (eComp (own.map (·.2)) gi gg t ge) (gN i))) :=
  (ps_setLc hc hN hy hyl hsw hi ok hg hts he hs).weaken fun D σ H ⟨α, ρ, m, rm, re, h⟩ => by
    refine lc_un ht rm re (W := xW E) ?_
    refine h.bind.mono fun α1 H1 d m1 e1 r1 p1 v rv => ?_
    exact p1 α1 H1 Ext.refl r1 _ ((re.mono e1).set rv i)
end
end Dw

namespace Dw
open PySem PySem.Spec PyProof.Rows L2

/-! ### 12. defs and calls -/
/-- a def's promise: what cf makes of the arguments' data -/
def spD (P : Pm) (n : Nat) (cf : List D → Mem → R D) : Sp := fun vs H Q E => vs.length = n ∧ ∃ α m ds, RM P α H m ∧ RDs P α H vs ds ∧ Post P (xW E) [] α H (cf ds m) (wV P Q)
/-- a def, called where no guard stands -/
structure FnG (p : Program) (w : World) (P : Pm) (base : Heap) (gd : Bool) (k : Nat) (f : Addr) (fd : FuncData) (ps : List Str) (cf : List D → Mem → R D) : Prop where
  run : ∀ (A : Around) (outer : List PySem.Env) (s : Shared) (H : Hp) (args : Args) (us : List Value) (vs : List V) (Q : VK) (E : XK), Room k A → (gd = true → A.guards = some []) → Env0 p w P.K P.mg base A outer s H → BindsTo s fd args (ps.zip us) → Vals vs us → spD P ps.length cf vs H Q E →
    codeAny (model p w) A (.call (.ref f) args) (CR (L2.CX p w) outer p w H s Q E) s
theorem FnG.mono {p : Program} {w : World} {P : Pm} {base : Heap} {gd : Bool} {j k : Nat} {f : Addr} {fd : FuncData} {ps : List Str} {cf : List D → Mem → R D} (F : FnG p w P base gd j f fd ps cf) (h : j ≤ k) : FnG p w P base gd k f fd ps cf :=
  ⟨fun A outer s H args us vs Q E hr => F.run A outer s H args us vs Q E (hr.mono h)⟩
/-- what a body's end gives back -/
def retF (f : Fl) (m : Mem) : R D := match f with
  | .nx _ => .ok .non m
  | .ret d => .ok d m
  | .brk _ => .bad
  | .cnt _ => .bad
/-- a def with l slots by its body -/
def fnB (l : Nat) (gs : GS) (ds : List D) (m : Mem) : R D := (gs (ds.map some ++ List.replicate (l - ds.length) none) m).bind retF
theorem RDs.slots {P : Pm} {α : List Addr} {H : Hp} {vs : List V} {ds : List D} (r : RDs P α H vs ds) (N : List Str) : RE P α H (ds.map some ++ List.replicate (N.length - ds.length) none) (L2.start N vs) := by
  have hl := r.length
  refine ⟨by unfold L2.start; simp only [List.length_append, List.length_map, List.length_replicate]; omega, fun i d h => ?_⟩
  unfold L2.start
  by_cases hi : i < ds.length
  · rw [List.getElem?_append_left (by simpa using hi), List.getElem?_map] at h
    cases e : ds[i]? with
    | none => rw [e] at h; cases h
    | some d' =>
      rw [e] at h
      cases h
      obtain ⟨v, h1, h2⟩ := r.get e
      refine ⟨v, ?_, h2⟩
      rw [List.getElem?_append_left (by simpa using (by omega : i < vs.length)), List.getElem?_map, h1]
      rfl
  · rw [List.getElem?_append_right (by simpa using Nat.le_of_not_lt hi), List.getElem?_replicate] at h
    split at h <;> cases h
theorem fn_D {p : Program} {w : World} {P : Pm} {base : Heap} {x qual : Str} {st : Stmt} {f : Addr} {fd : FuncData} {N ps : List Str} {gd : Bool} {k : Nat} {gs : GS} (F : Fun P.K x qual st f fd) (S : FnScope N ps (defScope st))
    (hbody : ∀ (cdv : Value) (A : Around) (outer : List PySem.Env) (s : Shared) (H : Hp) (E : XK), Room k (A.deeper (envOfC qual (defScope st) s.heap.objs.size f cdv)) → (gd = true → A.guards = some []) →
      PSs (cxOf (L2.CX p w) p w P.K P.mg base N qual (defScope st) f cdv A outer s H E) (defBody st) (tS P E gs)) : FnG p w P base gd (k + 1) f fd ps (fnB N.length gs) := by
  obtain ⟨oc, od, kV, doc, pm, an, cdv, ct, osl, rfl, lk, hcd⟩ := F.ex
  refine ⟨fun A outer s H args us vs Q E hr hgd e0 hb r hsp => ?_⟩
  obtain ⟨hl, α, m, ds, rm, rs, q⟩ := hsp
  refine LamX.run_ofS lk hcd S hr e0 hb r hl fun hr' => ⟨tS P E gs, hbody cdv A outer s H E hr' hgd, α, _, m, rm, rs.slots N, ?_⟩
  refine (Post.bind (Post.sig q)).mono fun α1 H1 fl m1 e1 r1 p1 => ?_
  cases fl with
  | nx ρ => exact fun _ _ => p1 α1 H1 Ext.refl r1 _ .non
  | ret d => exact p1 α1 H1 Ext.refl r1
  | brk ρ => exact False.elim p1
  | cnt ρ => exact False.elim p1
/-- a name under which a def is called -/
structure Clb (p : Program) (w : World) (P : Pm) (base : Heap) (gd : Bool) (k : Nat) (x : Str) (n : Nat) (cf : List D → Mem → R D) : Prop where
  ex : ∃ (f : Addr) (fd : FuncData) (ps : List Str), P.mg x = some (.ref f) ∧ PySem.W.keepIn P.K (.ref f) = true ∧ Binds P.K fd ps [] ∧ ps.length = n ∧ FnG p w P base gd k f fd ps cf
theorem Clb.mono {p : Program} {w : World} {P : Pm} {base : Heap} {gd : Bool} {j k : Nat} {x : Str} {n : Nat} {cf : List D → Mem → R D} (C : Clb p w P base gd j x n cf) (h : j ≤ k) : Clb p w P base gd k x n cf :=
  let ⟨f, fd, ps, h1, h2, h3, h4, F⟩ := C.ex; ⟨f, fd, ps, h1, h2, h3, h4, F.mono h⟩
noncomputable def callD (n : Nat) (cf : List D → Mem → R D) (ds : List D) (m : Mem) : R D := if ds.length = n then gcD m (cf ds m) else .bad
noncomputable def eCall (n : Nat) (cf : List D → Mem → R D) (ga : GA) : G := fun ρ m => (ga ρ m).bind fun ds m => callD n cf ds m
section
variable {X : Cx} {P : Pm} {W : WX} {E : XK} {e a b c : Expr} {es rest : List Expr} {pos : Pos} {ga gb gc g : G} {ta : GA} {t u : GT}
theorem Post.as {β : Type} {σ σ' : L2.St} {α : List Addr} {H : Hp} {r : R β} {Φ : List Addr → Hp → β → Mem → Prop} (h : Post P W σ α H r Φ) : Post P (xW (WE W σ)) σ' α H r Φ := by
  cases r <;> exact h
theorem callD_sp {n : Nat} {cf : List D → Mem → R D} {σ : L2.St} {α : List Addr} {H : Hp} {m : Mem} {vs : List V} {ds : List D} {Q : VK} (rm : RM P α H m) (rs : RDs P α H vs ds) (q : Post P W σ α H (callD n cf ds m) (wV P Q)) : spD P n cf vs H Q (WE W σ) := by
  unfold callD at q
  split at q
  · rename_i hl
    exact ⟨rs.length.trans hl, α, m, ds, rm, rs, (Post.gcD rm q).as⟩
  · exact False.elim q
theorem run_fnG {σ : L2.St} {H : Hp} {s : Shared} {pins : List (Addr × Obj)} {gd : Bool} {k : Nat} {f : Addr} {fd : FuncData} {ps : List Str} {cf : List D → Mem → R D} {Q : VK} {us : List Value} {vs : List V} (hK : P.K = X.K) (hM : P.mg = X.mg) (F : FnG X.prog X.w P X.base gd k f fd ps cf) (hr : Room k X.A)
    (hgd : gd = true → X.A.guards = some []) (hb : Binds P.K fd ps []) (tk : Takes X W) (I : Inv X pins σ H s) (r : Vals vs us) (h : spD P ps.length cf vs H Q (WE W σ)) : wpAny (model X.prog X.w) X.A (call (.ref f) us) (EP X pins σ Q) X.xe s := by
  have hl : us.length = ps.length := by rw [← r.length]; exact h.1
  have bd := hb s us (by rw [hK]; exact I.kIn) (by rw [List.append_nil]; exact hl)
  rw [List.append_nil] at bd
  have e0 : Env0 X.prog X.w P.K P.mg X.base X.A X.stack s H := by rw [hK, hM]; exact I.env0
  refine wpAny_call (codeAny_mono (F.run X.A X.stack s H ⟨us, []⟩ us vs Q (WE W σ) hr hgd e0 bd r h) fun z s' hq => ?_)
  cases z with
  | error ev => exact passAt tk σ pins H s ev s' I hq
  | ok fl => cases fl with
    | ret u => exact I.after hq
    | next => exact False.elim hq
    | brk => exact False.elim hq
    | cont => exact False.elim hq
theorem de_call {gd : Bool} {k n : Nat} {cf : List D → Mem → R D} {x : Str} {p1 : Pos} (hK : P.K = X.K) (hM : P.mg = X.mg) (C : Clb X.prog X.w P X.base gd k x n cf) (hr : Room k X.A) (hgd : gd = true → X.A.guards = some []) (hg : Gl X x) (tk : Takes X W) (ha : PA X (e :: es) (tA P W ta))
    (hdb : (x == ("__debug__" : Str)) = false := by decide) (he : starEach (e :: es) X.env = (false, eval e X.env) :: starEach es X.env := by rfl) (hpl : (backTo pos (starEach es X.env)).any (·.1) = false := by rfl) : PE X (.Call (.Name x p1) (e :: es) [] pos) (tE P W (eCall n cf ta)) := by
  obtain ⟨f, fd, ps, h1, h2, hb, hn, F⟩ := C.ex
  subst hn
  refine ⟨fun pins s σ H Q I h => wpAny_Call_Name_kw (ld_glob I hg (by rw [← hM]; exact h1) ?_ hdb)⟩
  obtain ⟨α, ρ, m, rm, re, q⟩ := h
  have q2 : tA P W ta σ H fun vs H1 => spD P ps.length cf vs H1 Q (WE W σ) := ⟨α, ρ, m, rm, re, (Post.bind q).mono fun α1 H1 ds m1 e1 r1 p1 vs rs => callD_sp r1 rs p1⟩
  refine PySem.W.callWith_K (h₀ := X.base) I.ok.mod.kin (by rw [← hK]; exact h2) (thn (ha.run pos pins s σ H _ I q2) fun us s1 hh => ?_) he hpl
  obtain ⟨vs, H1, I1, r, qq⟩ := hh
  exact ⟨I1.kIn, run_fnG hK hM F hr hgd hb tk I1 r qq⟩
end
end Dw

namespace DwX
open PySem PySem.Spec PySem.W PySem.Calls PyProof.Rows PySem.HandSPX
/-! ### 13. own exceptions: def __init__(self, x): super().__init__(x); self.x = x -/
def oA (f : Str) (p1 p2 : Pos) : Arguments := { posonlyargs := [], args := [{ arg := "self", annotation := none, pos := p1 }, { arg := f, annotation := none, pos := p2 }], vararg := none, kwonlyargs := [], kw_defaults := [], kwarg := none, defaults := [] }
def oB (f : Str) (a1 a2 a3 a4 a5 a6 b1 b2 b3 b4 : Pos) : List Stmt :=
  [.Expr (.Call (.Attribute (.Call (.Name "super" a1) [] [] a2) "__init__" a3) [.Name f a4] [] a5) a6, .Assign [.Attribute (.Name "self" b1) f b2] (.Name f b3) b4]
def oC (f : Str) (a1 a2 a3 a4 a5 : Pos) : Expr := .Call (.Attribute (.Call (.Name "super" a1) [] [] a2) "__init__" a3) [.Name f a4] [] a5
/-- how its text lies on its lines -/
structure InitEnvOk (f : Str) (a1 a2 a3 a4 a5 a6 b1 b2 b3 b4 : Pos) (env : PySem.Env) : Prop where
  he : ∃ pl : Sem Bool, eval (oC f a1 a2 a3 a4 a5) env = (do
      let ov ← attributeBase (.Call (.Name "super" a1) [] [] a2) "__init__" env (eval (.Call (.Name "super" a1) [] [] a2) env)
      standAt a3.atName
      let (g, first) ← holding [ov] (getMethod ov "__init__" pl)
      callWith a5 g first (backTo a5 (starEach [.Name f a4] env)) [])
  hi : interactive env = false
  hs : swapsWith (oC f a1 a2 a3 a4 a5) none a6.line env = pure false
  ht : swapsWith (.Name f b3) (some (.Attribute (.Name "self" b1) f b2)) b4.line env = pure false
/-- what the top has written of such a class: x at C, its __init__ at fI -/
structure OneX (pr : Program) (K : Frag) (mg : Str → Option Value) (x f : Str) (C fI : Addr) : Prop where
  gC : mg x = some (.ref C)
  cls : ∃ nm q N bs bm sn sub ab col dd k0 k1 k2 k3 k5, K.lookup C = some (excClassObj nm q C N bs bm true sn sub ab col dd k0 k1 k2 k3 k5 "ValueError.__new__") ∧ refsVE bm = true
  sa : findIn K (.ref C) "__setattr__" = some (some (.builtin "object.__setattr__"))
  noN : findIn K (.ref C) f = some none
  iC : findIn K (.ref C) "__init__" = some (some (.ref fI))
  tC : typeIn K (.ref fI) = some (.type "function")
  kC : keepIn K (.ref C) = true
  exC : subIn K (.ref C) (.type "BaseException") = some true
  vE : subIn K (.ref C) (.type "ValueError") = some true
  tyC : typeIn K (.ref C) = some (.type "type")
  any : nsIn K cStatics "thirdparty.any" = some none
  sup : ks_superIn K C C "__init__" = some (some (.builtin "ValueError.__init__"))
  nos : mg "super" = none
  slf : mroIn K C (.ref C) = some true
  top : (pr.main.scope.names.lookup ("super" : Str)).isSome = false
  fn : ∃ (oc : Value) (od : Option Addr) (qual : Str) (sc : Scope) (doc pm : Value) (an : Option Addr) (cda cc : Addr) (ct : Value) (osl : Array (Option Value)) (p1 p2 a1 a2 a3 a4 a5 a6 b1 b2 b3 b4 : Pos) (ccl cl : Value) (cdd cld : Option Addr) (vs : Array Value) (ccs csl : Array (Option Value)) (file : Str) (tf : Tok),
    K.lookup fI = some ⟨oc, od, .func (ksFn "__init__" qual (oA f p1 p2) (oB f a1 a2 a3 a4 a5 a6 b1 b2 b3 b4) sc .none .none doc pm an (.ref cda) ct cc), osl⟩ ∧ codeIn K (.ref cda) qual = true ∧ K.lookup cda = some ⟨ccl, cdd, .fields vs, ccs⟩ ∧ vs[2]? = some (.str file tf) ∧ ((pr.main.file : Str) == file) = true ∧
      K.lookup cc = some ⟨cl, cld, .cell (some (.ref C)), csl⟩ ∧ sc.names.lookup ("super" : Str) = some .globalImplicit ∧ sc.names.lookup ("__class__" : Str) = some .free ∧ sc.names.lookup ("self" : Str) = some .local ∧ sc.names.lookup f = some .local ∧ (∀ y ∈ sc.names, y.2 ≠ .cell) ∧ sc.kind = .function ∧
      sc.isCoroutine = false ∧ sc.isGenerator = false ∧ (∀ u v : Value, bindArgs (ksFn "__init__" qual (oA f p1 p2) (oB f a1 a2 a3 a4 a5 a6 b1 b2 b3 b4) sc .none .none doc pm an (.ref cda) ct cc) ⟨[u, v], []⟩ = pure [(("self" : Str), u), (f, v)]) ∧
      ∀ L : Addr, InitEnvOk f a1 a2 a3 a4 a5 a6 b1 b2 b3 b4 (ksEnv qual sc L fI (.ref cda) cc)
theorem bw_call {prog : Program} {w : World} {A : Around} {E : Value → Shared → Prop} {h : Heap} {g : Array GenState} {d : Drawn} {t : Nat} {os : OsState} {nm q : Str} {C N : Addr} {bs bm : List Value} {hdct : Bool} {sn : List Str} {sub : List Value} {ab : Bool} {col : Option Bool} {dd : Option Addr} {k0 k1 k2 k3 k5 : Option Value} {u e t0 : Addr} {rest : List Value} {Q : Value → Shared → Prop}
    (hC : h.get? C = some (excClassObj nm q C N bs bm hdct sn sub ab col dd k0 k1 k2 k3 k5 "ValueError.__new__")) (he : h.get? e = some (excO C t0)) (hu : h.get? u = some (kxs_mw "ValueError.__init__" e)) (hrest : rest.length ≤ sizeLine)
    (hq : ∀ h' t1, (∀ b o, b ≠ e → h.get? b = some o → h'.get? b = some o) → h'.get? e = some (excO C t1) → Q .none ⟨h', g, d, t, os⟩) : wpAny (model prog w) A (call (.ref u) rest) Q E ⟨h, g, d, t, os⟩ := by
  refine wpAny_call (codeAny_of_tree (show wpAny _ A.in1 (callAny (.ref u) ⟨rest, []⟩) _ _ _ from ?_))
  simp only [callAny]
  refine wpAny_bind (wpAny_load hu ?_)
  simp only [kxs_mw, show (Value.type "method-wrapper" == Value.type "method" || Value.type "method-wrapper" == Value.type "builtin_function_or_method" || Value.type "method-wrapper" == Value.type "method-wrapper") = true by decide, if_true]
  refine KFB.if_so (by decide) (wpAny_bind (check_bound_init F.excBase_ValueError.toExcCallFacts hC he rfl (wpAny_bind (wpAny_pure (wpAny_pure ⟨plainId_quiet F.excBase_ValueError.init.plain _, codeAny_builtin F.excBase_ValueError.initEntry ?_⟩)))))
  exact exc_init_tree (cls := .ref C) (t0 := t0) (dv := none) (c2 := .none) (c3 := .none) (b4 := .bool false) he hrest fun h' k e' _ => hq h' _ k e'
section
variable {prog : Program} {w : World} {A : Around} {E : Value → Shared → Prop} {Rr : Result → Shared → Prop} {s : Shared} {K : Frag} {mg : Str → Option Value} {x f : Str} {C fI : Addr}
/-- what __init__ leaves of a fresh exception at e -/
structure InitE (h h' : Heap) (e C dx t1 : Addr) (f : Str) (v : Value) : Prop where
  keep : ∀ b o, b ≠ e → h.get? b = some o → h'.get? b = some o
  obj : h'.get? e = some { cls := .ref C, dict := some dx, data := .fields #[.ref t1, .none, .none, .none, .bool false, .none] }
  dbig : h.objs.size ≤ dx
  dne : dx ≠ e
  ns : h'.Ns1 dx (fun y => if y = f then some v else none)
theorem one_init (T : OneX prog K mg x f C fI) {e t0 : Addr} {v : Value} (X : K.In s.heap) (hlim : s.heap.NoLimit) (hg : s.heap.Ns mainGlobals mg) (hb : ∃ mb, s.heap.Ns builtinsNs mb ∧ ∀ x : Str, x ≠ "__name__" → mb x = bootBuiltins x) (hx : s.heap.get? e = some (excO C t0)) (hnx : K.lookup e = none) (hnf : f ≠ ("self" : Str)) (hnd : (f == ("__debug__" : Str)) = false) (hroom : A.depth < recursionLimit)
    (hq : ∀ h' tk dx t1, InitE s.heap h' e C dx t1 f v → Rr (.ok (.ret .none)) { s with heap := h', toks := tk }) : codeAny (model prog w) A (.call (.ref fI) ⟨[.ref e, v], []⟩) Rr s := by
  obtain ⟨oc, od, qual, sc, doc, pm, an, cda, cc, ct, osl, p1, p2, a1, a2, a3, a4, a5, a6, b1, b2, b3, b4, ccl, cl, cdd, cld, vs, ccs, csl, file, tf, ho, hcd, hcda, hvs, hfile, hcell, hsu, hsc, hse, hsf, hnc, hk, hco, hgen, hbd, hen⟩ := T.fn
  obtain ⟨nm, q, N, bs, bm, sn, sub, ab, col, dd, k0, k1, k2, k3, k5, hC, hbm⟩ := T.cls
  obtain ⟨mb, hb1, hb2⟩ := hb
  refine ks_codeAny_call_defAt (fd := ksFn "__init__" qual (oA f p1 p2) (oB f a1 a2 a3 a4 a5 a6 b1 b2 b3 b4) sc .none .none doc pm an (.ref cda) ct cc) (body := oB f a1 a2 a3 a4 a5 a6 b1 b2 b3 b4) (binds := [("self", .ref e), (f, v)]) hroom (X _ _ ho) rfl hlim (codeRec_of X hcd) rfl (BindsTo.of_eq (hbd _ _)) hnc ?_ (fun h₁ hns k => ?_) hco hgen hk
  · intro y hy
    rcases List.mem_cons.mp hy with rfl | hy
    · exact hse
    · rcases List.mem_cons.mp hy with rfl | hy
      · exact hsf
      · cases hy
  have X₁ : K.In h₁ := X.keeps k
  have hx₁ := k _ _ hx
  have nsf : f ≠ ("self" : Str) := hnf
  have rS : List.reverse [(("self" : Str), Value.ref e), (f, v)] = [(f, v), ("self", .ref e)] := rfl
  have mS : (List.lookup ("self" : Str) [(f, v), (("self" : Str), Value.ref e)]) = some (.ref e) := by
    have z : (("self" : Str) == f) = false := by simpa using (fun q => nsf q.symm)
    simp [List.lookup, z]
  have mF : (List.lookup f [(f, v), (("self" : Str), Value.ref e)]) = some v := by simp [List.lookup]
  rw [rS] at hns
  obtain ⟨⟨pl, he⟩, hi, hs, ht⟩ := hen s.heap.objs.size
  refine ks_wpAt_execs_cons (ks_wpAt_Expr_any (ks_wpAt_MethodCall (pl := pl) ?_ he) hi hs)
  have hDC := X₁ _ _ hC
  have hxC : e ≠ C := fun z => by
    rw [z] at hx₁
    rw [hx₁] at hDC
    have y := congrArg Obj.data (Option.some.inj hDC)
    cases y
  refine ks_wpAt_super_base hsu hsc (by decide) rfl (X₁ _ _ ho) rfl rfl rfl (X₁ _ _ hcda) rfl hvs hfile T.top ?_
  refine ks_loadName_global hk hsu (loadGlobal_builtin (hg.keeps k) T.nos (hb1.keeps k) ((hb2 _ (by decide)).trans (by first | boot_by_name | rfl | kernel_rfl)) ⟨rfl, ?_⟩)
  refine wpAny_loadName_free hk hsc rfl ⟨_, X₁ _ _ hcell, rfl⟩ ?_
  refine wpAny_loadName_local hk hse hns mS ?_
  refine ks_wpAny_isType_cls hDC rfl ⟨rfl, ?_⟩
  refine ks_wpAny_call_super hDC rfl hx₁ rfl (fun c z => by cases z) (looks_mroIn X₁ T.slf) fun h₂ hso k₂ => ?_
  have X₂ : K.In h₂ := X₁.keeps k₂
  have hx₂ := k₂ _ _ hx₁
  have hcl : clsIn K C = some { name := nm, bases := bs, mro := .ref C :: bm, ns := N, qualname := q, hasDict := true, slotNames := sn, subclasses := sub, abstract := ab, collection := col, hasDel := false } := by unfold clsIn; rw [hC] <;> rfl
  have hsp := T.sup
  unfold ks_superIn at hsp
  rw [hcl] at hsp
  have II : InstAt h₂ e (excO C t0) C none := ⟨hx₂, rfl, rfl, trivial⟩
  refine kxs_getMethod kxs_ValueError hso (looks_opaque X₂ T.any) (fun A Q E s k q => wpAny_bind ((looks_clsIn X₂ hcl) A _ E s k (wpAny_pure q))) rfl X₂ hsp (II.type.andThen (looks_subIn X₂ T.vE)) hxC (by decide) ?_
  have k₃ : ∀ b o, h₂.get? b = some o → (h₂.push (kxs_mw "ValueError.__init__" e)).get? b = some o := fun b o z => Heap.get?_push_of_some _ z
  have hn₃ : (h₂.push (kxs_mw "ValueError.__init__" e)).Ns s.heap.objs.size fun y => List.lookup y [(f, v), ("self", .ref e)] := (hns.keeps k₂).keeps k₃
  have hu : (h₂.push (kxs_mw "ValueError.__init__" e)).get? h₂.objs.size = some (kxs_mw "ValueError.__init__" e) := Heap.get?_push_at rfl rfl
  refine kxs_callWith (i := "ValueError.__init__") (x := e) rfl (evalArgs_plain (Calls.spliced_cons (wpAny_Name (wpAny_loadName_local hk hsf hn₃ mF (Calls.spliced_nil ⟨hu, ?_⟩)) hnd)))
  refine bw_call (k₃ _ _ (k₂ _ _ hDC)) (k₃ _ _ hx₂) hu (by show 1 ≤ sizeLine; rw [sizeLine_eq]; omega) fun h₄ t1 k₄ hx₄ => ?_
  have nkC : ∀ b o, K.lookup b = some o → b ≠ e := fun b o z y => by rw [y, hnx] at z; cases z
  have X₄ : K.In h₄ := fun b o z => k₄ b o (nkC b o z) (k₃ b o (X₂ b o z))
  have eL : s.heap.objs.size ≠ e := Nat.ne_of_gt (Heap.lt_size hx)
  have hn₄ : h₄.Ns s.heap.objs.size fun y => List.lookup y [(f, v), ("self", .ref e)] := by
    obtain ⟨o, es, ep, z, r⟩ := hn₃
    exact ⟨o, es, ep, k₄ _ _ eL z, r⟩
  show _root_.PySem.wpAt _ _ _ (execs [_] _) _ _ _
  refine wpAt_of_wpAny (wpAny_execs_cons (plainObj_wpAny_Assign_Attribute (wpAny_Name (wpAny_loadName_local hk hsf hn₄ mF (wpAny_Name (wpAny_loadName_local hk hse hn₄ mS ?_) (by decide))) hnd) ht))
  refine set_plain X₄ (ox := excO C t1) (od := none) ⟨hx₄, rfl, rfl, trivial⟩ T.sa ?_
  refine exc_osa X₄ hx₄ hcl (show refsVE (.ref C :: bm) = true from hbm) rfl T.noN (fun h₅ tk₅ dx k₅ dn dne hx₅ hn₅ => ?_)
  have z1 : s.heap.objs.size < h₁.objs.size := hns.lt
  refine wpAny_execs_nil (hq h₅ tk₅ dx t1 ⟨fun b o hb z => k₅ b o hb (k₄ b o hb (k₃ b o (k₂ b o (k b o z)))), hx₅, ?_, dne, hn₅⟩)
  exact Nat.le_of_lt (Nat.lt_of_lt_of_le hn₄.lt dn)
/-- such an exception, made -/
structure MadeE (h h' : Heap) (e C d : Addr) (f : Str) (v : Value) : Prop where
  keep : ∀ b o, h.get? b = some o → h'.get? b = some o
  new : h.objs.size ≤ e
  obj : ∃ oe vs, h'.get? e = some oe ∧ oe.cls = .ref C ∧ oe.dict = some d ∧ oe.data = .fields vs ∧ vs[1]? = some .none
  dbig : h.objs.size ≤ d
  dne : d ≠ e
  ns : h'.Ns1 d (fun y => if y = f then some v else none)
theorem one_made (T : OneX prog K mg x f C fI) {v : Value} (X : K.In s.heap) (hlim : s.heap.NoLimit) (hg : s.heap.Ns mainGlobals mg) (hb : ∃ mb, s.heap.Ns builtinsNs mb ∧ ∀ x : Str, x ≠ "__name__" → mb x = bootBuiltins x) (hnf : f ≠ ("self" : Str)) (hnd : (f == ("__debug__" : Str)) = false) (hroom : A.depth + 1 < recursionLimit)
    (hq : ∀ h' tk e d, MadeE s.heap h' e C d f v → Rr (.ok (.ret (.ref e))) { s with heap := h', toks := tk }) : codeAny (model prog w) A (.call (.ref C) ⟨[v], []⟩) Rr s := by
  obtain ⟨nm, q, N, bs, bm, sn, sub, ab, col, dd, k0, k1, k2, k3, k5, hC, hbm⟩ := T.cls
  obtain ⟨mb, hb1, hb2⟩ := hb
  obtain ⟨hp, g, dr, tk, os⟩ := s
  have kk : ∀ b o, hp.get? b = some o → ((hp.push (kdv_tup [v])).push (excO C hp.objs.size)).get? b = some o := fun b o z => Heap.get?_push_of_some _ (Heap.get?_push_of_some _ z)
  have he : ((hp.push (kdv_tup [v])).push (excO C hp.objs.size)).get? (hp.objs.size + 1) = some (excO C hp.objs.size) := by heap_get
  have hnx : K.lookup (hp.objs.size + 1) = none := by
    cases z : K.lookup (hp.objs.size + 1) with
    | none => rfl
    | some o => exact absurd (Heap.lt_size (X _ _ z)) (by show ¬ hp.objs.size + 1 < hp.objs.size; omega)
  refine call_own F.excBase_ValueError (fun Y => refsVE_contains Y bm hbm) (X _ _ hC) (looks_findIn X T.iC) (fun self => bind_fn X self T.tC) (by show 1 ≤ sizeLine; rw [sizeLine_eq]; omega) ?_
  refine one_init (s := ⟨(hp.push (kdv_tup [v])).push (excO C hp.objs.size), g, dr, tk, os⟩) T (X.keeps kk) (hlim.keeps kk) (hg.keeps kk) ⟨mb, hb1.keeps kk, hb2⟩ he hnx hnf hnd (by show A.depth + 1 < recursionLimit; exact hroom) fun h' tk' dx t1 M => ?_
  have hz : hp.objs.size + 1 + 1 ≤ dx := by
    have y := M.dbig
    rw [Heap.size_push, Heap.size_push] at y
    exact y
  exact ⟨rfl, hq h' tk' (hp.objs.size + 1) dx ⟨fun b o z => M.keep b o (Nat.ne_of_lt (Nat.lt_succ_of_lt (Heap.lt_size z))) (kk b o z), Nat.le_succ _, ⟨_, _, M.obj, rfl, rfl, rfl, rfl⟩, by show hp.objs.size ≤ dx; omega, M.dne, M.ns⟩⟩
end
end DwX
namespace Dw
open PySem PySem.Spec PyProof.Rows L2
theorem relO_one {v : V} {u : Value} (r : RelV v u) (f y : Str) : RelO (List.lookup y [(f, v)]) (if y = f then some u else none) := relO_put (fs := []) (mA := fun _ => none) r (fun _ => True.intro) y
/-- x(e), x such an exception -/
def tMk1 (C : Addr) (f : Str) (ta : TA) : L2.St → Hp → XK → Prop := fun σ H Q => ta σ H fun vs H1 => ∃ v, vs = [v] ∧ ∀ d, H1 d = none → Q (.ref C) (some d) (upd H1 d (.xd [(f, v)]))
section
variable {X : Cx} {P : Pm} {W : WX} {E : XK} {e a b c : Expr} {es rest : List Expr} {pos : Pos} {ga gb gc g : G} {t u : GT} {C fI : Addr} {x f : Str}
theorem pmk_one {p1 : Pos} {ta : TA} {k : Nat} (T : DwX.OneX X.prog X.K X.mg x f C fI) (hr : Room k X.A) (ha : PA X [a] ta) (hg : Gl X x) (hnf : f ≠ ("self" : Str)) (hnd : (f == ("__debug__" : Str)) = false) (hdb : (x == ("__debug__" : Str)) = false)
    (he : starEach (a :: []) X.env = (false, eval a X.env) :: starEach [] X.env := by rfl) (hpl : (backTo pos (starEach [] X.env)).any (·.1) = false := by rfl) : PMk X (.Call (.Name x p1) [a] [] pos) (tMk1 C f ta) := by
  intro pins s σ H Q I h
  refine wpAny_Call_Name_kw (ld_glob I hg T.gC ?_ hdb)
  refine PySem.W.callWith_K (h₀ := X.base) I.ok.mod.kin T.kC (thn (ha.run pos pins s σ H _ I h) fun us s1 hh => ?_) he hpl
  obtain ⟨vs, H1, I1, r1, v, ev, q1⟩ := hh
  subst ev
  refine ⟨I1.kIn, ?_⟩
  cases r1 with
  | cons rv rn =>
    rename_i v' us'
    cases rn
    show wpAny _ _ (call (.ref C) [v']) _ _ _
    have bk := I1.bk
    have hlim := I1.nolimit
    obtain ⟨mb, b1, b2⟩ := I1.mod.blt
    have hgl := I1.mod.glob
    obtain ⟨hp, gs, dr, tk, os⟩ := s1
    refine wpAny_call (DwX.one_made T I1.kIn hlim (hgl.keeps bk) ⟨mb, b1.keeps bk, b2⟩ hnf hnd (by have := hr.dp; omega) fun h' tk' x0 d M => ?_)
    show MkP X pins σ Q (.ref x0) ⟨h', gs, dr, tk', os⟩
    obtain ⟨oe, fv, hoe, hc, hd, hdat, h1⟩ := M.obj
    obtain ⟨G', g1, g2⟩ := restrict h' fun b => decide (b ≠ x0)
    have gk : ∀ b, b ≠ x0 → G'.get? b = h'.get? b := fun b hb => g1 b (decide_eq_true hb)
    have ge : G'.get? x0 = none := g2 x0 (by simp)
    have old : ∀ b o, hp.get? b = some o → G'.get? b = some o := fun b o z => (gk b (Nat.ne_of_lt (Nat.lt_of_lt_of_le (Heap.lt_size z) M.new))).trans (M.keep b o z)
    have ob : ObjOk X.prog X.w (upd H1 d (.xd [(f, v)])) G' d (.xd [(f, v)]) := ⟨_, M.ns.at (fun o z => (gk d M.dne).trans z), fun y => relO_one rv f y⟩
    have J : Inv X pins σ (upd H1 d (.xd [(f, v)])) ⟨G', gs, dr, tk', os⟩ := I1.laid (t' := tk') old M.dbig ob
    refine ⟨x0, oe, fv, ⟨G', gs, dr, tk', os⟩, _, .ref C, some d, rfl, J, fun b o z => ?_, ge, hoe, ⟨hc, hd⟩, hdat, h1, ?_, rfl, I1.bare, raises_own T.exC T.tyC, q1 d (I1.hok.fresh M.dbig)⟩
    · by_cases hb : b = x0
      · subst hb
        have y : G'.get? b = some o := z
        rw [ge] at y
        cases y
      · rw [← gk b hb]; exact z
    · rw [upd_ne (Ne.symm M.dne)]
      exact I1.hok.fresh M.new
def sRaise (x f : Str) (g : G) : GS := fun ρ m => (g ρ m).bind fun d m => .exc x [(f, d)] m
theorem ds_raise {p1 pos2 : Pos} {k : Nat} (hM : P.mg = X.mg) (hc : X.calm = true) (T : DwX.OneX X.prog X.K X.mg x f C fI) (hr : Room k X.A) (tk : Takes X (xW E)) (ha : PE X a (tE P (xW E) g)) (hg : Gl X x) (hnf : f ≠ ("self" : Str)) (hnd : (f == ("__debug__" : Str)) = false) (hdb : (x == ("__debug__" : Str)) = false)
    (he : starEach (a :: []) X.env = (false, eval a X.env) :: starEach [] X.env := by rfl) (hpl : (backTo pos (starEach [] X.env)).any (·.1) = false := by rfl) : PS X (.Raise (some (.Call (.Name x p1) [a] [] pos)) none pos2) (tS P E (sRaise x f g)) := by
  refine (ps_raise hc tk (pmk_one T hr (pa_cons ha pa_nil he) hg hnf hnd hdb he hpl)).weaken fun D σ H h => ?_
  obtain ⟨α, ρ, m, rm, re, q⟩ := h
  refine ⟨α, ρ, m, rm, re, (Post.bind q).mono fun α1 H1 d m1 e1 r1 p1 v rv => ⟨v, rfl, fun dd hd => ?_⟩⟩
  refine p1 α1 _ (.ref C) (some dd) (Ext.side hd) (r1.side hd) ⟨C, dd, [(f, v)], rfl, by rw [hM]; exact T.gC, rfl, upd_same, .cons (rv.mono (Ext.side hd)) .nil⟩
end
end Dw

namespace Dw
open PySem PySem.Spec PyProof.Rows L2
/-! ### 14. try with several clauses that name the exception -/
abbrev Cls3 := Value × Nat × (Addr → Value → Option Addr → TS)
def bareE (i : Nat) (D : Ends) : Ends := { nx := fun σ H => D.nx (σ.set i none) H, rt := D.rt, bk := fun σ H => D.bk (σ.set i none) H, ct := fun σ H => D.ct (σ.set i none) H }
def wCl (K : PySem.W.Frag) (Wo : WX) (D : Ends) : List Cls3 → WX
  | [] => Wo
  | (c, i, ts) :: r => fun cls d σ H => ∃ b, PySem.W.exmOne K cls c = some b ∧ (b = true → ∀ a, H a = none → ts a cls d (bareE i D) (σ.set i (some (.ref a))) H) ∧ (b = false → wCl K Wo D r cls d σ H)
def wLn (X : Cx) (Wo : WX) (D : Ends) (l : List Cls3) : WX := fun cls d σ H => σ.length = X.N.length → wCl X.K Wo D l cls d σ H
inductive ClsOk (X : Cx) : List ExceptHandler → List Cls3 → Prop
  | nil : ClsOk X [] []
  | cons {x n : Str} {c : Value} {i : Nat} {ts : Addr → Value → Option Addr → TS} {b₀ : Stmt} {su : List Stmt} {np hp : Pos} {hds : List ExceptHandler} {l : List Cls3} (hi : X.N[i]? = some n) (hn : X.env.kindOf n = some .local) (hc : Names X x c)
      (hsu : ∀ (a : Addr) (oe : Obj) (cls : Value) (d : Option Addr) (pn : List (Addr × Obj)), Zc cls d oe → (∃ vs, oe.data = .fields vs) → PSs (X.suite a ((a, oe) :: pn)) (b₀ :: su) (ts a cls d)) (r : ClsOk X hds l) : ClsOk X (.ExceptHandler (some (.Name x np)) (some n) (b₀ :: su) hp :: hds) ((c, i, ts) :: l)
section
variable {X : Cx} {body : List Stmt} {h₀ : ExceptHandler} {hds : List ExceptHandler} {l : List Cls3} {pos : Pos} {tb : WX → TS} {Wo : WX}
theorem ps_try_cls (hs : X.stack = X.env :: X.outer) (hf : X.env.frame = some X.env.locals) (hN : X.N.Nodup) (tk : Takes X Wo)
    (hb : ∀ (W : WX) (pn : List (Addr × Obj)) (xe : Value → Shared → Prop), Takes (X.tr pn xe) W → PassesOwn (model X.prog X.w) X.A X.env xe → PSs (X.tr pn xe) body (tb W)) (hh : ClsOk X (h₀ :: hds) l) : PS X (.Try body (h₀ :: hds) [] [] pos) (fun D σ H => tb (wLn X Wo D l) D σ H) := by
  refine ⟨fun pins s σ H D I h => wpAny_Try_except ?_⟩
  have okI := I.ok
  have frm : X.A.frames = some (X.env :: X.outer) := by rw [okI.frames, hs]
  refine wpAny_mono ((hb (wLn X Wo D l) (X.pn ++ pins) (fun ev s₁ => wpAny (model X.prog X.w) X.A (noteFrame ev X.env) (fun _ s₂ => wpAny (model X.prog X.w) X.A (setFlight ev none) (fun _ s₃ => wpAny (model X.prog X.w) X.A (handleBy ev X.env (h₀ :: hds)) (SP X pins D) X.xe s₃) X.xe s₂) X.xe s₁) (fun u s' xx => ?_) PassesOwn.looking).run [] s σ H D (I.toTry _) h) (fun fl s1 hsp => ?_) (fun ev s1 z => z)
  · obtain ⟨a, B, sI, pins', σ', H', cls, d, rfl, J0, nb, up, sky, na, os, ag, wc0⟩ := xx
    have wc := wc0 (J0.len)
    have J : Inv X pins σ' H' sI := J0.ofTry okI
    have skyX : Sky B (X.env :: X.outer) a (Zc cls d) X.env.locals s'.heap := by rw [← hs]; exact sky
    show wpAny (model X.prog X.w) X.A (noteFrame (.ref a) X.env) _ _ _
    refine Sky.land Zc.steady frm hf skyX fun g3 fy3 uq3 => ?_
    have JA : Inv X pins σ' H' { s' with heap := g3 } := J.landed nb fy3.1 (up.trans uq3) os ag
    obtain ⟨oA, vA, eA, zA, dA⟩ := fy3.there
    have nfr : a ∉ frs (X.env :: X.outer) := fun hm => by
      obtain ⟨_, o', e', hnf⟩ := (fy3.2.2.1).mem hm
      rw [eA] at e'
      cases e'
      exact hnf _ dA
    have nL : a ≠ X.env.locals := fun z => nfr (List.mem_filterMap.mpr ⟨X.env, List.mem_cons_self, by rw [hf, z]⟩)
    have nF : a ∉ X.fs := fun hm => by
      obtain ⟨en, hen, q⟩ := List.mem_filterMap.mp hm
      exact nfr (List.mem_filterMap.mpr ⟨en, List.mem_cons_of_mem _ hen, q⟩)
    have SA := JA.suite eA dA na nL nF
    have go : ∀ {hs' : List ExceptHandler} {l' : List Cls3}, ClsOk X hs' l' → wCl X.K Wo D l' cls d σ' H' → wpAny (model X.prog X.w) X.A (handleBy (.ref a) X.env hs') (SP X pins D) X.xe { s' with heap := g3 } := by
      intro hs' l' hk
      induction hk with
      | nil =>
        intro wl
        refine wpAny_handleBy_nil ?_
        obtain ⟨_, _, _, oe, vs, T, oT, ts', he, hz, hd, h1, hr⟩ := id fy3
        unfold PySem.passOn
        refine wpAny_bind (wpAny_field he hd h1 ?_)
        rw [if_neg (show ¬ ((Value.ref T == Value.none) = true) from by simp)]
        have endX : wpAny (model X.prog X.w) X.A (setFlight (.ref a) X.env.frame) (fun _ s4 => wpAny (model X.prog X.w) X.A (throw (.ref a) : Sem Flow) (SP X pins D) X.xe s4) X.xe { s' with heap := g3 } := by
          rw [hf]
          refine HandSPX.setFlight_upZ fy3 fun g4 hh4 uq4 => wpAny_throw (tk _ _ ⟨a, B, sI, pins, σ', H', cls, d, rfl, J, nb, (up.trans uq3).trans uq4, .inr (.inr (by rw [hs]; exact hh4)), na, os, ag, wl⟩)
        first
          | exact wpAny_bind (wpAny_pure (wpAny_bind endX))
          | exact wpAny_bind endX
      | @cons x n c i ts b₀ su np hp hd2 l2 hi hn hc hsu r ih =>
        intro wl
        obtain ⟨b, hb1, hyes, hno⟩ := wl
        refine wpAny_handleBy_cons (codeAny_handlers_test ?_) (by intro q; cases q)
        have LT : PySem.W.Looks (model X.prog X.w) g3 (typeOf (.ref a)) cls := fun A Q E s k q => wpAny_typeOf_ref (k _ _ eA) (by rw [zA.1]; exact q)
        have LM := PySem.W.exm_one (M := model X.prog X.w) (JA.kIn) LT hb1
        have test : ∀ {Q : Value → Shared → Prop} {E : Value → Shared → Prop}, Q c { s' with heap := g3 } → wpAny (model X.prog X.w) (X.A.mark (some (.ref a))) (eval (.Name x np) X.env) Q E { s' with heap := g3 } := fun {Q E} q => by
          obtain ⟨hg, hdbg, hm | ⟨hm, hv, hnn⟩⟩ := hc
          · exact ld_glob (X := X.suite a ((a, oA) :: (X.pn ++ pins))) SA hg hm q hdbg
          · exact ld_blt (X := X.suite a ((a, oA) :: (X.pn ++ pins))) SA hg hm hv q hnn hdbg
        refine test (LM.here ?_)
        cases b with
        | false =>
          show wpAny _ X.A (handleBy (.ref a) X.env hd2) _ _ _
          exact ih (hno rfl)
        | true =>
          refine codeAny_handlers_suite_as (HandSPX.lands_againZ fy3 fun g4 fy4 uq4 => ?_)
          have JB : Inv X pins σ' H' { s' with heap := g4 } := J.landed nb fy4.1 ((up.trans uq3).trans uq4) os ag
          obtain ⟨oB, vB, eB, zB, dB⟩ := fy4.there
          have SB := JB.suite eB dB na nL nF
          refine store_ok (X := X.suite a ((a, oB) :: (X.pn ++ pins))) (v := .ref a) SB hN hi (.inl hn) rfl (fun s5 SC => ?_) (.inr hn)
          refine wpAny_mono ((hsu a oB cls d (X.pn ++ pins) zB ⟨_, dB⟩).run [] s5 _ H' _ SC (hyes rfl a na)) (fun f s6 hsp => ?_) (fun _ _ z => False.elim z)
          have fin : ∀ {σ6 : L2.St} {H6 : Hp} {Q : Shared → Prop}, Inv (X.suite a ((a, oB) :: (X.pn ++ pins))) [] σ6 H6 s6 → (∀ s7, Inv X pins (σ6.set i none) H6 s7 → Q s7) → wpAny (model X.prog X.w) X.A (do bindName X.env n .none; unbindBehindTheSuite X.env n hp) (fun _ s7 => Q s7) X.xe s6 :=
            fun {σ6 H6 Q} S6 hq => gone_ok (S6.unsuite okI) hN hi hn hq
          cases f with
          | next => obtain ⟨σ6, H6, S6, q6⟩ := hsp; exact fin S6 fun s7 J7 => ⟨_, _, J7, q6⟩
          | brk => obtain ⟨σ6, H6, S6, q6⟩ := hsp; exact fin S6 fun s7 J7 => ⟨_, _, J7, q6⟩
          | cont => obtain ⟨σ6, H6, S6, q6⟩ := hsp; exact fin S6 fun s7 J7 => ⟨_, _, J7, q6⟩
          | ret u => obtain ⟨v6, σ6, H6, S6, r6, q6⟩ := hsp; exact fin S6 fun s7 J7 => ⟨_, _, _, J7, r6, q6⟩
    exact go hh wc
  · cases fl with
    | next => obtain ⟨σ', H', J', q⟩ := hsp; exact wpAny_execs_nil ⟨σ', H', J'.ofTry okI, q⟩
    | brk => obtain ⟨σ', H', J', q⟩ := hsp; exact ⟨σ', H', J'.ofTry okI, q⟩
    | cont => obtain ⟨σ', H', J', q⟩ := hsp; exact ⟨σ', H', J'.ofTry okI, q⟩
    | ret u => obtain ⟨v, σ', H', J', r, q⟩ := hsp; exact ⟨v, σ', H', J'.ofTry okI, r, q⟩
end

/-! ### 15. a lambda handed to a def that calls it and tells what it raises -/
structure Cl4 where
  x : Str
  C : Addr
  msg : Str
  f : Str
def clauseOf : List Cl4 → Str → List (Str × D) → Option (Str × D)
  | [], _, _ => none
  | k :: r, c, fs => if c = k.x then (fs.lookup k.f).map fun d => (k.msg, d) else clauseOf r c fs
/-- what is told of a result -/
def toldR (l : List Cl4) (r : R D) : R D := match r with
  | .ok d m => .ok d m
  | .exc c fs m => match clauseOf l c fs with
    | some (msg, d) => .ok (.ref m.length) (m ++ [.lst [.str msg, d]])
    | none => .bad
  | .bad => .bad
def eTold (l : List Cl4) (g : G) : G := fun ρ m => toldR l (g ρ m)
/-- the classes of the clauses -/
structure ClassesOk (P : Pm) (l : List Cl4) : Prop where
  mg : ∀ k ∈ l, P.mg k.x = some (.ref k.C)
  exm : ∀ k ∈ l, ∀ j ∈ l, PySem.W.exmOne P.K (.ref k.C) (.ref j.C) = some (decide (k.x = j.x))
  xf : ∀ k ∈ l, XfC P.K k.C
  no : ∀ k ∈ l, PySem.W.findIn P.K (.ref k.C) k.f = some none
def cl3 (i : Nat) (k : Cl4) : Cls3 := (.ref k.C, i, fun a cls d => tRet (tLst (tCons (tC (.str k.msg)) (tCons (tXf a cls d k.C k.f (tVar i)) tNil))))
/-- the clauses' text: en the exception's name -/
inductive ClTxt (X : Cx) (en : Str) : List Cl4 → List ExceptHandler → Prop
  | nil : ClTxt X en [] []
  | cons {k : Cl4} {j : Nat} {np p1 p2 p3 p4 p5 p6 : Pos} {r : List Cl4} {hds : List ExceptHandler} (hg : Gl X k.x) (hd : (k.x == ("__debug__" : Str)) = false) (h : ClTxt X en r hds) :
      ClTxt X en (k :: r) (.ExceptHandler (some (.Name k.x np)) (some en) [.Return (some (.List [.Constant (.str k.msg) j p1, .Attribute (.Name en p2) k.f p3] p4)) p5] p6 :: hds)
section
variable {P : Pm}
theorem rfs_lookup {α : List Addr} {H : Hp} {f : Str} {d : D} : ∀ {fv : List (Str × V)} {fs : List (Str × D)}, RFs P α H fv fs → fs.lookup f = some d → ∃ v, fv.lookup f = some v ∧ RD P α H v d
  | _, _, .nil, h => by simp [List.lookup] at h
  | _, _, .cons (n := n) r rs, h => by
    simp only [List.lookup] at h ⊢
    split at h
    · cases h; exact ⟨_, rfl, r⟩
    · exact rfs_lookup rs h
theorem clause_mem : ∀ {l : List Cl4} {c : Str} {fs : List (Str × D)} {z : Str × D}, clauseOf l c fs = some z → ∃ k ∈ l, c = k.x
  | [], _, _, _, h => by cases h
  | k :: r, c, fs, z, h => by
    unfold clauseOf at h
    split at h
    · rename_i e; exact ⟨k, List.mem_cons_self, e⟩
    · obtain ⟨j, hj, e⟩ := clause_mem h; exact ⟨j, List.mem_cons_of_mem _ hj, e⟩
theorem told_wish {l0 : List Cl4} (C : ClassesOk P l0) {i n : Nat} (hi : i < n) {α : List Addr} {H : Hp} {cls : Value} {dd : Option Addr} {c : Str} {fs : List (Str × D)} {D0 : Ends} {msg : Str} {d : D} (x : ExcR P α H cls dd c fs)
    (hw : ∀ v p, RD P α H v d → H p = none → D0.rt (.ref p) (upd H p (.lst [.str msg, v]))) :
    ∀ {l : List Cl4}, (∀ k ∈ l, k ∈ l0) → clauseOf l c fs = some (msg, d) → ∀ σ : L2.St, σ.length = n → wCl P.K (fun _ _ _ _ => False) D0 (l.map (cl3 i)) cls dd σ H := by
  intro l
  obtain ⟨Ca, da, fv, rfl, hm, rfl, hxd, rf⟩ := x
  induction l with
  | nil => intro _ h; cases h
  | cons k r ih =>
    intro hl h σ hσ
    obtain ⟨k2, hk2, ec⟩ := clause_mem h
    have hC2 : Ca = k2.C := by
      have y := C.mg k2 (hl k2 hk2)
      rw [← ec, hm] at y
      cases y; rfl
    have hk0 := hl k List.mem_cons_self
    refine ⟨_, by rw [hC2]; exact C.exm k2 (hl k2 hk2) k hk0, fun e a ha => ?_, fun e => ?_⟩
    · have e2 : k2.x = k.x := of_decide_eq_true e
      have eC : Ca = k.C := by
        have y := C.mg k hk0
        rw [← e2, ← ec, hm] at y
        cases y; rfl
      unfold clauseOf at h
      rw [if_pos (ec.trans e2)] at h
      cases el : fs.lookup k.f with
      | none => rw [el] at h; cases h
      | some d' =>
        rw [el] at h
        have h' := Option.some.inj h
        cases h'
        obtain ⟨v, hv, rv⟩ := rfs_lookup rf el
        refine ⟨.ref a, ?_, rfl, by rw [eC], da, fv, v, rfl, hxd, hv, (by show 2 ≤ sizeLine; rw [sizeLine_eq]; omega), fun p hp => hw v p rv hp⟩
        exact List.getElem?_set_self (by omega)
    · have e2 : ¬ k2.x = k.x := of_decide_eq_false e
      unfold clauseOf at h
      rw [if_neg (by rw [ec]; exact e2)] at h
      exact ih (fun j hj => hl j (List.mem_cons_of_mem _ hj)) h σ hσ
theorem clsOk_of {X : Cx} {en : Str} {i : Nat} {l0 : List Cl4} (hK : P.K = X.K) (hM : P.mg = X.mg) (C : ClassesOk P l0) (hi : X.N[i]? = some en) (hn : X.env.kindOf en = some .local) (hd : (en == ("__debug__" : Str)) = false) (hcd : (en == ("__classdict__" : Str)) = false) : ∀ {l : List Cl4} {hds : List ExceptHandler}, (∀ k ∈ l, k ∈ l0) → ClTxt X en l hds → ClsOk X hds (l.map (cl3 i)) := by
  intro l hds hl h
  induction h with
  | nil => exact .nil
  | @cons k j np p1 p2 p3 p4 p5 p6 r hds hg hdx h ih =>
    refine .cons hi hn ⟨hg, hdx, .inl (by rw [← hM]; exact C.mg k (hl k List.mem_cons_self))⟩ (fun a oe cls d pn hz hf => ?_) (ih fun j hj => hl j (List.mem_cons_of_mem _ hj))
    exact pss_one (ps_ret (pe_lst (pa_cons pe_str (pa_cons (pe_xf (by rw [← hK]; exact C.xf k (hl k List.mem_cons_self)) (by rw [← hK]; exact C.no k (hl k List.mem_cons_self)) hz hf (pe_var hi (.inl hn) hd hcd)) pa_nil))))
/-- told: the reading of its body, tl the lambda's own -/
def TTo (P : Pm) (l : List Cl4) : (XK → Hp → VK → Prop) → Hp → VK → Prop := fun tl H Q =>
  tl (fun cls d H' => ∀ σ : L2.St, σ.length = 2 → wCl P.K (fun _ _ _ _ => False) { nx := fun _ H' => Q .non H', rt := Q } (l.map (cl3 1)) cls d σ H') H Q
theorem told_gives2 {X : Cx} {a x en q : Str} {sg : Scope} {g : Addr} {cdg : Value} {l : List Cl4} {h₀ : ExceptHandler} {hds : List ExceptHandler} {p1 p2 p3 p8 : Pos} (hK : P.K = X.K) (hM : P.mg = X.mg) (C : ClassesOk P l) (hnd : [a, en].Nodup) (hln : sg.names.lookup en = some .local) (hd : (en == ("__debug__" : Str)) = false) (hcd : (en == ("__classdict__" : Str)) = false)
    (ht : ∀ (s : Shared) (H : Hp), ClTxt (cxOf C8.CX0 X.prog X.w X.K X.mg X.base [a, en] x sg g cdg X.A X.stack s H C8.E0).nox en l (h₀ :: hds)) :
    LamX.GivesTo X [a, en] x sg g cdg [.Try [.Return (some (.Call (.Name a p1) [] [] p2)) p3] (h₀ :: hds) [] [] p8] a q (TTo P l) := by
  intro f c' s H Q tl act hc h
  refine ⟨_, pss_one (ps_try_cls (X := (cxOf C8.CX0 X.prog X.w X.K X.mg X.base [a, en] x sg g cdg X.A X.stack s H C8.E0).nox) (Wo := fun _ _ _ _ => False) (l := l.map (cl3 1)) (tb := fun W D σ H => ∃ Ech : XK, (∀ cls d σ' H', Ech cls d H' → W cls d σ' H') ∧ σ[0]? = some (some (.ref f)) ∧ H c' = some (LamX.CodeO c' q) ∧ tl Ech H D.rt)
      rfl rfl hnd LamX.takes0 (fun W pn xe tk _ => ?_) (clsOk_of (X := (cxOf C8.CX0 X.prog X.w X.K X.mg X.base [a, en] x sg g cdg X.A X.stack s H C8.E0).nox) (i := 1) hK hM C rfl hln hd hcd (fun k hk => hk) (ht s H))), ?_⟩
  · refine ⟨fun pins s' σ H' D I h' => ?_⟩
    obtain ⟨Ech, hW, h1, h2, h3⟩ := h'
    exact (pss_one (ps_ret (pos := p3) (act W pn xe Ech p1 p2 tk hW))).run pins s' σ H' D I ⟨h1, h2, h3⟩
  · exact ⟨_, fun cls d σ' H' z hl => by rw [← hK]; exact z σ' hl, rfl, hc, h⟩
end
section
variable {X : Cx} {P : Pm} {W : WX}
theorem xN_sqt {K : PySem.W.Frag} {H H1 : Hp} (e : LamX.ExtN H H1) {b : Addr} {xs : List V} (h : SqT K H b xs) : SqT K H1 b xs := by
  rcases h with (h | ⟨o, h⟩) | h
  · exact .inl (.inl (e b _ h fun _ z => nomatch z))
  · exact .inl (.inr ⟨o, e b _ h fun _ z => nomatch z⟩)
  · exact .inr h
theorem xN_frz {K : PySem.W.Frag} {H H1 : Hp} (e : LamX.ExtN H H1) {b : Addr} {xs : List V} (h : FrzL K H b xs) : FrzL K H1 b xs := by
  rcases h with ⟨o, h⟩ | h
  · exact .inl ⟨o, e b _ h fun _ z => nomatch z⟩
  · exact .inr h
theorem xN_ext {α : List Addr} {H H1 : Hp} (e : LamX.ExtN H H1) : Ext P α H α H1 := ⟨⟨[], by simp⟩, fun b o h n t => ⟨e b o h t, n⟩, fun _ _ h => xN_sqt e h, fun _ _ h => xN_frz e h⟩
theorem xN_rm {α : List Addr} {H H1 : Hp} {m : Mem} (e : LamX.ExtN H H1) (t : LamX.Tabs P.T H1) (rm : RM P α H m) : RM P α H1 m := ⟨rm.len, rm.inj, fun i c a h1 h2 => by
  have z := rm.cell i c a h1 h2
  cases c with
  | lst ds => obtain ⟨vs, q, r⟩ := z; exact ⟨vs, e a _ q (fun _ z => nomatch z), r.mono (xN_ext e)⟩
  | dct ds => obtain ⟨vs, q, r⟩ := z; exact ⟨vs, e a _ q (fun _ z => nomatch z), r.mono (xN_ext e)⟩, t⟩
/-- the lambda's reading becomes told's -/
theorem lam_told {l : List Cl4} {g : G} {σ : L2.St} {H : Hp} {Q : VK} (C : ClassesOk P l) (h : tE P W (eTold l g) σ H Q) : LamX.tLam P.T (TTo P l) (fun E => tE P (xW E) g) σ H Q := by
  obtain ⟨α, ρ, m, rm, re, q⟩ := h
  refine ⟨rm.tab, fun H1 eN T1 => ?_⟩
  have e1 : Ext P α H α H1 := xN_ext eN
  have r1 := xN_rm eN T1 rm
  refine ⟨α, ρ, m, r1, re.mono e1, ?_⟩
  have q1 := Post.from q e1
  unfold eTold toldR at q1
  cases hg : g ρ m with
  | ok d m1 => rw [hg] at q1; exact q1
  | bad => rw [hg] at q1; exact q1
  | exc c fs m1 =>
    rw [hg] at q1
    dsimp only at q1
    cases hc : clauseOf l c fs with
    | none => rw [hc] at q1; exact False.elim q1
    | some z =>
      obtain ⟨msg, d⟩ := z
      rw [hc] at q1
      intro α2 H2 cls dd e2 r2 x2 σ2 hl2
      refine told_wish C (by omega : 1 < 2) x2 (fun v p rv hp => ?_) (fun k hk => hk) hc σ2 hl2
      have hnw : RM P (α2 ++ [p]) (upd H2 p (.lst [.str msg, v])) (m1 ++ [.lst [.str msg, d]]) := r2.new hp ⟨_, upd_same, .cons (.str msg) (.cons (rv.mono (Ext.new hp)) .nil)⟩
      exact q1 (α2 ++ [p]) _ (e2.trans (Ext.new hp)) hnw _ (.ref (by rw [← r2.len, List.getElem?_concat_length]))
theorem de_told {l : List Cl4} {gg : G} {x a : Str} {g c Pt : Addr} {k : Nat} {pg : Arguments} {bg : List Stmt} {sg : Scope} {dV kV doc pm cdv ct oc : Value} {an od : Option Addr} {osl : Array (Option Value)} {Ng : List Str} {params : Arguments} {body : Expr} {scope : Scope} {p lpos pos : Pos}
    (C : ClassesOk P l) (hg : Gl X x) (hm : X.mg x = some (.ref g)) (hk : PySem.W.keepIn X.K (.ref g) = true) (lk : X.K.lookup g = some ⟨oc, od, .func (PySem.W.fnOf x x pg bg sg dV kV doc pm an cdv ct), osl⟩) (hcg : PySem.W.codeIn X.K cdv x = true)
    (hb : L2.Binds X.K (PySem.W.fnOf x x pg bg sg dV kV doc pm an cdv ct) [a] []) (Sg : FnScope Ng [a] sg) (hNg : Ng[0]? = some a) (hva : Vis sg a) (hG : LamX.GivesTo X Ng x sg g cdv bg a (X.env.qual ++ "<lambda>") (TTo P l)) (TB : LamX.TabB X.base X.mg c Pt) (hcode : X.env.code = .ref c) (hmT : (Pt, X.env.qual ++ "<lambda>") ∈ P.T)
    (hu : ∀ p ∈ P.T, p.1 = Pt → p.2 = X.env.qual ++ "<lambda>") (hr : Room (k + 2) X.A) (L : LamX.LamS X.env.scope scope) (hdef : defaultsOf params X.env = ([], [])) (hbind : ∀ (q : Str) (cl : List (Str × Addr)) (pm cv ctv : Value), bindArgs (PySem.W.kla_fn "<lambda>" q params body scope cl pm cv ctv) ⟨[], []⟩ = pure [])
    (hbody : ∀ (A : Around) (outer : List PySem.Env) (s : Shared) (H : Hp) (E : XK) (f c' : Addr), Room k (A.deeper (LamX.lamEnv X scope s.heap.objs.size f c')) → PE (LamX.lamCx X A outer s H E scope f c') body (tE P (xW E) gg))
    (hdb : (x == ("__debug__" : Str)) = false := by decide) (hd : (a == ("__debug__" : Str)) = false := by decide) (hcd : (a == ("__classdict__" : Str)) = false := by decide) : PE X (.Call (.Name x p) [.Lambda params body scope lpos] [] pos) (tE P W (eTold l gg)) :=
  (LamX.pe_lamcall (t := fun E => tE P (xW E) gg) hg hm hk lk hcg hb Sg hNg hva hG TB hcode hmT hu hr L hdef hbind hbody hdb hd hcd).weaken fun σ H Q h => lam_told C h
end
end Dw

namespace Dw
open PySem PySem.Spec PyProof.Rows L2
/-! ### 16. the end: the law's own call -/
theorem rds_ints {P : Pm} {α : List Addr} {H : Hp} : ∀ ns : List Int, RDs P α H (ns.map V.int) (ns.map D.int)
  | [] => .nil
  | n :: r => .cons (.int n) (rds_ints r)
section
variable {p : Program} {w : World} {P : Pm} {tbs : List (Addr × Addr)} {mb : Str → Option Value} {k : Nat} {fa a : Addr} {fd : FuncData} {x : Str} {cf : List D → Mem → R D} {s : Shared} {vs : List Value} {ns : List Int}
/-- the abstract heap ahead of the law: the tables; the script where it is not written -/
def hpEnd (K : PySem.W.Frag) (tbs : List (Addr × Addr)) (a : Addr) (vs : List Value) (ns : List Int) : Hp := fun b =>
  if b = a ∧ K.lookup a = none then some (.frz { cls := .type "list", data := .seq vs.toArray } (.lst (ns.map V.int))) else if b ∈ tbs.map (·.2) then some (.tbl #[]) else none
theorem law_end (hk : P.K.In s.heap) (hgl : s.heap.Ns mainGlobals P.mg) (hbl : s.heap.Ns builtinsNs mb) (hbb : ∀ y : Str, y ≠ "__name__" → mb y = bootBuiltins y) (hlim : s.heap.NoLimit) (hgen : s.gens = #[])
    (tabs : ∀ z ∈ tbs, s.heap.get? z.2 = some { cls := .none, data := .fields #[] } ∧ P.K.lookup z.2 = none ∧ PySem.W.CodeHd s.heap z.1 z.2) (hT : ∀ z ∈ P.T, z.1 ∈ tbs.map (·.2))
    (hbm : ∃ (bm : Addr) (ob : Obj), P.mg "__builtins__" = some (.ref bm) ∧ bm ≠ builtinsNs ∧ s.heap.get? bm = some ob ∧ ob.cls = .type "module" ∧ ob.dict = some builtinsNs ∧ ob.data = .plain)
    (hobj : s.heap.get? a = some { cls := .type "list", data := .seq vs.toArray }) (hints : IntsAre vs ns) (hlen : ns.length ≤ sizeLine) (hr : Room k callerA)
    (F : ∀ base : Heap, P.K.In base → base.Ns mainGlobals P.mg → (∀ z ∈ tbs, LamX.TabB base P.mg z.1 z.2) → FnG p w P base true k fa fd [x] cf) (hbind : ∀ (s : Shared) (u : Value), BindsTo s fd ⟨[u], []⟩ [(x, u)]) (law : ∃ m, cf [.fl (ns.map D.int)] [] = .ok (.bl true) m) :
    codeAny (model p w) callerA (.call (.ref fa) ⟨[.ref a], []⟩) (fun r s' => r = .ok (.ret (.bool true)) ∧ OldK s.heap s'.heap ∧ s'.os = s.os ∧ AllBare s'.gens) s := by
  obtain ⟨H, eH⟩ : ∃ H, H = hpEnd P.K tbs a vs ns := ⟨_, rfl⟩
  have isT : ∀ b, b ∈ tbs.map (·.2) → s.heap.get? b = some { cls := .none, data := .fields #[] } := fun b hb => by
    obtain ⟨z, hz, rfl⟩ := List.mem_map.mp hb
    exact (tabs z hz).1
  have aT : a ∉ tbs.map (·.2) := fun hb => by
    have q := isT a hb
    rw [hobj] at q
    cases congrArg Obj.data (Option.some.inj q)
  -- what H tells
  have tell : ∀ b o, H b = some o → (b = a ∧ P.K.lookup a = none ∧ o = .frz { cls := .type "list", data := .seq vs.toArray } (.lst (ns.map V.int))) ∨ (b ∈ tbs.map (·.2) ∧ o = .tbl #[]) := fun b o q => by
    rw [eH] at q
    unfold hpEnd at q
    split at q
    · rename_i c; cases q; exact .inl ⟨c.1, c.2, rfl⟩
    · split at q
      · rename_i c; cases q; exact .inr ⟨c, rfl⟩
      · cases q
  have atT : ∀ b, b ∈ tbs.map (·.2) → H b = some (.tbl #[]) := fun b hb => by
    rw [eH]; unfold hpEnd
    rw [if_neg (fun c => aT (by rw [← c.1]; exact hb)), if_pos hb]
  have free : ∀ {b o}, s.heap.get? b = some o → (∀ us n, o.data ≠ .seq us n) → o.data ≠ .fields #[] → H b = none := fun {b o} e h1 h2 => by
    cases q : H b with
    | none => rfl
    | some u =>
      rcases tell b u q with ⟨rfl, _, _⟩ | ⟨hb, _⟩
      · rw [hobj] at e; cases e; exact absurd rfl (h1 _ _)
      · rw [isT b hb] at e; cases e; exact absurd rfl h2
  have freeK : ∀ {b o}, P.K.lookup b = some o → H b = none := fun {b o} e => by
    cases q : H b with
    | none => rfl
    | some u =>
      rcases tell b u q with ⟨rfl, hn, _⟩ | ⟨hb, _⟩
      · rw [hn] at e; cases e
      · obtain ⟨z, hz, rfl⟩ := List.mem_map.mp hb
        rw [(tabs z hz).2.1] at e; cases e
  have rv := vals_ints hints
  have hok : HOk p w H s.heap := fun b u q => by
    rcases tell b u q with ⟨rfl, _, rfl⟩ | ⟨hb, rfl⟩
    · exact ⟨hobj, by rw [List.length_map]; exact hlen, vs, _, rv, hobj⟩
    · exact isT b hb
  have nsK : ∀ {b : Addr} {m : Str → Option Value}, s.heap.Ns b m → (hidT s.heap H).Ns b m := fun {b m} ⟨o, es, ep, e, hd, r⟩ =>
    ⟨o, es, ep, hidT_get e (free e (fun us n z => by rw [hd] at z; cases z) fun z => by rw [hd] at z; cases z), hd, r⟩
  have kIn : P.K.In (hidT s.heap H) := fun b o e => hidT_get (hk b o e) (freeK e)
  have hmod : L2.Mod P.K P.mg (hidT s.heap H) := ⟨kIn, nsK hgl, ⟨mb, nsK hbl, hbb⟩, let ⟨mc, h1, h2⟩ := hlim; ⟨mc, nsK h1, h2⟩⟩
  have noG : ∀ {b : Addr} {o : Obj}, s.heap.get? b = some o → (∀ es ep, o.data ≠ .dict es ep) → mainGlobals ≠ b := fun {b o} e hd z => by
    obtain ⟨o', es, ep, e', hd', _⟩ := hgl
    rw [z, e] at e'
    cases e'
    exact hd _ _ hd'
  have tabB : ∀ z ∈ tbs, LamX.TabB (hidT s.heap H) P.mg z.1 z.2 := fun z hz => by
    obtain ⟨t1, t2, t3⟩ := tabs z hz
    refine ⟨?_, ?_, noG t1 fun es ep q => by cases q⟩
    · obtain ⟨o, us, file, tf, flags, tg, inF, text, tt, c1, c2, c3, c4, cr⟩ := t3
      refine ⟨o, us, file, tf, flags, tg, inF, text, tt, hidT_get c1 (free c1 (fun us n q => by rw [c3] at q; cases q) fun q => ?_), c2, c3, c4, cr⟩
      rw [c3] at q
      cases q
      simp at c4
    · obtain ⟨bm, ob, b1, b2, b3, b4, b5, b6⟩ := hbm
      refine ⟨bm, ob, b1, b2, fun q => noG b3 (fun es ep q => by rw [b6] at q; cases q) q.symm, fun q => ?_, hidT_get b3 (free b3 (fun us n q => by rw [b6] at q; cases q) fun q => by rw [b6] at q; cases q), b4, b5, b6⟩
      rw [q, t1] at b3
      cases b3
      cases b6
  have env0 : Env0 p w P.K P.mg (hidT s.heap H) callerA [] s H := ⟨rfl, hmod, fun b o e => of_hidT e, Nat.le_of_eq (hidT_size _ _), trivial, fun b hb => absurd (show b ∈ ([] : List Addr) from hb) (by simp), hok, .of_eq hgen⟩
  have frz : FrzL P.K H a (ns.map V.int) := by
    cases hka : P.K.lookup a with
    | none => exact .inl ⟨_, by rw [eH]; unfold hpEnd; rw [if_pos ⟨rfl, hka⟩]⟩
    | some o =>
      have e := hk a o hka
      rw [hobj] at e
      cases e
      exact .inr fun H' => .inr ⟨_, vs.toArray, _, hka, rfl, rfl, rfl, by rw [List.size_toArray, hints.length]; exact hlen, by simpa using rv⟩
  have rm : RM P [] H [] := ⟨rfl, fun i j b h => by simp at h, fun i c b h => by simp at h, fun z hz => LamX.TabS.nil (atT _ (hT z hz))⟩
  obtain ⟨m1, hlaw⟩ := law
  have sp : spD P ([x] : List Str).length cf [V.ref a] H (fun v _ => v = .bl true) (fun _ _ _ => False) := by
    refine ⟨rfl, [], [], [.fl (ns.map D.int)], rm, .cons (.fl frz (rds_ints ns)) .nil, ?_⟩
    rw [hlaw]
    intro α' H' e1 r1 v rvv
    cases rvv
    rfl
  refine codeAny_mono ((F _ kIn (nsK hgl) tabB).run callerA [] s H ⟨[.ref a], []⟩ [.ref a] [.ref a] _ _ hr (fun _ => rfl) env0 (hbind s (.ref a)) (.cons rfl .nil) sp) fun r s' hq => ?_
  cases r with
  | error e =>
    obtain ⟨_, _, _, _, _, _, _, _, _, _, _, _, z⟩ := hq
    exact z.elim
  | ok fl => cases fl with
    | next => exact False.elim hq
    | brk => exact False.elim hq
    | cont => exact False.elim hq
    | ret u =>
      obtain ⟨v, H', os, bare, un, hok', rel, ev⟩ := hq
      have ev' : v = V.bl true := ev
      subst ev'
      obtain rfl : u = Value.bool true := rel
      have same : ∀ b o, b ∉ tbs.map (·.2) → s.heap.get? b = some o → s'.heap.get? b = some o := fun b o nb e => by
        cases q : H b with
        | none => exact un.keep b o e q (by intro z; exact absurd (show b ∈ ([] : List Addr) from z) (by simp)) (by simp)
        | some u =>
          rcases tell b u q with ⟨rfl, _, rfl⟩ | ⟨hb, _⟩
          · have z1 := hok' b _ (un.frzs b _ _ q)
            rw [hobj] at e
            cases e
            exact z1.1
          · exact absurd hb nb
      refine ⟨rfl, ⟨fun b o e => ?_, fun b o e => ?_⟩, os, bare⟩
      · by_cases hb : b ∈ tbs.map (·.2)
        · obtain ⟨more, z⟩ := un.tbls b #[] (atT b hb)
          have z2 := hok' b _ z
          obtain ⟨t, ht, et⟩ := List.mem_map.mp hb
          obtain ⟨t1, _, t3⟩ := tabs t ht
          rw [isT b hb] at e
          cases e
          refine .inr (.inl ⟨?_, rfl, #[], more, rfl, by rw [Array.empty_append]; rw [Array.empty_append] at z2; exact z2⟩)
          rw [← et]
          exact (t3.tab t1).isCodeTable
        · exact .inl (same b o hb e)
      · by_cases hb : b ∈ tbs.map (·.2)
        · obtain ⟨more, z⟩ := un.tbls b #[] (atT b hb)
          exact ⟨_, hok' b _ z⟩
        · exact ⟨o, same b o hb e⟩
end
theorem walk_G {l : PySem.W.OpenLaw} {n k : Nat} {q : Program} {loose : List Str} {XP : (Str → Option Value) → Heap → Prop} {YP : World → Heap → Prop} {d : DefRec} {x : Str} {cf : List D → Mem → R D} (hn : l.most = some n) (hn2 : n ≤ sizeLine) (hdf : d.params.defaults = []) (hr : Room k callerA)
    (F : ∀ (w : World) (mg : Str → Option Value) (fa : Addr) (h : Heap), YP w h → h.Ns mainGlobals mg → mg d.name = some (.ref fa) → ∃ (K : PySem.W.Frag) (T : List (Addr × Str)) (tbs : List (Addr × Addr)) (fd : FuncData), K.In h ∧
      (∀ z ∈ tbs, h.get? z.2 = some { cls := .none, data := .fields #[] } ∧ K.lookup z.2 = none ∧ PySem.W.CodeHd h z.1 z.2) ∧ (∀ z ∈ T, z.1 ∈ tbs.map (·.2)) ∧ (∀ (s : Shared) (u : Value), BindsTo s fd ⟨[u], []⟩ [(x, u)]) ∧
      ∀ base : Heap, K.In base → base.Ns mainGlobals mg → (∀ z ∈ tbs, LamX.TabB base mg z.1 z.2) → FnG l.prog w ⟨K, mg, T⟩ base true k fa fd [x] cf)
    (law : ∀ ns : List Int, ns.length ≤ n → (∀ z ∈ ns, Builtin.Int.intBits z ≤ 1048576) → ∃ m, cf [.fl (ns.map D.int)] [] = .ok (.bl true) m) : PySem.W.WalkO q loose XP YP l.row.toRowW d [] (fun f vs => PySem.call f vs) := by
  refine Att.attach_callB hn hdf fun w s₀ s₁ mg mb fa o pm cd doc a vs ns G Y ho hd hcd hmg hobj hints hlen hbits hg => ?_
  obtain ⟨K, T, tbs, fd, kIn, tabs, hT, hb, hF⟩ := F w mg fa _ Y G.T.g hmg
  exact law_end (P := ⟨K, mg, T⟩) kIn G.T.g G.T.b G.T.builtins G.T.nolimit hg tabs hT G.T.bmain hobj hints (Nat.le_trans hlen hn2) hr hF hb (law ns hlen hbits)
end Dw

namespace Dw
open PySem PySem.Spec PyProof.Rows L2
/-! ### 17. methods of built-in types -/
def tyD (T : String) (x : D) (m : Mem) : Bool := match x with
  | .str _ => T == "str"
  | .fl _ => T == "list"
  | .ref n => match m[n]? with
    | some (.lst _) => T == "list"
    | some (.dct _) => T == "dict"
    | none => false
  | _ => false
def methK (T : String) (f : D → List D → Mem → Option (D × Mem)) (a : GA) (ρ : Env) (x : D) (m : Mem) : R D := if tyD T x m = true then (a ρ m).bind fun ds m => R.of (f x ds m) else .bad
def eMeth (T : String) (f : D → List D → Mem → Option (D × Mem)) (g : G) (a : GA) : G := fun ρ m => (g ρ m).bind fun x m => methK T f a ρ x m
def appD (x : D) (ds : List D) (m : Mem) : Option (D × Mem) := match x, ds with
  | .ref n, [d] => match m[n]? with
    | some (.lst xs) => if xs.length < sizeLine then some (.non, m.set n (.lst (xs ++ [d]))) else none
    | _ => none
  | _, _ => none
section
variable {X : Cx} {P : Pm} {W : WX} {E : XK} {e a b c o : Expr} {es rest : List Expr} {pos apos cpos : Pos} {ga gb gc g : G} {ta : GA} {t u : GT} {T id : String} {name : Str} {r : V → List V → Hp → VK → Prop} {f : D → List D → Mem → Option (D × Mem)}
theorem tyD_ok {α : List Addr} {H : Hp} {m : Mem} {v : V} {d : D} (hK : P.K = X.K) (rm : RM P α H m) (r : RD P α H v d) (h : tyD T d m = true) : tyV X.K T v H := by
  cases r with
  | str x => exact eq_of_beq h
  | fl hf r =>
    have e : T = "list" := eq_of_beq h
    exact .inl ⟨e, _, by rw [← hK]; exact hf.sql⟩
  | @ref a n ha =>
    unfold tyD at h
    dsimp only at h
    split at h
    · rename_i hc
      obtain ⟨vs, e1, _⟩ := rm.cell _ _ _ hc ha
      exact .inl ⟨eq_of_beq h, vs, SqL.of e1⟩
    · rename_i hc
      obtain ⟨vs, e1, _⟩ := rm.cell _ _ _ hc ha
      exact .inr (.inr (.inl ⟨eq_of_beq h, .inl ⟨_, e1⟩⟩))
    · cases h
  | _ => cases h
theorem meth_un (hK : P.K = X.K) {σ : L2.St} {H : Hp} {Q : VK} (h : tE P W (eMeth T f g ta) σ H Q) : tBM X.K T (rM P f) (tE P W g) (tA P W ta) σ H Q := by
  obtain ⟨α, ρ, m, rm, re, q⟩ := h
  refine ⟨α, ρ, m, rm, re, (Post.bind q).mono fun α1 H1 x m1 e1 r1 p1 v rv => ?_⟩
  unfold methK at p1
  split at p1
  · rename_i ht
    refine ⟨tyD_ok hK r1 rv ht, α1, ρ, m1, r1, re.mono e1, (Post.bind p1).mono fun α2 H2 ds m2 e2 r2 p2 vs rs => ?_⟩
    exact ⟨α2, m2, x, ds, r2, rv.mono e2, rs, p2.of⟩
  · exact False.elim p1
theorem de_meth (hK : P.K = X.K) (pa : PlainAttrs T) (slot : Slot T name id) (hty : typeOf (.builtin id) = pure (.type "method_descriptor")) (hm : MtR X id (rM P f)) (ho : PE X o (tE P W g)) (ha : PA X (e :: es) (tA P W ta))
    (hbase : attributeBase o name X.env (eval o X.env) = eval o X.env := by rfl)
    (hfew : ((backTo cpos (starEach (e :: es) X.env)).all (fun x => !x.1) && (backToKw cpos (keywordEach [] X.env)).all (fun x => x.1.isSome) && decide ((e :: es).length + ([] : List Keyword).length + (if ([] : List Keyword).isEmpty then 0 else 1) < 30)) = true := by rfl)
    (hline : (apos.endLine == cpos.line) = true := by rfl) (hs : starEach (e :: es) X.env = (false, eval e X.env) :: starEach es X.env := by rfl) (hplain : (backTo cpos (starEach es X.env)).any (·.1) = false := by rfl) :
    PE X (.Call (.Attribute o name apos) (e :: es) [] cpos) (tE P W (eMeth T f g ta)) :=
  (pe_bm pa slot hty hm ho ha hbase hfew hline hs hplain).weaken fun σ H Q h => meth_un hK h
theorem mt_appD : MtR X "list.append" (rM P appD) := by
  intro pins s σ H x vs v us Q I rx rv h
  obtain ⟨α, m, d, ds, rm, rd, rs, q⟩ := h
  cases hd : appD d ds m with
  | none => rw [hd] at q; exact q.elim
  | some z =>
    rw [hd] at q
    unfold appD at hd
    split at hd
    · rename_i n d1
      split at hd
      · rename_i xs hc
        split at hd
        · rename_i hl
          cases hd
          cases rd with
          | @ref a1 n ha =>
            cases rs with
            | @cons v1 _ _ _ ry rn =>
              cases rn
              obtain ⟨vs0, e1, r1⟩ := rm.cell _ _ _ hc ha
              have w : Wr (H a1) := by rw [e1]; trivial
              refine mt_append pins s σ H _ _ v us Q I rx rv ⟨_, vs0, _, rfl, rfl, e1, by rw [r1.length]; exact hl, ?_⟩
              have ex : Ext P α H α (upd H a1 (.lst (vs0 ++ [v1]))) := Ext.write (o := .lst (vs0 ++ [v1])) (List.mem_of_getElem? ha) w
              exact q _ _ ex (rm.write ha ⟨_, upd_same, (r1.mono ex).append (.cons (ry.mono ex) .nil)⟩) _ .non
        · cases hd
      · cases hd
    · cases hd
end
end Dw

namespace Dw
open PySem PySem.Spec PyProof.Rows L2
theorem u64 {k : Nat} {A : Around} (hr : Room k A) : A.units + 64 < cLine := by have := hr.un; omega
theorem u65 {k : Nat} {A : Around} (hr : Room k A) : A.units + 65 < cLine := by have := hr.un; omega
theorem u66 {k : Nat} {A : Around} (hr : Room k A) : A.units + 66 < cLine := by have := hr.un; omega
/-- a def by its body, its code object known -/
theorem fn_Dc {p : Program} {w : World} {P : Pm} {base : Heap} {name qual : Str} {params : Arguments} {body : List Stmt} {scope : Scope} {dV kV doc pm cdv ct oc : Value} {an od : Option Addr} {osl : Array (Option Value)} {f : Addr} {N ps : List Str} {gd : Bool} {k : Nat} {gs : GS}
    (lk : P.K.lookup f = some ⟨oc, od, .func (PySem.W.fnOf name qual params body scope dV kV doc pm an cdv ct), osl⟩) (hcd : PySem.W.codeIn P.K cdv qual = true) (S : FnScope N ps scope)
    (hbody : ∀ (A : Around) (outer : List PySem.Env) (s : Shared) (H : Hp) (E : XK), Room k (A.deeper (envOfC qual scope s.heap.objs.size f cdv)) → (gd = true → A.guards = some []) → PSs (cxOf (L2.CX p w) p w P.K P.mg base N qual scope f cdv A outer s H E) body (tS P E gs)) :
    FnG p w P base gd (k + 1) f (PySem.W.fnOf name qual params body scope dV kV doc pm an cdv ct) ps (fnB N.length gs) := by
  refine ⟨fun A outer s H args us vs Q E hr hgd e0 hb r hsp => ?_⟩
  obtain ⟨hl, α, m, ds, rm, rs, q⟩ := hsp
  refine LamX.run_ofS lk hcd S hr e0 hb r hl fun hr' => ⟨tS P E gs, hbody A outer s H E hr' hgd, α, _, m, rm, rs.slots N, ?_⟩
  refine (Post.bind (Post.sig q)).mono fun α1 H1 fl m1 e1 r1 p1 => ?_
  cases fl with
  | nx ρ => exact fun _ _ => p1 α1 H1 Ext.refl r1 _ .non
  | ret d => exact p1 α1 H1 Ext.refl r1
  | brk ρ => exact False.elim p1
  | cnt ρ => exact False.elim p1
theorem Clb.of {p : Program} {w : World} {P : Pm} {base : Heap} {gd : Bool} {k : Nat} {x : Str} {f : Addr} {fd : FuncData} {ps : List Str} {cf : List D → Mem → R D} (h1 : P.mg x = some (.ref f)) (h2 : PySem.W.keepIn P.K (.ref f) = true) (h3 : Binds P.K fd ps []) (F : FnG p w P base gd k f fd ps cf) : Clb p w P base gd k x ps.length cf :=
  ⟨f, fd, ps, h1, h2, h3, rfl, F⟩
/-! told, its clauses without addresses -/
def zr (k : Cl4) : Cl4 := { k with C := 0 }
theorem clause_z (c : Str) (fs : List (Str × D)) : ∀ l : List Cl4, clauseOf (l.map zr) c fs = clauseOf l c fs
  | [] => rfl
  | k :: r => by
    show (if c = k.x then _ else clauseOf (r.map zr) c fs) = _
    rw [clause_z c fs r]
    rfl
theorem told_z (l : List Cl4) (r : R D) : toldR (l.map zr) r = toldR l r := by
  unfold toldR
  cases r with
  | exc c fs m => dsimp only; rw [clause_z]
  | _ => rfl
theorem de_tl {X : Cx} {P : Pm} {W : WX} {l l0 : List Cl4} {gg : G} {x a en : Str} {st : Stmt} {g c Pt : Addr} {fd : FuncData} {k : Nat} {h₀ : ExceptHandler} {hds : List ExceptHandler} {p1 p2 p3 p8 : Pos} {params : Arguments} {body : Expr} {scope : Scope} {p lpos pos : Pos}
    (hK : P.K = X.K) (hM : P.mg = X.mg) (hz : l.map zr = l0) (C : ClassesOk P l) (hm : P.mg x = some (.ref g)) (F : Fun P.K x x st g fd) (hb : Binds P.K fd [a] []) (Sg : FnScope [a, en] [a] (defScope st)) (hst : defBody st = [.Try [.Return (some (.Call (.Name a p1) [] [] p2)) p3] (h₀ :: hds) [] [] p8])
    (hen : (defScope st).names.lookup en = some .local) (hva : Vis (defScope st) a) (hde : (en == ("__debug__" : Str)) = false) (hce : (en == ("__classdict__" : Str)) = false) (ht : ∀ Y : Cx, Y.env.scope = defScope st → ClTxt Y en l (h₀ :: hds))
    (TB : LamX.TabB X.base X.mg c Pt) (hcode : X.env.code = .ref c) (hmT : (Pt, X.env.qual ++ "<lambda>") ∈ P.T) (hu : ∀ p ∈ P.T, p.1 = Pt → p.2 = X.env.qual ++ "<lambda>") (hr : Room (k + 2) X.A) (hg : Gl X x) (L : LamX.LamS X.env.scope scope) (hdef : defaultsOf params X.env = ([], []))
    (hbind : ∀ (q : Str) (cl : List (Str × Addr)) (pm cv ctv : Value), bindArgs (PySem.W.kla_fn "<lambda>" q params body scope cl pm cv ctv) ⟨[], []⟩ = pure [])
    (hbody : ∀ (A : Around) (outer : List PySem.Env) (s : Shared) (H : Hp) (E : XK) (f c' : Addr), Room k (A.deeper (LamX.lamEnv X scope s.heap.objs.size f c')) → PE (LamX.lamCx X A outer s H E scope f c') body (tE P (xW E) gg))
    (hdb : (x == ("__debug__" : Str)) = false) (hd : (a == ("__debug__" : Str)) = false) (hcd : (a == ("__classdict__" : Str)) = false) : PE X (.Call (.Name x p) [.Lambda params body scope lpos] [] pos) (tE P W (eTold l0 gg)) := by
  obtain ⟨oc, od, kV, doc, pm, an, cdv, ct, osl, rfl, lk, hcg⟩ := F.ex
  have e : eTold l0 gg = eTold l gg := by
    funext ρ m
    show toldR l0 _ = toldR l _
    rw [← hz, told_z]
  rw [e]
  have hG : LamX.GivesTo X [a, en] x (defScope st) g cdv (defBody st) a (X.env.qual ++ "<lambda>") (TTo P l) := by
    rw [hst]
    exact told_gives2 hK hM C Sg.nd hen hde hce fun s H => ht _ rfl
  rw [hK] at lk hb
  exact de_told (Ng := [a, en]) C hg (by rw [← hM]; exact hm) (by rw [← hK]; exact F.kp) lk (by rw [← hK]; exact hcg) hb Sg rfl hva hG TB hcode hmT hu hr L hdef hbind hbody hdb hd hcd
end Dw

namespace Dw
open PySem PySem.Spec PyProof.Rows L2
/-! ### 18. what the written part tells -/
section
variable {K : PySem.W.Frag} {mg : Str → Option Value} {h : Heap}
def FunAt (K : PySem.W.Frag) (mg : Str → Option Value) (x : Str) (st : Stmt) (ps : List Str) : Prop := ∃ (f : Addr) (fd : FuncData), mg x = some (.ref f) ∧ Fun K x x st f fd ∧ Binds K fd ps []
theorem fun_at {x : Str} {st : Stmt} {ps : List Str} (X : K.In h) (G : h.Ns mainGlobals mg) (hb : ∀ (kV doc pm : Value) (an : Option Addr) (cdv ct : Value) (us : List Value), us.length = ps.length → bindArgs (PySem.W.fnOf x x (defArgs st) (defBody st) (defScope st) .none kV doc pm an cdv ct) ⟨us, []⟩ = pure (ps.zip us))
    {f : Addr} {oc : Value} {od an : Option Addr} {osl : Array (Option Value)} {kV doc pm cdv ct : Value} (a : PySem.W.nsIn K mainGlobals x = some (some (.ref f))) (l : K.lookup f = some ⟨oc, od, .func (PySem.W.fnOf x x (defArgs st) (defBody st) (defScope st) .none kV doc pm an cdv ct), osl⟩)
    (c : PySem.W.codeIn K cdv x = true) (k : PySem.W.keepIn K (.ref f) = true) : FunAt K mg x st ps := by
  have F := fun_mk (st := st) l c k
  exact ⟨f, _, PySem.W.mg_of X G a, F, F.binds fun kV doc pm an cdv ct us hl => hb kV doc pm an cdv ct us hl⟩
theorem none_at {x : Str} (X : K.In h) (G : h.Ns mainGlobals mg) (a : PySem.W.nsIn K mainGlobals x = some none) : mg x = none := PySem.W.mg_none_of X G a
def OneAt (p : Program) (K : PySem.W.Frag) (mg : Str → Option Value) (x f : Str) : Prop := ∃ C fI, DwX.OneX p K mg x f C fI
theorem one_at {p : Program} {x f : Str} {C fI cda cc N : Addr} {nm q qual : Str} {bs bm : List Value} {sn : List Str} {sub : List Value} {ab : Bool} {col : Option Bool} {dd od cdd cld an : Option Addr} {k0 k1 k2 k3 k5 : Option Value} {sc : Scope} {oc doc pm ct ccl cl : Value} {osl ccs csl : Array (Option Value)} {p1 p2 a1 a2 a3 a4 a5 a6 b1 b2 b3 b4 : Pos}
    {vs : Array Value} {file : Str} {tf : Tok} (X : K.In h) (G : h.Ns mainGlobals mg) (aC : PySem.W.nsIn K mainGlobals x = some (some (.ref C))) (xL : K.lookup C = some (excClassObj nm q C N bs bm true sn sub ab col dd k0 k1 k2 k3 k5 "ValueError.__new__"))
    (iC : PySem.W.findIn K (.ref C) "__init__" = some (some (.ref fI)))
    (l1 : K.lookup fI = some ⟨oc, od, .func (PySem.W.ksFn "__init__" qual (DwX.oA f p1 p2) (DwX.oB f a1 a2 a3 a4 a5 a6 b1 b2 b3 b4) sc .none .none doc pm an (.ref cda) ct cc), osl⟩) (c1 : PySem.W.codeIn K (.ref cda) qual = true) (lc : K.lookup cda = some ⟨ccl, cdd, .fields vs, ccs⟩) (lx : K.lookup cc = some ⟨cl, cld, .cell (some (.ref C)), csl⟩)
    (sa : PySem.W.findIn K (.ref C) "__setattr__" = some (some (.builtin "object.__setattr__"))) (nb : PySem.W.findIn K (.ref C) f = some none) (tI : PySem.W.typeIn K (.ref fI) = some (.type "function")) (kC : PySem.W.keepIn K (.ref C) = true) (eC : PySem.W.subIn K (.ref C) (.type "BaseException") = some true)
    (vC : PySem.W.subIn K (.ref C) (.type "ValueError") = some true) (tC : PySem.W.typeIn K (.ref C) = some (.type "type")) (any : PySem.W.nsIn K cStatics "thirdparty.any" = some none) (nos : PySem.W.nsIn K mainGlobals "super" = some none)
    (sup : PySem.W.ks_superIn K C C "__init__" = some (some (.builtin "ValueError.__init__"))) (slf : PySem.W.mroIn K C (.ref C) = some true) (hbm : HandSPX.refsVE bm = true) (top : (p.main.scope.names.lookup ("super" : Str)).isSome = false) (hvs : vs[2]? = some (.str file tf)) (hfile : ((p.main.file : Str) == file) = true)
    (s1 : sc.names.lookup ("super" : Str) = some .globalImplicit) (s2 : sc.names.lookup ("__class__" : Str) = some .free) (s3 : sc.names.lookup ("self" : Str) = some .local) (s4 : sc.names.lookup f = some .local) (s5 : ∀ y ∈ sc.names, y.2 ≠ .cell) (s6 : sc.kind = .function) (s7 : sc.isCoroutine = false) (s8 : sc.isGenerator = false)
    (bd : ∀ u v : Value, bindArgs (PySem.W.ksFn "__init__" qual (DwX.oA f p1 p2) (DwX.oB f a1 a2 a3 a4 a5 a6 b1 b2 b3 b4) sc .none .none doc pm an (.ref cda) ct cc) ⟨[u, v], []⟩ = pure [(("self" : Str), u), (f, v)])
    (en : ∀ L : Addr, DwX.InitEnvOk f a1 a2 a3 a4 a5 a6 b1 b2 b3 b4 (PySem.W.ksEnv qual sc L fI (.ref cda) cc)) : DwX.OneX p K mg x f C fI :=
  { gC := PySem.W.mg_of X G aC, cls := ⟨nm, q, N, bs, bm, sn, sub, ab, col, dd, k0, k1, k2, k3, k5, xL, hbm⟩, sa := sa, noN := nb, iC := iC, tC := tI, kC := kC, exC := eC, vE := vC, tyC := tC, any := any, sup := sup, nos := PySem.W.mg_none_of X G nos, slf := slf, top := top,
    fn := ⟨oc, od, qual, sc, doc, pm, an, cda, cc, ct, osl, p1, p2, a1, a2, a3, a4, a5, a6, b1, b2, b3, b4, ccl, cl, cdd, cld, vs, ccs, csl, file, tf, l1, c1, lc, hvs, hfile, lx, s1, s2, s3, s4, s5, s6, s7, s8, bd, en⟩ }
end
end Dw

namespace Dw
open PySem PySem.Spec PyProof.Rows L2
/-! ### 19. written tuples of the module -/
def TupAt (K : PySem.W.Frag) (mg : Str → Option Value) (x : Str) (vs : List V) : Prop := ∃ a : Addr, mg x = some (.ref a) ∧ ∀ H : Hp, SqT K H a vs
theorem de_gtup {X : Cx} {P : Pm} {W : WX} {x : Str} {pos : Pos} {vs : List V} {ds : List D} (hK : P.K = X.K) (hM : P.mg = X.mg) (hg : Gl X x) (h : TupAt P.K P.mg x vs) (r : ∀ α H, RDs P α H vs ds) (hd : (x == ("__debug__" : Str)) = false := by decide) : PE X (.Name x pos) (tE P W (eLit (.tup ds))) := by
  obtain ⟨a, h1, h2⟩ := h
  exact de_glob hg (by rw [← hM]; exact h1) (v := .ref a) rfl (fun α H => .tup (h2 H) (r α H)) hd
theorem tup_at {K : PySem.W.Frag} {mg : Str → Option Value} {h : Heap} {x : Str} {vs : List V} {its : Array Value} {a : Addr} {n : Nat} {od : Option Addr} {sl : Array (Option Value)} (X : K.In h) (G : h.Ns mainGlobals mg) (e : PySem.W.nsIn K mainGlobals x = some (some (.ref a))) (l : K.lookup a = some ⟨.type "tuple", od, .seq its n, sl⟩)
    (hv : Vals vs its.toList) (hl : its.size ≤ sizeLine) : TupAt K mg x vs := ⟨a, PySem.W.mg_of X G e, fun H => .inr ⟨_, its, n, l, rfl, rfl, hl, hv⟩⟩
end Dw

namespace Dw
namespace K34
open PySem PySem.Spec PyProof.Rows L2
abbrev PP : Program := PySem.Challenge.pw_ductwise_k34_best_lines
def topS (i : Nat) : Stmt := PP.main.body.getD i (.Pass ⟨0, 0, 0, 0⟩)
/-- what the top has written and what not -/
structure Txt (P : Pm) : Prop where
  b_all : P.mg "all" = none
  b_bool : P.mg "bool" = none
  b_int : P.mg "int" = none
  b_isinstance : P.mg "isinstance" = none
  b_len : P.mg "len" = none
  b_range : P.mg "range" = none
  b_repr : P.mg "repr" = none
  b_tuple : P.mg "tuple" = none
  t_ZERO : TupAt P.K P.mg "ZERO" [.int 0, .int 1]
  gcd : P.mg "gcd" = some (.builtin "math.gcd")
  x_BadValue : ∃ C fI, DwX.OneX PP P.K P.mg "BadValue" "reason" C fI
  x_TooMany : ∃ C fI, DwX.OneX PP P.K P.mg "TooMany" "what" C fI
  x_Refused : ∃ C fI, DwX.OneX PP P.K P.mg "Refused" "reason" C fI
/-! _law_digits -/
abbrev st__law_digits : Stmt := topS 22
theorem sc__law_digits : FnScope ["script", "first", "last", "digits", "k", "cell", "turn", "seed"] ["script", "first", "last"] (defScope st__law_digits) := ⟨rfl, rfl, rfl, by decide +kernel, rfl, by decide +kernel, by decide +kernel⟩
noncomputable def g__law_digits_1 : GS :=
  (sAsg (eOp subD (eLit (.int 1)) (eOp mulD (eLit (.int 2)) (eVar 5))) (gN 5))
noncomputable def g__law_digits_2 : GS :=
  (sExpr (eMeth "list" appD (eVar 3) (aCons (eOp modD (eArgs intD (aCons (eVar 5) aNil)) (eLit (.int 1009))) aNil)))
noncomputable def g__law_digits_3 : GS :=
  (sIf (tOp' gtD (eVar 5) (eLit (.int 0))) (sSeq g__law_digits_2
      (sAsg (eOp divD (eVar 5) (eLit (.int 1009))) (gN 5))) sNil)
noncomputable def g__law_digits_4 : GS :=
  g__law_digits_3
noncomputable def g__law_digits_5 : GS :=
  (sAsg (eOp modD (eArgs intD (aCons (eOp addD (eOp addD (eOp mulD (eVar 7) (eLit (.int 40014))) (eOp mulD (eLit (.int 11)) (eVar 6))) (eLit (.int 7))) aNil)) (eLit (.int 2147483563))) (gN 7))
noncomputable def g__law_digits_6 : GS :=
  (sExpr (eMeth "list" appD (eVar 3) (aCons (eOp modD (eArgs intD (aCons (eOp divD (eVar 7) (eLit (.int 1013))) aNil)) (eLit (.int 1009))) aNil)))
noncomputable def g__law_digits_7 : GS :=
  (sSeq g__law_digits_5
      g__law_digits_6)
noncomputable def g__law_digits_8 : GS :=
  (sAsg (eOp modD (eArgs intD (aCons (eOp addD (eOp addD (eOp mulD (eVar 5) (eLit (.int 40699))) (eOp mulD (eVar 4) (eLit (.int 52769)))) (eLit (.int 31))) aNil)) (eLit (.int 2147483399))) (gN 7))
noncomputable def g__law_digits_9 : GS :=
  (sAsg (eIf (tOp' ltD (eVar 4) (eArgs lenD (aCons (eVar 0) aNil))) (eOp ixD (eVar 0) (eVar 4)) (eLit (.int 0))) (gN 5))
noncomputable def g__law_digits_10 : GS :=
  (sIf (tOp' ltD (eVar 5) (eLit (.int 0))) g__law_digits_1 sNil)
noncomputable def g__law_digits_11 : GS :=
  (sIf (tOp' geD (eVar 5) (eLit (.int 1000000000000000000))) (sFor (iRg1 (eLit (.int 60))) (gN 6) g__law_digits_4) (sSeq g__law_digits_8
      (sFor (iRg1 (eLit (.int 12))) (gN 6) g__law_digits_7)))
noncomputable def g__law_digits_12 : GS :=
  (sSeq g__law_digits_9
      (sSeq g__law_digits_10
      g__law_digits_11))
noncomputable def g__law_digits : GS :=
  (sSeq (sAsg (eArgs mkLst aNil) (gN 3))
      (sSeq (sFor (iRg2 (eVar 1) (eVar 2)) (gN 4) g__law_digits_12)
      (sRet (eVar 3))))
noncomputable def f__law_digits (ds : List D) (m : Mem) : R D := fnB 8 g__law_digits ds m
theorem w__law_digits {w : World} {P : Pm} {base : Heap} {f : Addr} {fd : FuncData} (T : Txt P) (F : Fun P.K "_law_digits" "_law_digits" st__law_digits f fd)  : FnG PP w P base false 1 f fd ["script", "first", "last"] f__law_digits := by
  refine fn_D (k := 0) F sc__law_digits fun cdv A outer s H E hr hgd => ?_
  have tk : Takes (cxOf (L2.CX PP w) PP w P.K P.mg base ["script", "first", "last", "digits", "k", "cell", "turn", "seed"] "_law_digits" (defScope st__law_digits) f cdv A outer s H E) (xW E) := takes_of rfl rfl rfl rfl
  have hp : PassesOwn (model PP w) _ _ (cxOf (L2.CX PP w) PP w P.K P.mg base ["script", "first", "last", "digits", "k", "cell", "turn", "seed"] "_law_digits" (defScope st__law_digits) f cdv A outer s H E).xe := passes_of (X := cxOf (L2.CX PP w) PP w P.K P.mg base ["script", "first", "last", "digits", "k", "cell", "turn", "seed"] "_law_digits" (defScope st__law_digits) f cdv A outer s H E) rfl
  exact (ds_cons (ds_set sc__law_digits.nd rfl (.inl rfl) (de_lst da_nil) (.inl rfl))
      (ds_cons (ds_for hp rfl (di_range2 rfl T.b_range (de_var (i := 1) rfl (.inl rfl)) (de_var (i := 2) rfl (.inl rfl))) (dg_name sc__law_digits.nd rfl (.inl rfl) (.inl rfl)) (ds_cons (ds_set sc__law_digits.nd rfl (.inl rfl) (de_if (dt_cmp op_ltD (de_var (i := 4) rfl (.inl rfl)) (de_bi (bi_len rfl) rfl T.b_len (by decide +kernel) (da_cons (de_var (i := 0) rfl (.inl rfl)) da_nil))) (de_ix (ix_D rfl) (de_var (i := 0) rfl (.inl rfl)) (de_var (i := 4) rfl (.inl rfl))) de_int) (.inl rfl))
      (ds_cons (ds_if (dt_cmp op_ltD (de_var (i := 5) rfl (.inl rfl)) de_int) (ds_one (ds_set sc__law_digits.nd rfl (.inl rfl) (de_op op_subD de_int (de_op op_mulD de_int (de_var (i := 5) rfl (.inl rfl)))) (.inl rfl))) ds_nil)
      (ds_one (ds_if (dt_cmp op_geD (de_var (i := 5) rfl (.inl rfl)) de_int) (ds_one (ds_for hp rfl (di_range1 rfl T.b_range de_int) (dg_name sc__law_digits.nd rfl (.inl rfl) (.inl rfl)) (ds_one (ds_if (dt_cmp op_gtD (de_var (i := 5) rfl (.inl rfl)) de_int) (ds_cons (ds_expr (de_meth rfl PySem.F.plainAttrs_list PySem.F.slot_list_append PySem.F.type_list_append mt_appD (de_var (i := 3) rfl (.inl rfl)) (da_cons (de_op op_modD (de_ty ty_int rfl T.b_int (by decide +kernel) (da_cons (de_var (i := 5) rfl (.inl rfl)) da_nil)) de_int) da_nil)))
      (ds_one (ds_set sc__law_digits.nd rfl (.inl rfl) (de_op op_divD (de_var (i := 5) rfl (.inl rfl)) de_int) (.inl rfl)))) ds_nil)))) (ds_cons (ds_set sc__law_digits.nd rfl (.inl rfl) (de_op op_modD (de_ty ty_int rfl T.b_int (by decide +kernel) (da_cons (de_op (op_addD rfl) (de_op (op_addD rfl) (de_op op_mulD (de_var (i := 5) rfl (.inl rfl)) de_int) (de_op op_mulD (de_var (i := 4) rfl (.inl rfl)) de_int)) de_int) da_nil)) de_int) (.inl rfl))
      (ds_one (ds_for hp rfl (di_range1 rfl T.b_range de_int) (dg_name sc__law_digits.nd rfl (.inl rfl) (.inl rfl)) (ds_cons (ds_set sc__law_digits.nd rfl (.inl rfl) (de_op op_modD (de_ty ty_int rfl T.b_int (by decide +kernel) (da_cons (de_op (op_addD rfl) (de_op (op_addD rfl) (de_op op_mulD (de_var (i := 7) rfl (.inl rfl)) de_int) (de_op op_mulD de_int (de_var (i := 6) rfl (.inl rfl)))) de_int) da_nil)) de_int) (.inl rfl))
      (ds_one (ds_expr (de_meth rfl PySem.F.plainAttrs_list PySem.F.slot_list_append PySem.F.type_list_append mt_appD (de_var (i := 3) rfl (.inl rfl)) (da_cons (de_op op_modD (de_ty ty_int rfl T.b_int (by decide +kernel) (da_cons (de_op op_divD (de_var (i := 7) rfl (.inl rfl)) de_int) da_nil)) de_int) da_nil)))))))))))))
      (ds_one (ds_ret (de_var (i := 3) rfl (.inl rfl))))))

/-! _law_draw -/
abbrev st__law_draw : Stmt := topS 23
theorem sc__law_draw : FnScope ["box", "many", "at"] ["box", "many"] (defScope st__law_draw) := ⟨rfl, rfl, rfl, by decide +kernel, rfl, by decide +kernel, by decide +kernel⟩
noncomputable def g__law_draw : GS :=
  (sSeq (sAsg (eOp ixD (eVar 0) (eLit (.int 1))) (gN 2))
      (sSeq (sAsg (eOp addD (eVar 2) (eLit (.int 1))) (gSb (eVar 0) (eLit (.int 1))))
      (sSeq (sIf (tOp' ltD (eVar 2) (eArgs lenD (aCons (eOp ixD (eVar 0) (eLit (.int 0))) aNil))) (sRet (eOp modD (eArgs intD (aCons (eOp ixD (eOp ixD (eVar 0) (eLit (.int 0))) (eVar 2)) aNil)) (eVar 1))) sNil)
      (sRet (eOp modD (eArgs intD (aCons (eOp addD (eOp addD (eOp addD (eOp mulD (eOp mulD (eVar 2) (eVar 2)) (eLit (.int 3))) (eOp mulD (eVar 2) (eLit (.int 4)))) (eOp divD (eVar 2) (eLit (.int 3)))) (eLit (.int 1))) aNil)) (eVar 1))))))
noncomputable def f__law_draw (ds : List D) (m : Mem) : R D := fnB 3 g__law_draw ds m
theorem w__law_draw {w : World} {P : Pm} {base : Heap} {f : Addr} {fd : FuncData} (T : Txt P) (F : Fun P.K "_law_draw" "_law_draw" st__law_draw f fd)  : FnG PP w P base false 1 f fd ["box", "many"] f__law_draw := by
  refine fn_D (k := 0) F sc__law_draw fun cdv A outer s H E hr hgd => ?_
  have tk : Takes (cxOf (L2.CX PP w) PP w P.K P.mg base ["box", "many", "at"] "_law_draw" (defScope st__law_draw) f cdv A outer s H E) (xW E) := takes_of rfl rfl rfl rfl
  exact (ds_cons (ds_set sc__law_draw.nd rfl (.inl rfl) (de_ix (ix_D rfl) (de_var (i := 0) rfl (.inl rfl)) de_int) (.inl rfl))
      (ds_cons (ds_asg (de_op (op_addD rfl) (de_var (i := 2) rfl (.inl rfl)) de_int) (dg_sub (de_var (i := 0) rfl (.inl rfl)) de_int))
      (ds_cons (ds_if (dt_cmp op_ltD (de_var (i := 2) rfl (.inl rfl)) (de_bi (bi_len rfl) rfl T.b_len (by decide +kernel) (da_cons (de_ix (ix_D rfl) (de_var (i := 0) rfl (.inl rfl)) de_int) da_nil))) (ds_one (ds_ret (de_op op_modD (de_ty ty_int rfl T.b_int (by decide +kernel) (da_cons (de_ix (ix_D rfl) (de_ix (ix_D rfl) (de_var (i := 0) rfl (.inl rfl)) de_int) (de_var (i := 2) rfl (.inl rfl))) da_nil)) (de_var (i := 1) rfl (.inl rfl))))) ds_nil)
      (ds_one (ds_ret (de_op op_modD (de_ty ty_int rfl T.b_int (by decide +kernel) (da_cons (de_op (op_addD rfl) (de_op (op_addD rfl) (de_op (op_addD rfl) (de_op op_mulD (de_op op_mulD (de_var (i := 2) rfl (.inl rfl)) (de_var (i := 2) rfl (.inl rfl))) de_int) (de_op op_mulD (de_var (i := 2) rfl (.inl rfl)) de_int)) (de_op op_divD (de_var (i := 2) rfl (.inl rfl)) de_int)) de_int) da_nil)) (de_var (i := 1) rfl (.inl rfl))))))))

/-! is_integer -/
abbrev st_is_integer : Stmt := topS 8
theorem sc_is_integer : FnScope ["thing"] ["thing"] (defScope st_is_integer) := ⟨rfl, rfl, rfl, by decide +kernel, rfl, by decide +kernel, by decide +kernel⟩
noncomputable def g_is_integer : GS :=
  (sRet (eAnd (eUn (isD1 .int) (eVar 0)) (eNot (eUn (isD1 .bool) (eVar 0)))))
noncomputable def f_is_integer (ds : List D) (m : Mem) : R D := fnB 1 g_is_integer ds m
theorem w_is_integer {w : World} {P : Pm} {base : Heap} {f : Addr} {fd : FuncData} (T : Txt P) (F : Fun P.K "is_integer" "is_integer" st_is_integer f fd)  : FnG PP w P base false 1 f fd ["thing"] f_is_integer := by
  refine fn_D (k := 0) F sc_is_integer fun cdv A outer s H E hr hgd => ?_
  have tk : Takes (cxOf (L2.CX PP w) PP w P.K P.mg base ["thing"] "is_integer" (defScope st_is_integer) f cdv A outer s H E) (xW E) := takes_of rfl rfl rfl rfl
  exact (ds_one (ds_ret (de_and (de_isi (T := .int) rfl rfl T.b_isinstance rfl T.b_int (by decide +kernel) (by decide +kernel) (by decide +kernel) (de_var (i := 0) rfl (.inl rfl))) (de_one (de_not (de_isi (T := .bool) rfl rfl T.b_isinstance rfl T.b_bool (by decide +kernel) (by decide +kernel) (by decide +kernel) (de_var (i := 0) rfl (.inl rfl))))))))

/-! is_fraction -/
abbrev st_is_fraction : Stmt := topS 9
theorem sc_is_fraction : FnScope ["thing", "one"] ["thing"] (defScope st_is_fraction) := ⟨rfl, rfl, rfl, by decide +kernel, rfl, by decide +kernel, by decide +kernel⟩
noncomputable def g_is_fraction : GS :=
  (sSeq (sIf (tOr' (tNot' (tTru (eUn (isD1 .tuple) (eVar 0)))) (tOr' (tOp' neD (eArgs lenD (aCons (eVar 0) aNil)) (eLit (.int 2))) (tNot' (tTru (eArgs allD (aCons (eComp [1] (iSeq (eVar 0)) (gN 1) tYes' (eCall 1 f_is_integer (aCons (eVar 1) aNil))) aNil)))))) (sRet (eLit (.bl false))) sNil)
      (sRet (eAnd (eOp geD (eOp ixD (eVar 0) (eLit (.int 1))) (eLit (.int 1))) (eOp eqD (eArgs gcdD (aCons (eOp ixD (eVar 0) (eLit (.int 0))) (aCons (eOp ixD (eVar 0) (eLit (.int 1))) aNil))) (eLit (.int 1))))))
noncomputable def f_is_fraction (ds : List D) (m : Mem) : R D := fnB 2 g_is_fraction ds m
theorem w_is_fraction {w : World} {P : Pm} {base : Heap} {f : Addr} {fd : FuncData} (T : Txt P) (F : Fun P.K "is_fraction" "is_fraction" st_is_fraction f fd) (C_is_integer : Clb PP w P base false 1 "is_integer" 1 f_is_integer) : FnG PP w P base false 2 f fd ["thing"] f_is_fraction := by
  refine fn_D (k := 1) F sc_is_fraction fun cdv A outer s H E hr hgd => ?_
  have tk : Takes (cxOf (L2.CX PP w) PP w P.K P.mg base ["thing", "one"] "is_fraction" (defScope st_is_fraction) f cdv A outer s H E) (xW E) := takes_of rfl rfl rfl rfl
  exact (ds_cons (ds_if (L2.PW.pt (dw_or (dt_not (dt_tru rfl (de_isi (T := .tuple) rfl rfl T.b_isinstance rfl T.b_tuple (by decide +kernel) (by decide +kernel) (by decide +kernel) (de_var (i := 0) rfl (.inl rfl))))) (dw_or (dt_cmp (op_neDD rfl (u64 hr)) (de_bi (bi_len rfl) rfl T.b_len (by decide +kernel) (da_cons (de_var (i := 0) rfl (.inl rfl)) da_nil)) de_int) (dw_or1 (dt_not (dt_tru rfl (de_bi (bi_all rfl rfl) rfl T.b_all (by decide +kernel) (da_cons (de_comp (own := [("one", 1)]) rfl sc_is_fraction.nd (di_seq rfl (de_var (i := 0) rfl (.inl rfl))) (blkOk_by (N := ["thing", "one"]) (sc := defScope st_is_fraction) (by decide +kernel)) (tgn_name (i := 1) (by decide)) (fun _ _ _ _ _ => (pg_name (i := 1) sc_is_fraction.nd rfl (.inl rfl) (.inr rfl))) (fun _ _ _ _ _ => dc_pts) (fun _ _ _ _ _ => (de_call rfl rfl (C_is_integer) (hr.mono (by decide)) (fun z => nomatch z) rfl LamX.takes0 (da_cons (de_var (i := 1) rfl (.inl rfl)) da_nil)))) da_nil)))))))) (ds_one (ds_ret de_bl)) ds_nil)
      (ds_one (ds_ret (de_and (de_cmp op_geD (de_ix (ix_D rfl) (de_var (i := 0) rfl (.inl rfl)) de_int) de_int) (de_one (de_cmp (op_eqDD rfl (u64 hr)) (de_bf bi_gcd rfl T.gcd (da_cons (de_ix (ix_D rfl) (de_var (i := 0) rfl (.inl rfl)) de_int) (da_cons (de_ix (ix_D rfl) (de_var (i := 0) rfl (.inl rfl)) de_int) da_nil))) de_int))))))

/-! is_point -/
abbrev st_is_point : Stmt := topS 16
theorem sc_is_point : FnScope ["thing", "one"] ["thing"] (defScope st_is_point) := ⟨rfl, rfl, rfl, by decide +kernel, rfl, by decide +kernel, by decide +kernel⟩
noncomputable def g_is_point : GS :=
  (sRet (eAnd (eUn (isD1 .tuple) (eVar 0)) (eAnd (eOp eqD (eArgs lenD (aCons (eVar 0) aNil)) (eLit (.int 2))) (eArgs allD (aCons (eComp [1] (iSeq (eVar 0)) (gN 1) tYes' (eCall 1 f_is_fraction (aCons (eVar 1) aNil))) aNil)))))
noncomputable def f_is_point (ds : List D) (m : Mem) : R D := fnB 2 g_is_point ds m
theorem w_is_point {w : World} {P : Pm} {base : Heap} {f : Addr} {fd : FuncData} (T : Txt P) (F : Fun P.K "is_point" "is_point" st_is_point f fd) (C_is_fraction : Clb PP w P base false 2 "is_fraction" 1 f_is_fraction) : FnG PP w P base false 3 f fd ["thing"] f_is_point := by
  refine fn_D (k := 2) F sc_is_point fun cdv A outer s H E hr hgd => ?_
  have tk : Takes (cxOf (L2.CX PP w) PP w P.K P.mg base ["thing", "one"] "is_point" (defScope st_is_point) f cdv A outer s H E) (xW E) := takes_of rfl rfl rfl rfl
  exact (ds_one (ds_ret (de_and (de_isi (T := .tuple) rfl rfl T.b_isinstance rfl T.b_tuple (by decide +kernel) (by decide +kernel) (by decide +kernel) (de_var (i := 0) rfl (.inl rfl))) (de_and (de_cmp (op_eqDD rfl (u64 hr)) (de_bi (bi_len rfl) rfl T.b_len (by decide +kernel) (da_cons (de_var (i := 0) rfl (.inl rfl)) da_nil)) de_int) (de_one (de_bi (bi_all rfl rfl) rfl T.b_all (by decide +kernel) (da_cons (de_comp (own := [("one", 1)]) rfl sc_is_point.nd (di_seq rfl (de_var (i := 0) rfl (.inl rfl))) (blkOk_by (N := ["thing", "one"]) (sc := defScope st_is_point) (by decide +kernel)) (tgn_name (i := 1) (by decide)) (fun _ _ _ _ _ => (pg_name (i := 1) sc_is_point.nd rfl (.inl rfl) (.inr rfl))) (fun _ _ _ _ _ => dc_pts) (fun _ _ _ _ _ => (de_call rfl rfl (C_is_fraction) (hr.mono (by decide)) (fun z => nomatch z) rfl LamX.takes0 (da_cons (de_var (i := 1) rfl (.inl rfl)) da_nil)))) da_nil)))))))

/-! check_points -/
abbrev st_check_points : Stmt := topS 18
theorem sc_check_points : FnScope ["points", "point"] ["points"] (defScope st_check_points) := ⟨rfl, rfl, rfl, by decide +kernel, rfl, by decide +kernel, by decide +kernel⟩
noncomputable def g_check_points : GS :=
  (sIf (tOr' (tNot' (tTru (eUn (isD1 .tuple) (eVar 0)))) (tNot' (tTru (eArgs allD (aCons (eComp [1] (iSeq (eVar 0)) (gN 1) tYes' (eCall 1 f_is_point (aCons (eVar 1) aNil))) aNil))))) (sRaise "BadValue" "reason" (eLit (.str (PySem.Str.ofString "points")))) sNil)
noncomputable def f_check_points (ds : List D) (m : Mem) : R D := fnB 2 g_check_points ds m
theorem w_check_points {w : World} {P : Pm} {base : Heap} {f : Addr} {fd : FuncData} (T : Txt P) (F : Fun P.K "check_points" "check_points" st_check_points f fd) (C_is_point : Clb PP w P base false 3 "is_point" 1 f_is_point) : FnG PP w P base false 4 f fd ["points"] f_check_points := by
  refine fn_D (k := 3) F sc_check_points fun cdv A outer s H E hr hgd => ?_
  obtain ⟨C_BadValue, I_BadValue, x_BadValue⟩ := T.x_BadValue
  have tk : Takes (cxOf (L2.CX PP w) PP w P.K P.mg base ["points", "point"] "check_points" (defScope st_check_points) f cdv A outer s H E) (xW E) := takes_of rfl rfl rfl rfl
  exact (ds_one (ds_if (L2.PW.pt (dw_or (dt_not (dt_tru rfl (de_isi (T := .tuple) rfl rfl T.b_isinstance rfl T.b_tuple (by decide +kernel) (by decide +kernel) (by decide +kernel) (de_var (i := 0) rfl (.inl rfl))))) (dw_or1 (dt_not (dt_tru rfl (de_bi (bi_all rfl rfl) rfl T.b_all (by decide +kernel) (da_cons (de_comp (own := [("point", 1)]) rfl sc_check_points.nd (di_seq rfl (de_var (i := 0) rfl (.inl rfl))) (blkOk_by (N := ["points", "point"]) (sc := defScope st_check_points) (by decide +kernel)) (tgn_name (i := 1) (by decide)) (fun _ _ _ _ _ => (pg_name (i := 1) sc_check_points.nd rfl (.inl rfl) (.inr rfl))) (fun _ _ _ _ _ => dc_pts) (fun _ _ _ _ _ => (de_call rfl rfl (C_is_point) (hr.mono (by decide)) (fun z => nomatch z) rfl LamX.takes0 (da_cons (de_var (i := 1) rfl (.inl rfl)) da_nil)))) da_nil))))))) (ds_one (ds_raise rfl rfl x_BadValue hr tk de_str rfl (by decide) (by decide) (by decide))) ds_nil))

/-! lowest -/
abbrev st_lowest : Stmt := topS 10
theorem sc_lowest : FnScope ["top", "bottom", "shared"] ["top", "bottom"] (defScope st_lowest) := ⟨rfl, rfl, rfl, by decide +kernel, rfl, by decide +kernel, by decide +kernel⟩
noncomputable def g_lowest : GS :=
  (sSeq (sIf (tOp' ltD (eVar 1) (eLit (.int 0))) (sPar 0 1 (eUn negD (eVar 0)) (eUn negD (eVar 1))) sNil)
      (sSeq (sAsg (eArgs gcdD (aCons (eVar 0) (aCons (eVar 1) aNil))) (gN 2))
      (sRet (eArgs mkTup (aCons (eOp divD (eVar 0) (eVar 2)) (aCons (eOp divD (eVar 1) (eVar 2)) aNil))))))
noncomputable def f_lowest (ds : List D) (m : Mem) : R D := fnB 3 g_lowest ds m
theorem w_lowest {w : World} {P : Pm} {base : Heap} {f : Addr} {fd : FuncData} (T : Txt P) (F : Fun P.K "lowest" "lowest" st_lowest f fd)  : FnG PP w P base false 1 f fd ["top", "bottom"] f_lowest := by
  refine fn_D (k := 0) F sc_lowest fun cdv A outer s H E hr hgd => ?_
  have tk : Takes (cxOf (L2.CX PP w) PP w P.K P.mg base ["top", "bottom", "shared"] "lowest" (defScope st_lowest) f cdv A outer s H E) (xW E) := takes_of rfl rfl rfl rfl
  exact (ds_cons (ds_if (dt_cmp op_ltD (de_var (i := 1) rfl (.inl rfl)) de_int) (ds_one (ds_par rfl sc_lowest.nd rfl rfl (by decide) rfl rfl (de_un un_negD (de_var (i := 0) rfl (.inl rfl))) (de_un un_negD (de_var (i := 1) rfl (.inl rfl))) (by rfl))) ds_nil)
      (ds_cons (ds_set sc_lowest.nd rfl (.inl rfl) (de_bf bi_gcd rfl T.gcd (da_cons (de_var (i := 0) rfl (.inl rfl)) (da_cons (de_var (i := 1) rfl (.inl rfl)) da_nil))) (.inl rfl))
      (ds_one (ds_ret (de_tup (da_cons (de_op op_divD (de_var (i := 0) rfl (.inl rfl)) (de_var (i := 2) rfl (.inl rfl))) (da_cons (de_op op_divD (de_var (i := 1) rfl (.inl rfl)) (de_var (i := 2) rfl (.inl rfl))) da_nil)))))))

/-! plus -/
abbrev st_plus : Stmt := topS 11
theorem sc_plus : FnScope ["one", "other"] ["one", "other"] (defScope st_plus) := ⟨rfl, rfl, rfl, by decide +kernel, rfl, by decide +kernel, by decide +kernel⟩
noncomputable def g_plus : GS :=
  (sSeq (sIf (tOp' eqD (eOp ixD (eVar 0) (eLit (.int 1))) (eOp ixD (eVar 1) (eLit (.int 1)))) (sRet (eCall 2 f_lowest (aCons (eOp addD (eOp ixD (eVar 0) (eLit (.int 0))) (eOp ixD (eVar 1) (eLit (.int 0)))) (aCons (eOp ixD (eVar 0) (eLit (.int 1))) aNil)))) sNil)
      (sRet (eCall 2 f_lowest (aCons (eOp addD (eOp mulD (eOp ixD (eVar 0) (eLit (.int 0))) (eOp ixD (eVar 1) (eLit (.int 1)))) (eOp mulD (eOp ixD (eVar 1) (eLit (.int 0))) (eOp ixD (eVar 0) (eLit (.int 1))))) (aCons (eOp mulD (eOp ixD (eVar 0) (eLit (.int 1))) (eOp ixD (eVar 1) (eLit (.int 1)))) aNil)))))
noncomputable def f_plus (ds : List D) (m : Mem) : R D := fnB 2 g_plus ds m
theorem w_plus {w : World} {P : Pm} {base : Heap} {f : Addr} {fd : FuncData} (T : Txt P) (F : Fun P.K "plus" "plus" st_plus f fd) (C_lowest : Clb PP w P base false 1 "lowest" 2 f_lowest) : FnG PP w P base false 2 f fd ["one", "other"] f_plus := by
  refine fn_D (k := 1) F sc_plus fun cdv A outer s H E hr hgd => ?_
  have tk : Takes (cxOf (L2.CX PP w) PP w P.K P.mg base ["one", "other"] "plus" (defScope st_plus) f cdv A outer s H E) (xW E) := takes_of rfl rfl rfl rfl
  exact (ds_cons (ds_if (dt_cmp (op_eqDD rfl (u64 hr)) (de_ix (ix_D rfl) (de_var (i := 0) rfl (.inl rfl)) de_int) (de_ix (ix_D rfl) (de_var (i := 1) rfl (.inl rfl)) de_int)) (ds_one (ds_ret (de_call rfl rfl (C_lowest) (hr.mono (by decide)) (fun z => nomatch z) rfl tk (da_cons (de_op (op_addD rfl) (de_ix (ix_D rfl) (de_var (i := 0) rfl (.inl rfl)) de_int) (de_ix (ix_D rfl) (de_var (i := 1) rfl (.inl rfl)) de_int)) (da_cons (de_ix (ix_D rfl) (de_var (i := 0) rfl (.inl rfl)) de_int) da_nil))))) ds_nil)
      (ds_one (ds_ret (de_call rfl rfl (C_lowest) (hr.mono (by decide)) (fun z => nomatch z) rfl tk (da_cons (de_op (op_addD rfl) (de_op op_mulD (de_ix (ix_D rfl) (de_var (i := 0) rfl (.inl rfl)) de_int) (de_ix (ix_D rfl) (de_var (i := 1) rfl (.inl rfl)) de_int)) (de_op op_mulD (de_ix (ix_D rfl) (de_var (i := 1) rfl (.inl rfl)) de_int) (de_ix (ix_D rfl) (de_var (i := 0) rfl (.inl rfl)) de_int))) (da_cons (de_op op_mulD (de_ix (ix_D rfl) (de_var (i := 0) rfl (.inl rfl)) de_int) (de_ix (ix_D rfl) (de_var (i := 1) rfl (.inl rfl)) de_int)) da_nil))))))

/-! minus -/
abbrev st_minus : Stmt := topS 12
theorem sc_minus : FnScope ["one", "other"] ["one", "other"] (defScope st_minus) := ⟨rfl, rfl, rfl, by decide +kernel, rfl, by decide +kernel, by decide +kernel⟩
noncomputable def g_minus : GS :=
  (sRet (eCall 2 f_plus (aCons (eVar 0) (aCons (eArgs mkTup (aCons (eUn negD (eOp ixD (eVar 1) (eLit (.int 0)))) (aCons (eOp ixD (eVar 1) (eLit (.int 1))) aNil))) aNil))))
noncomputable def f_minus (ds : List D) (m : Mem) : R D := fnB 2 g_minus ds m
theorem w_minus {w : World} {P : Pm} {base : Heap} {f : Addr} {fd : FuncData} (T : Txt P) (F : Fun P.K "minus" "minus" st_minus f fd) (C_plus : Clb PP w P base false 2 "plus" 2 f_plus) : FnG PP w P base false 3 f fd ["one", "other"] f_minus := by
  refine fn_D (k := 2) F sc_minus fun cdv A outer s H E hr hgd => ?_
  have tk : Takes (cxOf (L2.CX PP w) PP w P.K P.mg base ["one", "other"] "minus" (defScope st_minus) f cdv A outer s H E) (xW E) := takes_of rfl rfl rfl rfl
  exact (ds_one (ds_ret (de_call rfl rfl (C_plus) (hr.mono (by decide)) (fun z => nomatch z) rfl tk (da_cons (de_var (i := 0) rfl (.inl rfl)) (da_cons (de_tup (da_cons (de_un un_negD (de_ix (ix_D rfl) (de_var (i := 1) rfl (.inl rfl)) de_int)) (da_cons (de_ix (ix_D rfl) (de_var (i := 1) rfl (.inl rfl)) de_int) da_nil))) da_nil)))))

/-! over -/
abbrev st_over : Stmt := topS 14
theorem sc_over : FnScope ["one", "other"] ["one", "other"] (defScope st_over) := ⟨rfl, rfl, rfl, by decide +kernel, rfl, by decide +kernel, by decide +kernel⟩
noncomputable def g_over : GS :=
  (sRet (eCall 2 f_lowest (aCons (eOp mulD (eOp ixD (eVar 0) (eLit (.int 0))) (eOp ixD (eVar 1) (eLit (.int 1)))) (aCons (eOp mulD (eOp ixD (eVar 0) (eLit (.int 1))) (eOp ixD (eVar 1) (eLit (.int 0)))) aNil))))
noncomputable def f_over (ds : List D) (m : Mem) : R D := fnB 2 g_over ds m
theorem w_over {w : World} {P : Pm} {base : Heap} {f : Addr} {fd : FuncData} (T : Txt P) (F : Fun P.K "over" "over" st_over f fd) (C_lowest : Clb PP w P base false 1 "lowest" 2 f_lowest) : FnG PP w P base false 2 f fd ["one", "other"] f_over := by
  refine fn_D (k := 1) F sc_over fun cdv A outer s H E hr hgd => ?_
  have tk : Takes (cxOf (L2.CX PP w) PP w P.K P.mg base ["one", "other"] "over" (defScope st_over) f cdv A outer s H E) (xW E) := takes_of rfl rfl rfl rfl
  exact (ds_one (ds_ret (de_call rfl rfl (C_lowest) (hr.mono (by decide)) (fun z => nomatch z) rfl tk (da_cons (de_op op_mulD (de_ix (ix_D rfl) (de_var (i := 0) rfl (.inl rfl)) de_int) (de_ix (ix_D rfl) (de_var (i := 1) rfl (.inl rfl)) de_int)) (da_cons (de_op op_mulD (de_ix (ix_D rfl) (de_var (i := 0) rfl (.inl rfl)) de_int) (de_ix (ix_D rfl) (de_var (i := 1) rfl (.inl rfl)) de_int)) da_nil)))))

/-! times -/
abbrev st_times : Stmt := topS 13
theorem sc_times : FnScope ["one", "other"] ["one", "other"] (defScope st_times) := ⟨rfl, rfl, rfl, by decide +kernel, rfl, by decide +kernel, by decide +kernel⟩
noncomputable def g_times : GS :=
  (sRet (eCall 2 f_lowest (aCons (eOp mulD (eOp ixD (eVar 0) (eLit (.int 0))) (eOp ixD (eVar 1) (eLit (.int 0)))) (aCons (eOp mulD (eOp ixD (eVar 0) (eLit (.int 1))) (eOp ixD (eVar 1) (eLit (.int 1)))) aNil))))
noncomputable def f_times (ds : List D) (m : Mem) : R D := fnB 2 g_times ds m
theorem w_times {w : World} {P : Pm} {base : Heap} {f : Addr} {fd : FuncData} (T : Txt P) (F : Fun P.K "times" "times" st_times f fd) (C_lowest : Clb PP w P base false 1 "lowest" 2 f_lowest) : FnG PP w P base false 2 f fd ["one", "other"] f_times := by
  refine fn_D (k := 1) F sc_times fun cdv A outer s H E hr hgd => ?_
  have tk : Takes (cxOf (L2.CX PP w) PP w P.K P.mg base ["one", "other"] "times" (defScope st_times) f cdv A outer s H E) (xW E) := takes_of rfl rfl rfl rfl
  exact (ds_one (ds_ret (de_call rfl rfl (C_lowest) (hr.mono (by decide)) (fun z => nomatch z) rfl tk (da_cons (de_op op_mulD (de_ix (ix_D rfl) (de_var (i := 0) rfl (.inl rfl)) de_int) (de_ix (ix_D rfl) (de_var (i := 1) rfl (.inl rfl)) de_int)) (da_cons (de_op op_mulD (de_ix (ix_D rfl) (de_var (i := 0) rfl (.inl rfl)) de_int) (de_ix (ix_D rfl) (de_var (i := 1) rfl (.inl rfl)) de_int)) da_nil)))))

/-! best_straight -/
abbrev st_best_straight : Stmt := topS 19
theorem sc_best_straight : FnScope ["points", "many", "flows", "drops", "squares", "products", "flow", "told", "bottom", "slope"] ["points"] (defScope st_best_straight) := ⟨rfl, rfl, rfl, by decide +kernel, rfl, by decide +kernel, by decide +kernel⟩
noncomputable def g_best_straight : GS :=
  (sSeq (sExpr (eCall 1 f_check_points (aCons (eVar 0) aNil)))
      (sSeq (sIf (tNot' (tTru (eVar 0))) (sRaise "BadValue" "reason" (eLit (.str (PySem.Str.ofString "points")))) sNil)
      (sSeq (sAsg (eArgs mkTup (aCons (eArgs lenD (aCons (eVar 0) aNil)) (aCons (eLit (.int 1)) aNil))) (gN 1))
      (sSeq (sAsg (eArgs mkTup (aCons (eLit (.tup [.int 0, .int 1])) (aCons (eLit (.tup [.int 0, .int 1])) (aCons (eLit (.tup [.int 0, .int 1])) (aCons (eLit (.tup [.int 0, .int 1])) aNil))))) (gT 4 (gsCons (gN 2) (gsCons (gN 3) (gsCons (gN 4) (gsCons (gN 5) gsNil))))))
      (sSeq (sFor (iSeq (eVar 0)) (gT 2 (gsCons (gN 6) (gsCons (gN 7) gsNil))) (sSeq (sPar 2 3 (eCall 2 f_plus (aCons (eVar 2) (aCons (eVar 6) aNil))) (eCall 2 f_plus (aCons (eVar 3) (aCons (eVar 7) aNil))))
      (sPar 4 5 (eCall 2 f_plus (aCons (eVar 4) (aCons (eCall 2 f_times (aCons (eVar 6) (aCons (eVar 6) aNil))) aNil))) (eCall 2 f_plus (aCons (eVar 5) (aCons (eCall 2 f_times (aCons (eVar 6) (aCons (eVar 7) aNil))) aNil))))))
      (sSeq (sAsg (eCall 2 f_minus (aCons (eCall 2 f_times (aCons (eVar 1) (aCons (eVar 4) aNil))) (aCons (eCall 2 f_times (aCons (eVar 2) (aCons (eVar 2) aNil))) aNil))) (gN 8))
      (sSeq (sIf (tOp' eqD (eVar 8) (eLit (.tup [.int 0, .int 1]))) (sRet (eLit .non)) sNil)
      (sSeq (sAsg (eCall 2 f_over (aCons (eCall 2 f_minus (aCons (eCall 2 f_times (aCons (eVar 1) (aCons (eVar 5) aNil))) (aCons (eCall 2 f_times (aCons (eVar 2) (aCons (eVar 3) aNil))) aNil))) (aCons (eVar 8) aNil))) (gN 9))
      (sRet (eArgs mkTup (aCons (eVar 9) (aCons (eCall 2 f_over (aCons (eCall 2 f_minus (aCons (eVar 3) (aCons (eCall 2 f_times (aCons (eVar 9) (aCons (eVar 2) aNil))) aNil))) (aCons (eVar 1) aNil))) aNil))))))))))))
noncomputable def f_best_straight (ds : List D) (m : Mem) : R D := fnB 10 g_best_straight ds m
theorem w_best_straight {w : World} {P : Pm} {base : Heap} {f : Addr} {fd : FuncData} (T : Txt P) (F : Fun P.K "best_straight" "best_straight" st_best_straight f fd) (C_check_points : Clb PP w P base false 4 "check_points" 1 f_check_points) (C_plus : Clb PP w P base false 2 "plus" 2 f_plus) (C_minus : Clb PP w P base false 3 "minus" 2 f_minus) (C_over : Clb PP w P base false 2 "over" 2 f_over) (C_times : Clb PP w P base false 2 "times" 2 f_times) : FnG PP w P base false 5 f fd ["points"] f_best_straight := by
  refine fn_D (k := 4) F sc_best_straight fun cdv A outer s H E hr hgd => ?_
  obtain ⟨C_BadValue, I_BadValue, x_BadValue⟩ := T.x_BadValue
  have tk : Takes (cxOf (L2.CX PP w) PP w P.K P.mg base ["points", "many", "flows", "drops", "squares", "products", "flow", "told", "bottom", "slope"] "best_straight" (defScope st_best_straight) f cdv A outer s H E) (xW E) := takes_of rfl rfl rfl rfl
  have hp : PassesOwn (model PP w) _ _ (cxOf (L2.CX PP w) PP w P.K P.mg base ["points", "many", "flows", "drops", "squares", "products", "flow", "told", "bottom", "slope"] "best_straight" (defScope st_best_straight) f cdv A outer s H E).xe := passes_of (X := cxOf (L2.CX PP w) PP w P.K P.mg base ["points", "many", "flows", "drops", "squares", "products", "flow", "told", "bottom", "slope"] "best_straight" (defScope st_best_straight) f cdv A outer s H E) rfl
  exact (ds_cons (ds_expr (de_call rfl rfl (C_check_points) (hr.mono (by decide)) (fun z => nomatch z) rfl tk (da_cons (de_var (i := 0) rfl (.inl rfl)) da_nil)))
      (ds_cons (ds_if (dt_not (dt_tru rfl (de_var (i := 0) rfl (.inl rfl)))) (ds_one (ds_raise rfl rfl x_BadValue hr tk de_str rfl (by decide) (by decide) (by decide))) ds_nil)
      (ds_cons (ds_set sc_best_straight.nd rfl (.inl rfl) (de_tup (da_cons (de_bi (bi_len rfl) rfl T.b_len (by decide +kernel) (da_cons (de_var (i := 0) rfl (.inl rfl)) da_nil)) (da_cons de_int da_nil))) (.inl rfl))
      (ds_cons (ds_asg (de_tup (da_cons (de_gtup rfl rfl rfl T.t_ZERO (fun _ _ => (.cons (.int _) (.cons (.int _) .nil)))) (da_cons (de_gtup rfl rfl rfl T.t_ZERO (fun _ _ => (.cons (.int _) (.cons (.int _) .nil)))) (da_cons (de_gtup rfl rfl rfl T.t_ZERO (fun _ _ => (.cons (.int _) (.cons (.int _) .nil)))) (da_cons (de_gtup rfl rfl rfl T.t_ZERO (fun _ _ => (.cons (.int _) (.cons (.int _) .nil)))) da_nil))))) (dg_tup rfl rfl (dgs_cons (dg_name sc_best_straight.nd rfl (.inl rfl) (.inl rfl)) (dgs_cons (dg_name sc_best_straight.nd rfl (.inl rfl) (.inl rfl)) (dgs_cons (dg_name sc_best_straight.nd rfl (.inl rfl) (.inl rfl)) (dgs_cons (dg_name sc_best_straight.nd rfl (.inl rfl) (.inl rfl)) dgs_nil))))))
      (ds_cons (ds_for hp rfl (di_seq rfl (de_var (i := 0) rfl (.inl rfl))) (dg_tup rfl rfl (dgs_cons (dg_name sc_best_straight.nd rfl (.inl rfl) (.inl rfl)) (dgs_cons (dg_name sc_best_straight.nd rfl (.inl rfl) (.inl rfl)) dgs_nil))) (ds_cons (ds_par rfl sc_best_straight.nd rfl rfl (by decide) rfl rfl (de_call rfl rfl (C_plus) (hr.mono (by decide)) (fun z => nomatch z) rfl tk (da_cons (de_var (i := 2) rfl (.inl rfl)) (da_cons (de_var (i := 6) rfl (.inl rfl)) da_nil))) (de_call rfl rfl (C_plus) (hr.mono (by decide)) (fun z => nomatch z) rfl tk (da_cons (de_var (i := 3) rfl (.inl rfl)) (da_cons (de_var (i := 7) rfl (.inl rfl)) da_nil))) (by rfl))
      (ds_one (ds_par rfl sc_best_straight.nd rfl rfl (by decide) rfl rfl (de_call rfl rfl (C_plus) (hr.mono (by decide)) (fun z => nomatch z) rfl tk (da_cons (de_var (i := 4) rfl (.inl rfl)) (da_cons (de_call rfl rfl (C_times) (hr.mono (by decide)) (fun z => nomatch z) rfl tk (da_cons (de_var (i := 6) rfl (.inl rfl)) (da_cons (de_var (i := 6) rfl (.inl rfl)) da_nil))) da_nil))) (de_call rfl rfl (C_plus) (hr.mono (by decide)) (fun z => nomatch z) rfl tk (da_cons (de_var (i := 5) rfl (.inl rfl)) (da_cons (de_call rfl rfl (C_times) (hr.mono (by decide)) (fun z => nomatch z) rfl tk (da_cons (de_var (i := 6) rfl (.inl rfl)) (da_cons (de_var (i := 7) rfl (.inl rfl)) da_nil))) da_nil))) (by rfl)))))
      (ds_cons (ds_set sc_best_straight.nd rfl (.inl rfl) (de_call rfl rfl (C_minus) (hr.mono (by decide)) (fun z => nomatch z) rfl tk (da_cons (de_call rfl rfl (C_times) (hr.mono (by decide)) (fun z => nomatch z) rfl tk (da_cons (de_var (i := 1) rfl (.inl rfl)) (da_cons (de_var (i := 4) rfl (.inl rfl)) da_nil))) (da_cons (de_call rfl rfl (C_times) (hr.mono (by decide)) (fun z => nomatch z) rfl tk (da_cons (de_var (i := 2) rfl (.inl rfl)) (da_cons (de_var (i := 2) rfl (.inl rfl)) da_nil))) da_nil))) (.inl rfl))
      (ds_cons (ds_if (dt_cmp (op_eqDD rfl (u64 hr)) (de_var (i := 8) rfl (.inl rfl)) (de_gtup rfl rfl rfl T.t_ZERO (fun _ _ => (.cons (.int _) (.cons (.int _) .nil))))) (ds_one (ds_ret de_non)) ds_nil)
      (ds_cons (ds_set sc_best_straight.nd rfl (.inl rfl) (de_call rfl rfl (C_over) (hr.mono (by decide)) (fun z => nomatch z) rfl tk (da_cons (de_call rfl rfl (C_minus) (hr.mono (by decide)) (fun z => nomatch z) rfl tk (da_cons (de_call rfl rfl (C_times) (hr.mono (by decide)) (fun z => nomatch z) rfl tk (da_cons (de_var (i := 1) rfl (.inl rfl)) (da_cons (de_var (i := 5) rfl (.inl rfl)) da_nil))) (da_cons (de_call rfl rfl (C_times) (hr.mono (by decide)) (fun z => nomatch z) rfl tk (da_cons (de_var (i := 2) rfl (.inl rfl)) (da_cons (de_var (i := 3) rfl (.inl rfl)) da_nil))) da_nil))) (da_cons (de_var (i := 8) rfl (.inl rfl)) da_nil))) (.inl rfl))
      (ds_one (ds_ret (de_tup (da_cons (de_var (i := 9) rfl (.inl rfl)) (da_cons (de_call rfl rfl (C_over) (hr.mono (by decide)) (fun z => nomatch z) rfl tk (da_cons (de_call rfl rfl (C_minus) (hr.mono (by decide)) (fun z => nomatch z) rfl tk (da_cons (de_var (i := 3) rfl (.inl rfl)) (da_cons (de_call rfl rfl (C_times) (hr.mono (by decide)) (fun z => nomatch z) rfl tk (da_cons (de_var (i := 9) rfl (.inl rfl)) (da_cons (de_var (i := 2) rfl (.inl rfl)) da_nil))) da_nil))) (da_cons (de_var (i := 1) rfl (.inl rfl)) da_nil))) da_nil)))))))))))))

/-! _law_same -/
abbrev st__law_same : Stmt := topS 25
theorem sc__law_same : FnScope ["a", "b"] ["a", "b"] (defScope st__law_same) := ⟨rfl, rfl, rfl, by decide +kernel, rfl, by decide +kernel, by decide +kernel⟩
noncomputable def g__law_same : GS :=
  (sRet (eOp eqD (eArgs reprD (aCons (eVar 0) aNil)) (eArgs reprD (aCons (eVar 1) aNil))))
noncomputable def f__law_same (ds : List D) (m : Mem) : R D := fnB 2 g__law_same ds m
theorem w__law_same {w : World} {P : Pm} {base : Heap} {f : Addr} {fd : FuncData} (T : Txt P) (F : Fun P.K "_law_same" "_law_same" st__law_same f fd)  : FnG PP w P base true 1 f fd ["a", "b"] f__law_same := by
  refine fn_D (k := 0) F sc__law_same fun cdv A outer s H E hr hgd => ?_
  have tk : Takes (cxOf (L2.CX PP w) PP w P.K P.mg base ["a", "b"] "_law_same" (defScope st__law_same) f cdv A outer s H E) (xW E) := takes_of rfl rfl rfl rfl
  exact (ds_one (ds_ret (de_cmp (op_eqDD rfl (u64 hr)) (de_bi (bi_repr rfl (u66 hr) (hgd rfl)) rfl T.b_repr (by decide +kernel) (da_cons (de_var (i := 0) rfl (.inl rfl)) da_nil)) (de_bi (bi_repr rfl (u66 hr) (hgd rfl)) rfl T.b_repr (by decide +kernel) (da_cons (de_var (i := 1) rfl (.inl rfl)) da_nil)))))

/-! _law_gcd -/
abbrev st__law_gcd : Stmt := topS 27
theorem sc__law_gcd : FnScope ["a", "b", "turn"] ["a", "b"] (defScope st__law_gcd) := ⟨rfl, rfl, rfl, by decide +kernel, rfl, by decide +kernel, by decide +kernel⟩
noncomputable def g__law_gcd : GS :=
  (sSeq (sPar 0 1 (eIf (tOp' ltD (eVar 0) (eLit (.int 0))) (eOp subD (eLit (.int 0)) (eVar 0)) (eVar 0)) (eIf (tOp' ltD (eVar 1) (eLit (.int 0))) (eOp subD (eLit (.int 0)) (eVar 1)) (eVar 1)))
      (sSeq (sFor (iRg1 (eLit (.int 4000))) (gN 2) (sSeq (sIf (tOp' eqD (eVar 1) (eLit (.int 0))) sBrk sNil)
      (sPar 0 1 (eVar 1) (eOp modD (eArgs intD (aCons (eVar 0) aNil)) (eVar 1)))))
      (sRet (eVar 0))))
noncomputable def f__law_gcd (ds : List D) (m : Mem) : R D := fnB 3 g__law_gcd ds m
theorem w__law_gcd {w : World} {P : Pm} {base : Heap} {f : Addr} {fd : FuncData} (T : Txt P) (F : Fun P.K "_law_gcd" "_law_gcd" st__law_gcd f fd)  : FnG PP w P base false 1 f fd ["a", "b"] f__law_gcd := by
  refine fn_D (k := 0) F sc__law_gcd fun cdv A outer s H E hr hgd => ?_
  have tk : Takes (cxOf (L2.CX PP w) PP w P.K P.mg base ["a", "b", "turn"] "_law_gcd" (defScope st__law_gcd) f cdv A outer s H E) (xW E) := takes_of rfl rfl rfl rfl
  have hp : PassesOwn (model PP w) _ _ (cxOf (L2.CX PP w) PP w P.K P.mg base ["a", "b", "turn"] "_law_gcd" (defScope st__law_gcd) f cdv A outer s H E).xe := passes_of (X := cxOf (L2.CX PP w) PP w P.K P.mg base ["a", "b", "turn"] "_law_gcd" (defScope st__law_gcd) f cdv A outer s H E) rfl
  exact (ds_cons (ds_par rfl sc__law_gcd.nd rfl rfl (by decide) rfl rfl (de_if (dt_cmp op_ltD (de_var (i := 0) rfl (.inl rfl)) de_int) (de_op op_subD de_int (de_var (i := 0) rfl (.inl rfl))) (de_var (i := 0) rfl (.inl rfl))) (de_if (dt_cmp op_ltD (de_var (i := 1) rfl (.inl rfl)) de_int) (de_op op_subD de_int (de_var (i := 1) rfl (.inl rfl))) (de_var (i := 1) rfl (.inl rfl))) (by rfl))
      (ds_cons (ds_for hp rfl (di_range1 rfl T.b_range de_int) (dg_name sc__law_gcd.nd rfl (.inl rfl) (.inl rfl)) (ds_cons (ds_if (dt_cmp (op_eqDD rfl (u64 hr)) (de_var (i := 1) rfl (.inl rfl)) de_int) (ds_one ds_break) ds_nil)
      (ds_one (ds_par rfl sc__law_gcd.nd rfl rfl (by decide) rfl rfl (de_var (i := 1) rfl (.inl rfl)) (de_op op_modD (de_ty ty_int rfl T.b_int (by decide +kernel) (da_cons (de_var (i := 0) rfl (.inl rfl)) da_nil)) (de_var (i := 1) rfl (.inl rfl))) (by rfl)))))
      (ds_one (ds_ret (de_var (i := 0) rfl (.inl rfl))))))

/-! _law_frac -/
abbrev st__law_frac : Stmt := topS 28
theorem sc__law_frac : FnScope ["top", "bottom", "shared"] ["top", "bottom"] (defScope st__law_frac) := ⟨rfl, rfl, rfl, by decide +kernel, rfl, by decide +kernel, by decide +kernel⟩
noncomputable def g__law_frac : GS :=
  (sSeq (sAsg (eIf (tOp' ltD (eVar 1) (eLit (.int 0))) (eArgs mkTup (aCons (eOp subD (eLit (.int 0)) (eVar 0)) (aCons (eOp subD (eLit (.int 0)) (eVar 1)) aNil))) (eArgs mkTup (aCons (eVar 0) (aCons (eVar 1) aNil)))) (gT 2 (gsCons (gN 0) (gsCons (gN 1) gsNil))))
      (sSeq (sAsg (eCall 2 f__law_gcd (aCons (eVar 0) (aCons (eVar 1) aNil))) (gN 2))
      (sRet (eArgs mkTup (aCons (eOp divD (eVar 0) (eVar 2)) (aCons (eOp divD (eVar 1) (eVar 2)) aNil))))))
noncomputable def f__law_frac (ds : List D) (m : Mem) : R D := fnB 3 g__law_frac ds m
theorem w__law_frac {w : World} {P : Pm} {base : Heap} {f : Addr} {fd : FuncData} (T : Txt P) (F : Fun P.K "_law_frac" "_law_frac" st__law_frac f fd) (C__law_gcd : Clb PP w P base false 1 "_law_gcd" 2 f__law_gcd) : FnG PP w P base false 2 f fd ["top", "bottom"] f__law_frac := by
  refine fn_D (k := 1) F sc__law_frac fun cdv A outer s H E hr hgd => ?_
  have tk : Takes (cxOf (L2.CX PP w) PP w P.K P.mg base ["top", "bottom", "shared"] "_law_frac" (defScope st__law_frac) f cdv A outer s H E) (xW E) := takes_of rfl rfl rfl rfl
  exact (ds_cons (ds_asg (de_if (dt_cmp op_ltD (de_var (i := 1) rfl (.inl rfl)) de_int) (de_tup (da_cons (de_op op_subD de_int (de_var (i := 0) rfl (.inl rfl))) (da_cons (de_op op_subD de_int (de_var (i := 1) rfl (.inl rfl))) da_nil))) (de_tup (da_cons (de_var (i := 0) rfl (.inl rfl)) (da_cons (de_var (i := 1) rfl (.inl rfl)) da_nil)))) (dg_tup rfl rfl (dgs_cons (dg_name sc__law_frac.nd rfl (.inl rfl) (.inl rfl)) (dgs_cons (dg_name sc__law_frac.nd rfl (.inl rfl) (.inl rfl)) dgs_nil))))
      (ds_cons (ds_set sc__law_frac.nd rfl (.inl rfl) (de_call rfl rfl (C__law_gcd) (hr.mono (by decide)) (fun z => nomatch z) rfl tk (da_cons (de_var (i := 0) rfl (.inl rfl)) (da_cons (de_var (i := 1) rfl (.inl rfl)) da_nil))) (.inl rfl))
      (ds_one (ds_ret (de_tup (da_cons (de_op op_divD (de_var (i := 0) rfl (.inl rfl)) (de_var (i := 2) rfl (.inl rfl))) (da_cons (de_op op_divD (de_var (i := 1) rfl (.inl rfl)) (de_var (i := 2) rfl (.inl rfl))) da_nil)))))))

/-! _law_pick -/
abbrev st__law_pick : Stmt := topS 24
theorem sc__law_pick : FnScope ["box", "things"] ["box", "things"] (defScope st__law_pick) := ⟨rfl, rfl, rfl, by decide +kernel, rfl, by decide +kernel, by decide +kernel⟩
noncomputable def g__law_pick : GS :=
  (sRet (eOp ixD (eVar 1) (eCall 2 f__law_draw (aCons (eVar 0) (aCons (eArgs lenD (aCons (eVar 1) aNil)) aNil)))))
noncomputable def f__law_pick (ds : List D) (m : Mem) : R D := fnB 2 g__law_pick ds m
theorem w__law_pick {w : World} {P : Pm} {base : Heap} {f : Addr} {fd : FuncData} (T : Txt P) (F : Fun P.K "_law_pick" "_law_pick" st__law_pick f fd) (C__law_draw : Clb PP w P base false 1 "_law_draw" 2 f__law_draw) : FnG PP w P base false 2 f fd ["box", "things"] f__law_pick := by
  refine fn_D (k := 1) F sc__law_pick fun cdv A outer s H E hr hgd => ?_
  have tk : Takes (cxOf (L2.CX PP w) PP w P.K P.mg base ["box", "things"] "_law_pick" (defScope st__law_pick) f cdv A outer s H E) (xW E) := takes_of rfl rfl rfl rfl
  exact (ds_one (ds_ret (de_ix (ix_D rfl) (de_var (i := 1) rfl (.inl rfl)) (de_call rfl rfl (C__law_draw) (hr.mono (by decide)) (fun z => nomatch z) rfl tk (da_cons (de_var (i := 0) rfl (.inl rfl)) (da_cons (de_bi (bi_len rfl) rfl T.b_len (by decide +kernel) (da_cons (de_var (i := 1) rfl (.inl rfl)) da_nil)) da_nil))))))

/-! _law_small -/
abbrev st__law_small : Stmt := topS 34
theorem sc__law_small : FnScope ["box"] ["box"] (defScope st__law_small) := ⟨rfl, rfl, rfl, by decide +kernel, rfl, by decide +kernel, by decide +kernel⟩
noncomputable def g__law_small : GS :=
  (sRet (eCall 2 f__law_frac (aCons (eOp subD (eCall 2 f__law_draw (aCons (eVar 0) (aCons (eLit (.int 13)) aNil))) (eLit (.int 6))) (aCons (eCall 2 f__law_pick (aCons (eVar 0) (aCons (eArgs mkLst (aCons (eLit (.int 1)) (aCons (eLit (.int 1)) (aCons (eLit (.int 1)) (aCons (eLit (.int 2)) (aCons (eLit (.int 3)) aNil)))))) aNil))) aNil))))
noncomputable def f__law_small (ds : List D) (m : Mem) : R D := fnB 1 g__law_small ds m
theorem w__law_small {w : World} {P : Pm} {base : Heap} {f : Addr} {fd : FuncData} (T : Txt P) (F : Fun P.K "_law_small" "_law_small" st__law_small f fd) (C__law_draw : Clb PP w P base false 1 "_law_draw" 2 f__law_draw) (C__law_frac : Clb PP w P base false 2 "_law_frac" 2 f__law_frac) (C__law_pick : Clb PP w P base false 2 "_law_pick" 2 f__law_pick) : FnG PP w P base false 3 f fd ["box"] f__law_small := by
  refine fn_D (k := 2) F sc__law_small fun cdv A outer s H E hr hgd => ?_
  have tk : Takes (cxOf (L2.CX PP w) PP w P.K P.mg base ["box"] "_law_small" (defScope st__law_small) f cdv A outer s H E) (xW E) := takes_of rfl rfl rfl rfl
  exact (ds_one (ds_ret (de_call rfl rfl (C__law_frac) (hr.mono (by decide)) (fun z => nomatch z) rfl tk (da_cons (de_op op_subD (de_call rfl rfl (C__law_draw) (hr.mono (by decide)) (fun z => nomatch z) rfl tk (da_cons (de_var (i := 0) rfl (.inl rfl)) (da_cons de_int da_nil))) de_int) (da_cons (de_call rfl rfl (C__law_pick) (hr.mono (by decide)) (fun z => nomatch z) rfl tk (da_cons (de_var (i := 0) rfl (.inl rfl)) (da_cons (de_lst (da_cons de_int (da_cons de_int (da_cons de_int (da_cons de_int (da_cons de_int da_nil)))))) da_nil))) da_nil)))))

/-! _law_plus -/
abbrev st__law_plus : Stmt := topS 29
theorem sc__law_plus : FnScope ["a", "b"] ["a", "b"] (defScope st__law_plus) := ⟨rfl, rfl, rfl, by decide +kernel, rfl, by decide +kernel, by decide +kernel⟩
noncomputable def g__law_plus : GS :=
  (sRet (eCall 2 f__law_frac (aCons (eOp addD (eOp mulD (eOp ixD (eVar 0) (eLit (.int 0))) (eOp ixD (eVar 1) (eLit (.int 1)))) (eOp mulD (eOp ixD (eVar 1) (eLit (.int 0))) (eOp ixD (eVar 0) (eLit (.int 1))))) (aCons (eOp mulD (eOp ixD (eVar 0) (eLit (.int 1))) (eOp ixD (eVar 1) (eLit (.int 1)))) aNil))))
noncomputable def f__law_plus (ds : List D) (m : Mem) : R D := fnB 2 g__law_plus ds m
theorem w__law_plus {w : World} {P : Pm} {base : Heap} {f : Addr} {fd : FuncData} (T : Txt P) (F : Fun P.K "_law_plus" "_law_plus" st__law_plus f fd) (C__law_frac : Clb PP w P base false 2 "_law_frac" 2 f__law_frac) : FnG PP w P base false 3 f fd ["a", "b"] f__law_plus := by
  refine fn_D (k := 2) F sc__law_plus fun cdv A outer s H E hr hgd => ?_
  have tk : Takes (cxOf (L2.CX PP w) PP w P.K P.mg base ["a", "b"] "_law_plus" (defScope st__law_plus) f cdv A outer s H E) (xW E) := takes_of rfl rfl rfl rfl
  exact (ds_one (ds_ret (de_call rfl rfl (C__law_frac) (hr.mono (by decide)) (fun z => nomatch z) rfl tk (da_cons (de_op (op_addD rfl) (de_op op_mulD (de_ix (ix_D rfl) (de_var (i := 0) rfl (.inl rfl)) de_int) (de_ix (ix_D rfl) (de_var (i := 1) rfl (.inl rfl)) de_int)) (de_op op_mulD (de_ix (ix_D rfl) (de_var (i := 1) rfl (.inl rfl)) de_int) (de_ix (ix_D rfl) (de_var (i := 0) rfl (.inl rfl)) de_int))) (da_cons (de_op op_mulD (de_ix (ix_D rfl) (de_var (i := 0) rfl (.inl rfl)) de_int) (de_ix (ix_D rfl) (de_var (i := 1) rfl (.inl rfl)) de_int)) da_nil)))))

/-! _law_sum -/
abbrev st__law_sum : Stmt := topS 33
theorem sc__law_sum : FnScope ["row", "found", "one"] ["row"] (defScope st__law_sum) := ⟨rfl, rfl, rfl, by decide +kernel, rfl, by decide +kernel, by decide +kernel⟩
noncomputable def g__law_sum : GS :=
  (sSeq (sAsg (eArgs mkTup (aCons (eLit (.int 0)) (aCons (eLit (.int 1)) aNil))) (gN 1))
      (sSeq (sFor (iSeq (eVar 0)) (gN 2) (sAsg (eCall 2 f__law_plus (aCons (eVar 1) (aCons (eVar 2) aNil))) (gN 1)))
      (sRet (eVar 1))))
noncomputable def f__law_sum (ds : List D) (m : Mem) : R D := fnB 3 g__law_sum ds m
theorem w__law_sum {w : World} {P : Pm} {base : Heap} {f : Addr} {fd : FuncData} (T : Txt P) (F : Fun P.K "_law_sum" "_law_sum" st__law_sum f fd) (C__law_plus : Clb PP w P base false 3 "_law_plus" 2 f__law_plus) : FnG PP w P base false 4 f fd ["row"] f__law_sum := by
  refine fn_D (k := 3) F sc__law_sum fun cdv A outer s H E hr hgd => ?_
  have tk : Takes (cxOf (L2.CX PP w) PP w P.K P.mg base ["row", "found", "one"] "_law_sum" (defScope st__law_sum) f cdv A outer s H E) (xW E) := takes_of rfl rfl rfl rfl
  have hp : PassesOwn (model PP w) _ _ (cxOf (L2.CX PP w) PP w P.K P.mg base ["row", "found", "one"] "_law_sum" (defScope st__law_sum) f cdv A outer s H E).xe := passes_of (X := cxOf (L2.CX PP w) PP w P.K P.mg base ["row", "found", "one"] "_law_sum" (defScope st__law_sum) f cdv A outer s H E) rfl
  exact (ds_cons (ds_set sc__law_sum.nd rfl (.inl rfl) (de_tup (da_cons de_int (da_cons de_int da_nil))) (.inl rfl))
      (ds_cons (ds_for hp rfl (di_seq rfl (de_var (i := 0) rfl (.inl rfl))) (dg_name sc__law_sum.nd rfl (.inl rfl) (.inl rfl)) (ds_one (ds_set sc__law_sum.nd rfl (.inl rfl) (de_call rfl rfl (C__law_plus) (hr.mono (by decide)) (fun z => nomatch z) rfl tk (da_cons (de_var (i := 1) rfl (.inl rfl)) (da_cons (de_var (i := 2) rfl (.inl rfl)) da_nil))) (.inl rfl))))
      (ds_one (ds_ret (de_var (i := 1) rfl (.inl rfl))))))

/-! squares_sum -/
abbrev st_squares_sum : Stmt := topS 20
theorem sc_squares_sum : FnScope ["points", "slope", "start", "found", "flow", "told", "rest"] ["points", "slope", "start"] (defScope st_squares_sum) := ⟨rfl, rfl, rfl, by decide +kernel, rfl, by decide +kernel, by decide +kernel⟩
noncomputable def g_squares_sum : GS :=
  (sSeq (sExpr (eCall 1 f_check_points (aCons (eVar 0) aNil)))
      (sSeq (sIf (tOr' (tNot' (tTru (eCall 1 f_is_fraction (aCons (eVar 1) aNil)))) (tNot' (tTru (eCall 1 f_is_fraction (aCons (eVar 2) aNil))))) (sRaise "BadValue" "reason" (eLit (.str (PySem.Str.ofString "line")))) sNil)
      (sSeq (sAsg (eLit (.tup [.int 0, .int 1])) (gN 3))
      (sSeq (sFor (iSeq (eVar 0)) (gT 2 (gsCons (gN 4) (gsCons (gN 5) gsNil))) (sSeq (sAsg (eCall 2 f_minus (aCons (eVar 5) (aCons (eCall 2 f_plus (aCons (eVar 2) (aCons (eCall 2 f_times (aCons (eVar 1) (aCons (eVar 4) aNil))) aNil))) aNil))) (gN 6))
      (sAsg (eCall 2 f_plus (aCons (eVar 3) (aCons (eCall 2 f_times (aCons (eVar 6) (aCons (eVar 6) aNil))) aNil))) (gN 3))))
      (sRet (eVar 3))))))
noncomputable def f_squares_sum (ds : List D) (m : Mem) : R D := fnB 7 g_squares_sum ds m
theorem w_squares_sum {w : World} {P : Pm} {base : Heap} {f : Addr} {fd : FuncData} (T : Txt P) (F : Fun P.K "squares_sum" "squares_sum" st_squares_sum f fd) (C_is_fraction : Clb PP w P base false 2 "is_fraction" 1 f_is_fraction) (C_check_points : Clb PP w P base false 4 "check_points" 1 f_check_points) (C_plus : Clb PP w P base false 2 "plus" 2 f_plus) (C_minus : Clb PP w P base false 3 "minus" 2 f_minus) (C_times : Clb PP w P base false 2 "times" 2 f_times) : FnG PP w P base false 5 f fd ["points", "slope", "start"] f_squares_sum := by
  refine fn_D (k := 4) F sc_squares_sum fun cdv A outer s H E hr hgd => ?_
  obtain ⟨C_BadValue, I_BadValue, x_BadValue⟩ := T.x_BadValue
  have tk : Takes (cxOf (L2.CX PP w) PP w P.K P.mg base ["points", "slope", "start", "found", "flow", "told", "rest"] "squares_sum" (defScope st_squares_sum) f cdv A outer s H E) (xW E) := takes_of rfl rfl rfl rfl
  have hp : PassesOwn (model PP w) _ _ (cxOf (L2.CX PP w) PP w P.K P.mg base ["points", "slope", "start", "found", "flow", "told", "rest"] "squares_sum" (defScope st_squares_sum) f cdv A outer s H E).xe := passes_of (X := cxOf (L2.CX PP w) PP w P.K P.mg base ["points", "slope", "start", "found", "flow", "told", "rest"] "squares_sum" (defScope st_squares_sum) f cdv A outer s H E) rfl
  exact (ds_cons (ds_expr (de_call rfl rfl (C_check_points) (hr.mono (by decide)) (fun z => nomatch z) rfl tk (da_cons (de_var (i := 0) rfl (.inl rfl)) da_nil)))
      (ds_cons (ds_if (L2.PW.pt (dw_or (dt_not (dt_tru rfl (de_call rfl rfl (C_is_fraction) (hr.mono (by decide)) (fun z => nomatch z) rfl tk (da_cons (de_var (i := 1) rfl (.inl rfl)) da_nil)))) (dw_or1 (dt_not (dt_tru rfl (de_call rfl rfl (C_is_fraction) (hr.mono (by decide)) (fun z => nomatch z) rfl tk (da_cons (de_var (i := 2) rfl (.inl rfl)) da_nil))))))) (ds_one (ds_raise rfl rfl x_BadValue hr tk de_str rfl (by decide) (by decide) (by decide))) ds_nil)
      (ds_cons (ds_set sc_squares_sum.nd rfl (.inl rfl) (de_gtup rfl rfl rfl T.t_ZERO (fun _ _ => (.cons (.int _) (.cons (.int _) .nil)))) (.inl rfl))
      (ds_cons (ds_for hp rfl (di_seq rfl (de_var (i := 0) rfl (.inl rfl))) (dg_tup rfl rfl (dgs_cons (dg_name sc_squares_sum.nd rfl (.inl rfl) (.inl rfl)) (dgs_cons (dg_name sc_squares_sum.nd rfl (.inl rfl) (.inl rfl)) dgs_nil))) (ds_cons (ds_set sc_squares_sum.nd rfl (.inl rfl) (de_call rfl rfl (C_minus) (hr.mono (by decide)) (fun z => nomatch z) rfl tk (da_cons (de_var (i := 5) rfl (.inl rfl)) (da_cons (de_call rfl rfl (C_plus) (hr.mono (by decide)) (fun z => nomatch z) rfl tk (da_cons (de_var (i := 2) rfl (.inl rfl)) (da_cons (de_call rfl rfl (C_times) (hr.mono (by decide)) (fun z => nomatch z) rfl tk (da_cons (de_var (i := 1) rfl (.inl rfl)) (da_cons (de_var (i := 4) rfl (.inl rfl)) da_nil))) da_nil))) da_nil))) (.inl rfl))
      (ds_one (ds_set sc_squares_sum.nd rfl (.inl rfl) (de_call rfl rfl (C_plus) (hr.mono (by decide)) (fun z => nomatch z) rfl tk (da_cons (de_var (i := 3) rfl (.inl rfl)) (da_cons (de_call rfl rfl (C_times) (hr.mono (by decide)) (fun z => nomatch z) rfl tk (da_cons (de_var (i := 6) rfl (.inl rfl)) (da_cons (de_var (i := 6) rfl (.inl rfl)) da_nil))) da_nil))) (.inl rfl)))))
      (ds_one (ds_ret (de_var (i := 3) rfl (.inl rfl))))))))

/-! _law_less -/
abbrev st__law_less : Stmt := topS 32
theorem sc__law_less : FnScope ["a", "b"] ["a", "b"] (defScope st__law_less) := ⟨rfl, rfl, rfl, by decide +kernel, rfl, by decide +kernel, by decide +kernel⟩
noncomputable def g__law_less : GS :=
  (sRet (eOp ltD (eOp mulD (eOp ixD (eVar 0) (eLit (.int 0))) (eOp ixD (eVar 1) (eLit (.int 1)))) (eOp mulD (eOp ixD (eVar 1) (eLit (.int 0))) (eOp ixD (eVar 0) (eLit (.int 1))))))
noncomputable def f__law_less (ds : List D) (m : Mem) : R D := fnB 2 g__law_less ds m
theorem w__law_less {w : World} {P : Pm} {base : Heap} {f : Addr} {fd : FuncData} (T : Txt P) (F : Fun P.K "_law_less" "_law_less" st__law_less f fd)  : FnG PP w P base false 1 f fd ["a", "b"] f__law_less := by
  refine fn_D (k := 0) F sc__law_less fun cdv A outer s H E hr hgd => ?_
  have tk : Takes (cxOf (L2.CX PP w) PP w P.K P.mg base ["a", "b"] "_law_less" (defScope st__law_less) f cdv A outer s H E) (xW E) := takes_of rfl rfl rfl rfl
  exact (ds_one (ds_ret (de_cmp op_ltD (de_op op_mulD (de_ix (ix_D rfl) (de_var (i := 0) rfl (.inl rfl)) de_int) (de_ix (ix_D rfl) (de_var (i := 1) rfl (.inl rfl)) de_int)) (de_op op_mulD (de_ix (ix_D rfl) (de_var (i := 1) rfl (.inl rfl)) de_int) (de_ix (ix_D rfl) (de_var (i := 0) rfl (.inl rfl)) de_int)))))

/-! _law_minus -/
abbrev st__law_minus : Stmt := topS 30
theorem sc__law_minus : FnScope ["a", "b"] ["a", "b"] (defScope st__law_minus) := ⟨rfl, rfl, rfl, by decide +kernel, rfl, by decide +kernel, by decide +kernel⟩
noncomputable def g__law_minus : GS :=
  (sRet (eCall 2 f__law_frac (aCons (eOp subD (eOp mulD (eOp ixD (eVar 0) (eLit (.int 0))) (eOp ixD (eVar 1) (eLit (.int 1)))) (eOp mulD (eOp ixD (eVar 1) (eLit (.int 0))) (eOp ixD (eVar 0) (eLit (.int 1))))) (aCons (eOp mulD (eOp ixD (eVar 0) (eLit (.int 1))) (eOp ixD (eVar 1) (eLit (.int 1)))) aNil))))
noncomputable def f__law_minus (ds : List D) (m : Mem) : R D := fnB 2 g__law_minus ds m
theorem w__law_minus {w : World} {P : Pm} {base : Heap} {f : Addr} {fd : FuncData} (T : Txt P) (F : Fun P.K "_law_minus" "_law_minus" st__law_minus f fd) (C__law_frac : Clb PP w P base false 2 "_law_frac" 2 f__law_frac) : FnG PP w P base false 3 f fd ["a", "b"] f__law_minus := by
  refine fn_D (k := 2) F sc__law_minus fun cdv A outer s H E hr hgd => ?_
  have tk : Takes (cxOf (L2.CX PP w) PP w P.K P.mg base ["a", "b"] "_law_minus" (defScope st__law_minus) f cdv A outer s H E) (xW E) := takes_of rfl rfl rfl rfl
  exact (ds_one (ds_ret (de_call rfl rfl (C__law_frac) (hr.mono (by decide)) (fun z => nomatch z) rfl tk (da_cons (de_op op_subD (de_op op_mulD (de_ix (ix_D rfl) (de_var (i := 0) rfl (.inl rfl)) de_int) (de_ix (ix_D rfl) (de_var (i := 1) rfl (.inl rfl)) de_int)) (de_op op_mulD (de_ix (ix_D rfl) (de_var (i := 1) rfl (.inl rfl)) de_int) (de_ix (ix_D rfl) (de_var (i := 0) rfl (.inl rfl)) de_int))) (da_cons (de_op op_mulD (de_ix (ix_D rfl) (de_var (i := 0) rfl (.inl rfl)) de_int) (de_ix (ix_D rfl) (de_var (i := 1) rfl (.inl rfl)) de_int)) da_nil)))))

/-! _law_times -/
abbrev st__law_times : Stmt := topS 31
theorem sc__law_times : FnScope ["a", "b"] ["a", "b"] (defScope st__law_times) := ⟨rfl, rfl, rfl, by decide +kernel, rfl, by decide +kernel, by decide +kernel⟩
noncomputable def g__law_times : GS :=
  (sRet (eCall 2 f__law_frac (aCons (eOp mulD (eOp ixD (eVar 0) (eLit (.int 0))) (eOp ixD (eVar 1) (eLit (.int 0)))) (aCons (eOp mulD (eOp ixD (eVar 0) (eLit (.int 1))) (eOp ixD (eVar 1) (eLit (.int 1)))) aNil))))
noncomputable def f__law_times (ds : List D) (m : Mem) : R D := fnB 2 g__law_times ds m
theorem w__law_times {w : World} {P : Pm} {base : Heap} {f : Addr} {fd : FuncData} (T : Txt P) (F : Fun P.K "_law_times" "_law_times" st__law_times f fd) (C__law_frac : Clb PP w P base false 2 "_law_frac" 2 f__law_frac) : FnG PP w P base false 3 f fd ["a", "b"] f__law_times := by
  refine fn_D (k := 2) F sc__law_times fun cdv A outer s H E hr hgd => ?_
  have tk : Takes (cxOf (L2.CX PP w) PP w P.K P.mg base ["a", "b"] "_law_times" (defScope st__law_times) f cdv A outer s H E) (xW E) := takes_of rfl rfl rfl rfl
  exact (ds_one (ds_ret (de_call rfl rfl (C__law_frac) (hr.mono (by decide)) (fun z => nomatch z) rfl tk (da_cons (de_op op_mulD (de_ix (ix_D rfl) (de_var (i := 0) rfl (.inl rfl)) de_int) (de_ix (ix_D rfl) (de_var (i := 1) rfl (.inl rfl)) de_int)) (da_cons (de_op op_mulD (de_ix (ix_D rfl) (de_var (i := 0) rfl (.inl rfl)) de_int) (de_ix (ix_D rfl) (de_var (i := 1) rfl (.inl rfl)) de_int)) da_nil)))))

/-! _law_row -/
abbrev st__law_row : Stmt := topS 35
theorem sc__law_row : FnScope ["thing", "many", "one", "k"] ["thing", "many"] (defScope st__law_row) := ⟨rfl, rfl, rfl, by decide +kernel, rfl, by decide +kernel, by decide +kernel⟩
noncomputable def g__law_row : GS :=
  (sSeq (sIf (tOr' (tNot' (tTru (eUn (isD1 .tuple) (eVar 0)))) (tOp' neD (eArgs lenD (aCons (eVar 0) aNil)) (eVar 1))) (sRet (eLit (.bl false))) sNil)
      (sSeq (sFor (iSeq (eVar 0)) (gN 2) (sSeq (sIf (tOr' (tNot' (tTru (eUn (isD1 .tuple) (eVar 2)))) (tOr' (tOp' neD (eArgs lenD (aCons (eVar 2) aNil)) (eLit (.int 2))) (tOp' neD (eComp [3] (iSeq (eVar 2)) (gN 3) (tOr' (tNot' (tTru (eUn (isD1 .int) (eVar 3)))) (tTru (eUn (isD1 .bool) (eVar 3)))) (eVar 3)) (eArgs mkLst aNil)))) (sRet (eLit (.bl false))) sNil)
      (sIf (tOr' (tOp' ltD (eOp ixD (eVar 2) (eLit (.int 1))) (eLit (.int 1))) (tOp' neD (eCall 2 f__law_gcd (aCons (eOp ixD (eVar 2) (eLit (.int 0))) (aCons (eOp ixD (eVar 2) (eLit (.int 1))) aNil))) (eLit (.int 1)))) (sRet (eLit (.bl false))) sNil)))
      (sRet (eLit (.bl true)))))
noncomputable def f__law_row (ds : List D) (m : Mem) : R D := fnB 4 g__law_row ds m
theorem w__law_row {w : World} {P : Pm} {base : Heap} {f : Addr} {fd : FuncData} (T : Txt P) (F : Fun P.K "_law_row" "_law_row" st__law_row f fd) (C__law_gcd : Clb PP w P base false 1 "_law_gcd" 2 f__law_gcd) : FnG PP w P base false 2 f fd ["thing", "many"] f__law_row := by
  refine fn_D (k := 1) F sc__law_row fun cdv A outer s H E hr hgd => ?_
  have tk : Takes (cxOf (L2.CX PP w) PP w P.K P.mg base ["thing", "many", "one", "k"] "_law_row" (defScope st__law_row) f cdv A outer s H E) (xW E) := takes_of rfl rfl rfl rfl
  have hp : PassesOwn (model PP w) _ _ (cxOf (L2.CX PP w) PP w P.K P.mg base ["thing", "many", "one", "k"] "_law_row" (defScope st__law_row) f cdv A outer s H E).xe := passes_of (X := cxOf (L2.CX PP w) PP w P.K P.mg base ["thing", "many", "one", "k"] "_law_row" (defScope st__law_row) f cdv A outer s H E) rfl
  exact (ds_cons (ds_if (L2.PW.pt (dw_or (dt_not (dt_tru rfl (de_isi (T := .tuple) rfl rfl T.b_isinstance rfl T.b_tuple (by decide +kernel) (by decide +kernel) (by decide +kernel) (de_var (i := 0) rfl (.inl rfl))))) (dw_or1 (dt_cmp (op_neDD rfl (u64 hr)) (de_bi (bi_len rfl) rfl T.b_len (by decide +kernel) (da_cons (de_var (i := 0) rfl (.inl rfl)) da_nil)) (de_var (i := 1) rfl (.inl rfl)))))) (ds_one (ds_ret de_bl)) ds_nil)
      (ds_cons (ds_for hp rfl (di_seq rfl (de_var (i := 0) rfl (.inl rfl))) (dg_name sc__law_row.nd rfl (.inl rfl) (.inl rfl)) (ds_cons (ds_if (L2.PW.pt (dw_or (dt_not (dt_tru rfl (de_isi (T := .tuple) rfl rfl T.b_isinstance rfl T.b_tuple (by decide +kernel) (by decide +kernel) (by decide +kernel) (de_var (i := 2) rfl (.inl rfl))))) (dw_or (dt_cmp (op_neDD rfl (u64 hr)) (de_bi (bi_len rfl) rfl T.b_len (by decide +kernel) (da_cons (de_var (i := 2) rfl (.inl rfl)) da_nil)) de_int) (dw_or1 (dt_cmp (op_neDD rfl (u64 hr)) (de_comp (own := [("k", 3)]) rfl sc__law_row.nd (di_seq rfl (de_var (i := 2) rfl (.inl rfl))) (blkOk_by (N := ["thing", "many", "one", "k"]) (sc := defScope st__law_row) (by decide +kernel)) (tgn_name (i := 3) (by decide)) (fun _ _ _ _ _ => (pg_name (i := 3) sc__law_row.nd rfl (.inl rfl) (.inr rfl))) (fun _ _ _ _ _ => (dc_pts1 (L2.PW.pt (dw_or (dt_not (dt_tru rfl (de_isi (T := .int) rfl rfl T.b_isinstance rfl T.b_int (by decide +kernel) (by decide +kernel) (by decide +kernel) (de_var (i := 3) rfl (.inl rfl))))) (dw_or1 (dt_tru rfl (de_isi (T := .bool) rfl rfl T.b_isinstance rfl T.b_bool (by decide +kernel) (by decide +kernel) (by decide +kernel) (de_var (i := 3) rfl (.inl rfl))))))))) (fun _ _ _ _ _ => (de_var (i := 3) rfl (.inl rfl)))) (de_lst da_nil)))))) (ds_one (ds_ret de_bl)) ds_nil)
      (ds_one (ds_if (L2.PW.pt (dw_or (dt_cmp op_ltD (de_ix (ix_D rfl) (de_var (i := 2) rfl (.inl rfl)) de_int) de_int) (dw_or1 (dt_cmp (op_neDD rfl (u64 hr)) (de_call rfl rfl (C__law_gcd) (hr.mono (by decide)) (fun z => nomatch z) rfl tk (da_cons (de_ix (ix_D rfl) (de_var (i := 2) rfl (.inl rfl)) de_int) (da_cons (de_ix (ix_D rfl) (de_var (i := 2) rfl (.inl rfl)) de_int) da_nil))) de_int)))) (ds_one (ds_ret de_bl)) ds_nil))))
      (ds_one (ds_ret de_bl))))

def told_l : List Cl4 := [⟨"BadValue", 0, "bad value", "reason"⟩, ⟨"Refused", 0, "refused", "reason"⟩, ⟨"TooMany", 0, "too many", "what"⟩]
/-! law -/
abbrev st_law : Stmt := topS 36
theorem sc_law : FnScope ["script", "box", "turn", "one_flow", "points", "flow", "slope", "start", "kind", "k", "here", "line", "told", "rests", "leaning", "least_sum", "odd", "point", "one"] ["script"] (defScope st_law) := ⟨rfl, rfl, rfl, by decide +kernel, rfl, by decide +kernel, by decide +kernel⟩
noncomputable def g_law_1 : GS :=
  (sAsg (eIf (tTru (eVar 3)) (eVar 5) (eCall 1 f__law_small (aCons (eVar 1) aNil))) (gN 10))
noncomputable def g_law_2 : GS :=
  (sAsg (eCall 2 f__law_plus (aCons (eVar 7) (aCons (eCall 2 f__law_times (aCons (eVar 6) (aCons (eVar 10) aNil))) aNil))) (gN 11))
noncomputable def g_law_3 : GS :=
  (sExpr (eMeth "list" appD (eVar 4) (aCons (eArgs mkTup (aCons (eVar 10) (aCons (eIf (tOp' eqD (eVar 8) (eLit (.int 0))) (eVar 11) (eCall 1 f__law_small (aCons (eVar 1) aNil))) aNil))) aNil)))
noncomputable def g_law_4 : GS :=
  (sSeq g_law_1
      (sSeq g_law_2
      g_law_3))
noncomputable def g_law_5 : GS :=
  (sIf (tOp' isntVD (eVar 12) (eLit .non)) (sRet (eLit (.bl false))) sNil)
noncomputable def g_law_6 : GS :=
  (sIf (tNot' (tTru (eCall 2 f__law_row (aCons (eVar 12) (aCons (eLit (.int 2)) aNil))))) (sRet (eLit (.bl false))) sNil)
noncomputable def g_law_7 : GS :=
  (sAsg (eComp [17] (iSeq (eVar 4)) (gN 17) tYes' (eCall 2 f__law_minus (aCons (eOp ixD (eVar 17) (eLit (.int 1))) (aCons (eCall 2 f__law_plus (aCons (eOp ixD (eVar 12) (eLit (.int 1))) (aCons (eCall 2 f__law_times (aCons (eOp ixD (eVar 12) (eLit (.int 0))) (aCons (eOp ixD (eVar 17) (eLit (.int 0))) aNil))) aNil))) aNil)))) (gN 13))
noncomputable def g_law_8 : GS :=
  (sAsg (eCall 1 f__law_sum (aCons (eComp [9] (iRg1 (eArgs lenD (aCons (eVar 4) aNil))) (gN 9) tYes' (eCall 2 f__law_times (aCons (eOp ixD (eVar 13) (eVar 9)) (aCons (eOp ixD (eOp ixD (eVar 4) (eVar 9)) (eLit (.int 0))) aNil)))) aNil)) (gN 14))
noncomputable def g_law_9 : GS :=
  (sIf (tOr' (tOp' neD (eCall 1 f__law_sum (aCons (eVar 13) aNil)) (eArgs mkTup (aCons (eLit (.int 0)) (aCons (eLit (.int 1)) aNil)))) (tOp' neD (eVar 14) (eArgs mkTup (aCons (eLit (.int 0)) (aCons (eLit (.int 1)) aNil))))) (sRet (eLit (.bl false))) sNil)
noncomputable def g_law_10 : GS :=
  (sAsg (eCall 3 f_squares_sum (aCons (eVar 4) (aCons (eOp ixD (eVar 12) (eLit (.int 0))) (aCons (eOp ixD (eVar 12) (eLit (.int 1))) aNil)))) (gN 15))
noncomputable def g_law_11 : GS :=
  (sIf (tNot' (tTru (eCall 2 f__law_same (aCons (eVar 15) (aCons (eCall 1 f__law_sum (aCons (eComp [18] (iSeq (eVar 13)) (gN 18) tYes' (eCall 2 f__law_times (aCons (eVar 18) (aCons (eVar 18) aNil)))) aNil)) aNil))))) (sRet (eLit (.bl false))) sNil)
noncomputable def g_law_12 : GS :=
  (sIf (tTru (eCall 2 f__law_less (aCons (eCall 3 f_squares_sum (aCons (eVar 4) (aCons (eCall 2 f__law_plus (aCons (eOp ixD (eVar 12) (eLit (.int 0))) (aCons (eCall 1 f__law_small (aCons (eVar 1) aNil)) aNil))) (aCons (eOp ixD (eVar 12) (eLit (.int 1))) aNil)))) (aCons (eVar 15) aNil)))) (sRet (eLit (.bl false))) sNil)
noncomputable def g_law_13 : GS :=
  (sAsg (eArgs mkTup (aCons (eOp eqD (eCall 2 f__law_draw (aCons (eVar 1) (aCons (eLit (.int 4)) aNil))) (eLit (.int 0))) (aCons (eArgs mkLst aNil) aNil))) (gT 2 (gsCons (gN 3) (gsCons (gN 4) gsNil))))
noncomputable def g_law_14 : GS :=
  (sAsg (eArgs mkTup (aCons (eCall 1 f__law_small (aCons (eVar 1) aNil)) (aCons (eCall 1 f__law_small (aCons (eVar 1) aNil)) (aCons (eCall 1 f__law_small (aCons (eVar 1) aNil)) aNil)))) (gT 3 (gsCons (gN 5) (gsCons (gN 6) (gsCons (gN 7) gsNil)))))
noncomputable def g_law_15 : GS :=
  (sAsg (eCall 2 f__law_draw (aCons (eVar 1) (aCons (eLit (.int 3)) aNil))) (gN 8))
noncomputable def g_law_16 : GS :=
  (sFor (iRg1 (eOp addD (eLit (.int 1)) (eCall 2 f__law_draw (aCons (eVar 1) (aCons (eLit (.int 6)) aNil))))) (gN 9) g_law_4)
noncomputable def g_law_17 : GS :=
  (sAsg (eCall 1 f_best_straight (aCons (eVar 4) aNil)) (gN 12))
noncomputable def g_law_18 : GS :=
  (sIf (tOp' eqD (eComp [17] (iSeq (eVar 4)) (gN 17) (tOp' neD (eOp ixD (eVar 17) (eLit (.int 0))) (eOp ixD (eOp ixD (eVar 4) (eLit (.int 0))) (eLit (.int 0)))) (eVar 17)) (eArgs mkLst aNil)) g_law_5 (sSeq g_law_6
      (sSeq g_law_7
      (sSeq g_law_8
      (sSeq g_law_9
      (sSeq g_law_10
      (sSeq g_law_11
      g_law_12)))))))
noncomputable def g_law_19 : GS :=
  (sAsg (eComp [17] (iSeq (eVar 4)) (gN 17) tYes' (eCall 2 f__law_minus (aCons (eOp ixD (eVar 17) (eLit (.int 1))) (aCons (eCall 2 f__law_plus (aCons (eVar 7) (aCons (eCall 2 f__law_times (aCons (eVar 6) (aCons (eOp ixD (eVar 17) (eLit (.int 0))) aNil))) aNil))) aNil)))) (gN 13))
noncomputable def g_law_20 : GS :=
  (sIf (tNot' (tTru (eCall 2 f__law_same (aCons (eCall 3 f_squares_sum (aCons (eVar 4) (aCons (eVar 6) (aCons (eVar 7) aNil)))) (aCons (eCall 1 f__law_sum (aCons (eComp [18] (iSeq (eVar 13)) (gN 18) tYes' (eCall 2 f__law_times (aCons (eVar 18) (aCons (eVar 18) aNil)))) aNil)) aNil))))) (sRet (eLit (.bl false))) sNil)
noncomputable def g_law_21 : GS :=
  (sSeq g_law_13
      (sSeq g_law_14
      (sSeq g_law_15
      (sSeq g_law_16
      (sSeq (sAsg (eArgs tupleD (aCons (eVar 4) aNil)) (gN 4))
      (sSeq g_law_17
      (sSeq g_law_18
      (sSeq g_law_19
      g_law_20))))))))
noncomputable def g_law_22 : GS :=
  (sAsg (eArgs mkLst (aCons (eTold told_l (eCall 1 f_best_straight (aCons (eVar 16) aNil))) aNil)) (gN 12))
noncomputable def g_law_23 : GS :=
  (sExpr (eMeth "list" appD (eVar 12) (aCons (eTold told_l (eCall 3 f_squares_sum (aCons (eVar 16) (aCons (eLit .non) (aCons (eLit .non) aNil))))) aNil)))
noncomputable def g_law_24 : GS :=
  (sIf (tOp' neD (eVar 12) (eOp mulD (eArgs mkLst (aCons (eArgs mkLst (aCons (eLit (.str (PySem.Str.ofString "bad value"))) (aCons (eLit (.str (PySem.Str.ofString "points"))) aNil))) aNil)) (eLit (.int 2)))) (sRet (eLit (.bl false))) sNil)
noncomputable def g_law_25 : GS :=
  (sSeq g_law_22
      (sSeq g_law_23
      g_law_24))
noncomputable def g_law_26 : GS :=
  (sAsg (eArgs mkLst (aCons (eTold told_l (eCall 3 f_squares_sum (aCons (eVar 4) (aCons (eVar 16) (aCons (eArgs mkTup (aCons (eLit (.int 0)) (aCons (eLit (.int 1)) aNil))) aNil))))) aNil)) (gN 12))
noncomputable def g_law_27 : GS :=
  (sExpr (eMeth "list" appD (eVar 12) (aCons (eTold told_l (eCall 3 f_squares_sum (aCons (eVar 4) (aCons (eArgs mkTup (aCons (eLit (.int 0)) (aCons (eLit (.int 1)) aNil))) (aCons (eVar 16) aNil))))) aNil)))
noncomputable def g_law_28 : GS :=
  (sIf (tOp' neD (eVar 12) (eOp mulD (eArgs mkLst (aCons (eArgs mkLst (aCons (eLit (.str (PySem.Str.ofString "bad value"))) (aCons (eLit (.str (PySem.Str.ofString "line"))) aNil))) aNil)) (eLit (.int 2)))) (sRet (eLit (.bl false))) sNil)
noncomputable def g_law_29 : GS :=
  (sSeq g_law_26
      (sSeq g_law_27
      g_law_28))
noncomputable def g_law_30 : GS :=
  (sAsg (eArgs mkLst (aCons (eCall 3 f__law_digits (aCons (eVar 0) (aCons (eLit (.int 0)) (aCons (eLit (.int 63)) aNil)))) (aCons (eLit (.int 0)) aNil))) (gN 1))
noncomputable def g_law_31 : GS :=
  (sFor (iSeq (eArgs mkTup (aCons (eLit .non) (aCons (eArgs mkLst aNil) (aCons (eArgs mkTup (aCons (eLit .non) aNil)) (aCons (eArgs mkTup (aCons (eArgs mkTup (aCons (eLit (.int 0)) (aCons (eLit (.int 1)) aNil))) (aCons (eArgs mkTup (aCons (eLit (.int 1)) (aCons (eLit (.int 2)) aNil))) aNil))) (aCons (eArgs mkTup (aCons (eArgs mkTup (aCons (eArgs mkTup (aCons (eLit (.int 0)) (aCons (eLit (.int 2)) aNil))) (aCons (eArgs mkTup (aCons (eLit (.int 1)) (aCons (eLit (.int 2)) aNil))) aNil))) aNil)) (aCons (eArgs mkTup (aCons (eArgs mkTup (aCons (eArgs mkTup (aCons (eLit (.int 0)) (aCons (eLit (.int 1)) aNil))) (aCons (eLit (.int 1)) aNil))) aNil)) aNil)))))))) (gN 16) g_law_25)
noncomputable def g_law_32 : GS :=
  (sFor (iSeq (eArgs mkTup (aCons (eLit .non) (aCons (eLit (.int 1)) (aCons (eArgs mkTup (aCons (eLit (.int 2)) (aCons (eLit (.int 4)) aNil))) (aCons (eArgs mkTup (aCons (eLit (.int 1)) (aCons (eLit (.int 0)) aNil))) aNil)))))) (gN 16) g_law_29)
noncomputable def g_law_33 : GS :=
  (sRet (eAnd (eOp eqD (eTold told_l (eCall 1 f_best_straight (aCons (eArgs mkTup aNil) aNil))) (eArgs mkLst (aCons (eLit (.str (PySem.Str.ofString "bad value"))) (aCons (eLit (.str (PySem.Str.ofString "points"))) aNil)))) (eCall 2 f__law_same (aCons (eCall 3 f_squares_sum (aCons (eArgs mkTup aNil) (aCons (eArgs mkTup (aCons (eLit (.int 1)) (aCons (eLit (.int 1)) aNil))) (aCons (eArgs mkTup (aCons (eLit (.int 1)) (aCons (eLit (.int 1)) aNil))) aNil)))) (aCons (eArgs mkTup (aCons (eLit (.int 0)) (aCons (eLit (.int 1)) aNil))) aNil)))))
noncomputable def g_law : GS :=
  (sSeq g_law_30
      (sSeq (sFor (iRg1 (eLit (.int 4))) (gN 2) g_law_21)
      (sSeq g_law_31
      (sSeq g_law_32
      g_law_33))))
noncomputable def f_law (ds : List D) (m : Mem) : R D := fnB 19 g_law ds m
abbrev st__law_told : Stmt := topS 26
theorem sc__law_told : FnScope ["call", "e"] ["call"] (defScope st__law_told) := ⟨rfl, rfl, rfl, by decide +kernel, rfl, by decide +kernel, by decide +kernel⟩
def qL : Str := ("law" : Str) ++ ".<locals>." ++ "<lambda>"
theorem w_law {w : World} {P : Pm} {base : Heap} {f g c Pt C0 C1 C2 : Addr} {fdt : FuncData} {oc kV doc pm ct : Value} {od an : Option Addr} {osl : Array (Option Value)} (T : Txt P) (lk : P.K.lookup f = some ⟨oc, od, .func (PySem.W.fnOf "law" "law" (defArgs st_law) (defBody st_law) (defScope st_law) .none kV doc pm an (.ref c) ct), osl⟩) (hcd : PySem.W.codeIn P.K (.ref c) "law" = true)
    (Cl : ClassesOk P [⟨"BadValue", C0, "bad value", "reason"⟩, ⟨"Refused", C1, "refused", "reason"⟩, ⟨"TooMany", C2, "too many", "what"⟩]) (hmt : P.mg "_law_told" = some (.ref g)) (Ft : Fun P.K "_law_told" "_law_told" st__law_told g fdt) (hbt : Binds P.K fdt ["call"] []) (TB : LamX.TabB base P.mg c Pt) (hT : P.T = [(Pt, qL)]) (C__law_digits : Clb PP w P base false 1 "_law_digits" 3 f__law_digits) (C__law_draw : Clb PP w P base false 1 "_law_draw" 2 f__law_draw) (C_best_straight : Clb PP w P base false 5 "best_straight" 1 f_best_straight) (C__law_same : Clb PP w P base true 1 "_law_same" 2 f__law_same) (C__law_small : Clb PP w P base false 3 "_law_small" 1 f__law_small) (C__law_plus : Clb PP w P base false 3 "_law_plus" 2 f__law_plus) (C__law_sum : Clb PP w P base false 4 "_law_sum" 1 f__law_sum) (C_squares_sum : Clb PP w P base false 5 "squares_sum" 3 f_squares_sum) (C__law_less : Clb PP w P base false 1 "_law_less" 2 f__law_less) (C__law_minus : Clb PP w P base false 3 "_law_minus" 2 f__law_minus) (C__law_times : Clb PP w P base false 3 "_law_times" 2 f__law_times) (C__law_row : Clb PP w P base false 2 "_law_row" 2 f__law_row) :
    FnG PP w P base true 8 f (PySem.W.fnOf "law" "law" (defArgs st_law) (defBody st_law) (defScope st_law) .none kV doc pm an (.ref c) ct) ["script"] f_law := by
  refine fn_Dc (k := 7) lk hcd sc_law fun A outer s H E hr hgd => ?_
  have tk : Takes (cxOf (L2.CX PP w) PP w P.K P.mg base ["script", "box", "turn", "one_flow", "points", "flow", "slope", "start", "kind", "k", "here", "line", "told", "rests", "leaning", "least_sum", "odd", "point", "one"] "law" (defScope st_law) f (.ref c) A outer s H E) (xW E) := takes_of rfl rfl rfl rfl
  have hp : PassesOwn (model PP w) _ _ (cxOf (L2.CX PP w) PP w P.K P.mg base ["script", "box", "turn", "one_flow", "points", "flow", "slope", "start", "kind", "k", "here", "line", "told", "rests", "leaning", "least_sum", "odd", "point", "one"] "law" (defScope st_law) f (.ref c) A outer s H E).xe := passes_of (X := cxOf (L2.CX PP w) PP w P.K P.mg base ["script", "box", "turn", "one_flow", "points", "flow", "slope", "start", "kind", "k", "here", "line", "told", "rests", "leaning", "least_sum", "odd", "point", "one"] "law" (defScope st_law) f (.ref c) A outer s H E) rfl
  exact (ds_cons (ds_set sc_law.nd rfl (.inl rfl) (de_lst (da_cons (de_call rfl rfl (C__law_digits) (hr.mono (by decide)) (fun z => nomatch z) rfl tk (da_cons (de_var (i := 0) rfl (.inl rfl)) (da_cons de_int (da_cons de_int da_nil)))) (da_cons de_int da_nil))) (.inl rfl))
      (ds_cons (ds_for hp rfl (di_range1 rfl T.b_range de_int) (dg_name sc_law.nd rfl (.inl rfl) (.inl rfl)) (ds_cons (ds_asg (de_tup (da_cons (de_cmp (op_eqDD rfl (u64 hr)) (de_call rfl rfl (C__law_draw) (hr.mono (by decide)) (fun z => nomatch z) rfl tk (da_cons (de_var (i := 1) rfl (.inl rfl)) (da_cons de_int da_nil))) de_int) (da_cons (de_lst da_nil) da_nil))) (dg_tup rfl rfl (dgs_cons (dg_name sc_law.nd rfl (.inl rfl) (.inl rfl)) (dgs_cons (dg_name sc_law.nd rfl (.inr rfl) (.inl rfl)) dgs_nil))))
      (ds_cons (ds_asg (de_tup (da_cons (de_call rfl rfl (C__law_small) (hr.mono (by decide)) (fun z => nomatch z) rfl tk (da_cons (de_var (i := 1) rfl (.inl rfl)) da_nil)) (da_cons (de_call rfl rfl (C__law_small) (hr.mono (by decide)) (fun z => nomatch z) rfl tk (da_cons (de_var (i := 1) rfl (.inl rfl)) da_nil)) (da_cons (de_call rfl rfl (C__law_small) (hr.mono (by decide)) (fun z => nomatch z) rfl tk (da_cons (de_var (i := 1) rfl (.inl rfl)) da_nil)) da_nil)))) (dg_tup rfl rfl (dgs_cons (dg_name sc_law.nd rfl (.inl rfl) (.inl rfl)) (dgs_cons (dg_name sc_law.nd rfl (.inr rfl) (.inl rfl)) (dgs_cons (dg_name sc_law.nd rfl (.inr rfl) (.inl rfl)) dgs_nil)))))
      (ds_cons (ds_set sc_law.nd rfl (.inl rfl) (de_call rfl rfl (C__law_draw) (hr.mono (by decide)) (fun z => nomatch z) rfl tk (da_cons (de_var (i := 1) rfl (.inl rfl)) (da_cons de_int da_nil))) (.inl rfl))
      (ds_cons (ds_for hp rfl (di_range1 rfl T.b_range (de_op (op_addD rfl) de_int (de_call rfl rfl (C__law_draw) (hr.mono (by decide)) (fun z => nomatch z) rfl tk (da_cons (de_var (i := 1) rfl (.inl rfl)) (da_cons de_int da_nil))))) (dg_name sc_law.nd rfl (.inl rfl) (.inl rfl)) (ds_cons (ds_set sc_law.nd rfl (.inl rfl) (de_if (dt_tru rfl (de_var (i := 3) rfl (.inl rfl))) (de_var (i := 5) rfl (.inl rfl)) (de_call rfl rfl (C__law_small) (hr.mono (by decide)) (fun z => nomatch z) rfl tk (da_cons (de_var (i := 1) rfl (.inl rfl)) da_nil))) (.inl rfl))
      (ds_cons (ds_set sc_law.nd rfl (.inl rfl) (de_call rfl rfl (C__law_plus) (hr.mono (by decide)) (fun z => nomatch z) rfl tk (da_cons (de_var (i := 7) rfl (.inr (.inl rfl))) (da_cons (de_call rfl rfl (C__law_times) (hr.mono (by decide)) (fun z => nomatch z) rfl tk (da_cons (de_var (i := 6) rfl (.inr (.inl rfl))) (da_cons (de_var (i := 10) rfl (.inl rfl)) da_nil))) da_nil))) (.inl rfl))
      (ds_one (ds_expr (de_meth rfl PySem.F.plainAttrs_list PySem.F.slot_list_append PySem.F.type_list_append mt_appD (de_var (i := 4) rfl (.inr (.inl rfl))) (da_cons (de_tup (da_cons (de_var (i := 10) rfl (.inl rfl)) (da_cons (de_if (dt_cmp (op_eqDD rfl (u64 hr)) (de_var (i := 8) rfl (.inl rfl)) de_int) (de_var (i := 11) rfl (.inl rfl)) (de_call rfl rfl (C__law_small) (hr.mono (by decide)) (fun z => nomatch z) rfl tk (da_cons (de_var (i := 1) rfl (.inl rfl)) da_nil))) da_nil))) da_nil)))))))
      (ds_cons (ds_set sc_law.nd rfl (.inr rfl) (de_ty (ty_tuple rfl) rfl T.b_tuple (by decide +kernel) (da_cons (de_var (i := 4) rfl (.inr (.inl rfl))) da_nil)) (.inl rfl))
      (ds_cons (ds_set sc_law.nd rfl (.inr rfl) (de_call rfl rfl (C_best_straight) (hr.mono (by decide)) (fun z => nomatch z) rfl tk (da_cons (de_var (i := 4) rfl (.inr (.inl rfl))) da_nil)) (.inl rfl))
      (ds_cons (ds_if (dt_cmp (op_eqDD rfl (u64 hr)) (de_comp (own := [("point", 17)]) rfl sc_law.nd (di_seq rfl (de_var (i := 4) rfl (.inr (.inl rfl)))) (blkOk_by (N := ["script", "box", "turn", "one_flow", "points", "flow", "slope", "start", "kind", "k", "here", "line", "told", "rests", "leaning", "least_sum", "odd", "point", "one"]) (sc := defScope st_law) (by decide +kernel)) (tgn_name (i := 17) (by decide)) (fun _ _ _ _ _ => (pg_name (i := 17) sc_law.nd rfl (.inl rfl) (.inr rfl))) (fun _ _ _ _ _ => (dc_pts1 (dt_cmp (op_neDD rfl (u64 hr)) (de_ix (ix_D rfl) (de_var (i := 17) rfl (.inl rfl)) de_int) (de_ix (ix_D rfl) (de_ix (ix_D rfl) (de_var (i := 4) rfl (.inr (.inl rfl))) de_int) de_int)))) (fun _ _ _ _ _ => (de_var (i := 17) rfl (.inl rfl)))) (de_lst da_nil)) (ds_one (ds_if (dt_cmp op_isntDD (de_var (i := 12) rfl (.inr (.inl rfl))) de_non) (ds_one (ds_ret de_bl)) ds_nil)) (ds_cons (ds_if (dt_not (dt_tru rfl (de_call rfl rfl (C__law_row) (hr.mono (by decide)) (fun z => nomatch z) rfl tk (da_cons (de_var (i := 12) rfl (.inr (.inl rfl))) (da_cons de_int da_nil))))) (ds_one (ds_ret de_bl)) ds_nil)
      (ds_cons (ds_set sc_law.nd rfl (.inr rfl) (de_comp (own := [("point", 17)]) rfl sc_law.nd (di_seq rfl (de_var (i := 4) rfl (.inr (.inl rfl)))) (blkOk_by (N := ["script", "box", "turn", "one_flow", "points", "flow", "slope", "start", "kind", "k", "here", "line", "told", "rests", "leaning", "least_sum", "odd", "point", "one"]) (sc := defScope st_law) (by decide +kernel)) (tgn_name (i := 17) (by decide)) (fun _ _ _ _ _ => (pg_name (i := 17) sc_law.nd rfl (.inl rfl) (.inr rfl))) (fun _ _ _ _ _ => dc_pts) (fun _ _ _ _ _ => (de_call rfl rfl (C__law_minus) (hr.mono (by decide)) (fun z => nomatch z) rfl LamX.takes0 (da_cons (de_ix (ix_D rfl) (de_var (i := 17) rfl (.inl rfl)) de_int) (da_cons (de_call rfl rfl (C__law_plus) (hr.mono (by decide)) (fun z => nomatch z) rfl LamX.takes0 (da_cons (de_ix (ix_D rfl) (de_var (i := 12) rfl (.inr (.inl rfl))) de_int) (da_cons (de_call rfl rfl (C__law_times) (hr.mono (by decide)) (fun z => nomatch z) rfl LamX.takes0 (da_cons (de_ix (ix_D rfl) (de_var (i := 12) rfl (.inr (.inl rfl))) de_int) (da_cons (de_ix (ix_D rfl) (de_var (i := 17) rfl (.inl rfl)) de_int) da_nil))) da_nil))) da_nil))))) (.inl rfl))
      (ds_cons (ds_set sc_law.nd rfl (.inl rfl) (de_call rfl rfl (C__law_sum) (hr.mono (by decide)) (fun z => nomatch z) rfl tk (da_cons (de_comp (own := [("k", 9)]) rfl sc_law.nd (di_range1 rfl T.b_range (de_bi (bi_len rfl) rfl T.b_len (by decide +kernel) (da_cons (de_var (i := 4) rfl (.inr (.inl rfl))) da_nil))) (blkOk_by (N := ["script", "box", "turn", "one_flow", "points", "flow", "slope", "start", "kind", "k", "here", "line", "told", "rests", "leaning", "least_sum", "odd", "point", "one"]) (sc := defScope st_law) (by decide +kernel)) (tgn_name (i := 9) (by decide)) (fun _ _ _ _ _ => (pg_name (i := 9) sc_law.nd rfl (.inl rfl) (.inr rfl))) (fun _ _ _ _ _ => dc_pts) (fun _ _ _ _ _ => (de_call rfl rfl (C__law_times) (hr.mono (by decide)) (fun z => nomatch z) rfl LamX.takes0 (da_cons (de_ix (ix_D rfl) (de_var (i := 13) rfl (.inr (.inl rfl))) (de_var (i := 9) rfl (.inl rfl))) (da_cons (de_ix (ix_D rfl) (de_ix (ix_D rfl) (de_var (i := 4) rfl (.inr (.inl rfl))) (de_var (i := 9) rfl (.inl rfl))) de_int) da_nil))))) da_nil)) (.inl rfl))
      (ds_cons (ds_if (L2.PW.pt (dw_or (dt_cmp (op_neDD rfl (u64 hr)) (de_call rfl rfl (C__law_sum) (hr.mono (by decide)) (fun z => nomatch z) rfl tk (da_cons (de_var (i := 13) rfl (.inr (.inl rfl))) da_nil)) (de_tup (da_cons de_int (da_cons de_int da_nil)))) (dw_or1 (dt_cmp (op_neDD rfl (u64 hr)) (de_var (i := 14) rfl (.inl rfl)) (de_tup (da_cons de_int (da_cons de_int da_nil))))))) (ds_one (ds_ret de_bl)) ds_nil)
      (ds_cons (ds_set sc_law.nd rfl (.inl rfl) (de_call rfl rfl (C_squares_sum) (hr.mono (by decide)) (fun z => nomatch z) rfl tk (da_cons (de_var (i := 4) rfl (.inr (.inl rfl))) (da_cons (de_ix (ix_D rfl) (de_var (i := 12) rfl (.inr (.inl rfl))) de_int) (da_cons (de_ix (ix_D rfl) (de_var (i := 12) rfl (.inr (.inl rfl))) de_int) da_nil)))) (.inl rfl))
      (ds_cons (ds_if (dt_not (dt_tru rfl (de_call rfl rfl (C__law_same) (hr.mono (by decide)) (fun _ => hgd rfl) rfl tk (da_cons (de_var (i := 15) rfl (.inl rfl)) (da_cons (de_call rfl rfl (C__law_sum) (hr.mono (by decide)) (fun z => nomatch z) rfl tk (da_cons (de_comp (own := [("one", 18)]) rfl sc_law.nd (di_seq rfl (de_var (i := 13) rfl (.inr (.inl rfl)))) (blkOk_by (N := ["script", "box", "turn", "one_flow", "points", "flow", "slope", "start", "kind", "k", "here", "line", "told", "rests", "leaning", "least_sum", "odd", "point", "one"]) (sc := defScope st_law) (by decide +kernel)) (tgn_name (i := 18) (by decide)) (fun _ _ _ _ _ => (pg_name (i := 18) sc_law.nd rfl (.inl rfl) (.inr rfl))) (fun _ _ _ _ _ => dc_pts) (fun _ _ _ _ _ => (de_call rfl rfl (C__law_times) (hr.mono (by decide)) (fun z => nomatch z) rfl LamX.takes0 (da_cons (de_var (i := 18) rfl (.inl rfl)) (da_cons (de_var (i := 18) rfl (.inl rfl)) da_nil))))) da_nil)) da_nil))))) (ds_one (ds_ret de_bl)) ds_nil)
      (ds_one (ds_if (dt_tru rfl (de_call rfl rfl (C__law_less) (hr.mono (by decide)) (fun z => nomatch z) rfl tk (da_cons (de_call rfl rfl (C_squares_sum) (hr.mono (by decide)) (fun z => nomatch z) rfl tk (da_cons (de_var (i := 4) rfl (.inr (.inl rfl))) (da_cons (de_call rfl rfl (C__law_plus) (hr.mono (by decide)) (fun z => nomatch z) rfl tk (da_cons (de_ix (ix_D rfl) (de_var (i := 12) rfl (.inr (.inl rfl))) de_int) (da_cons (de_call rfl rfl (C__law_small) (hr.mono (by decide)) (fun z => nomatch z) rfl tk (da_cons (de_var (i := 1) rfl (.inl rfl)) da_nil)) da_nil))) (da_cons (de_ix (ix_D rfl) (de_var (i := 12) rfl (.inr (.inl rfl))) de_int) da_nil)))) (da_cons (de_var (i := 15) rfl (.inl rfl)) da_nil)))) (ds_one (ds_ret de_bl)) ds_nil)))))))))
      (ds_cons (ds_set sc_law.nd rfl (.inr rfl) (de_comp (own := [("point", 17)]) rfl sc_law.nd (di_seq rfl (de_var (i := 4) rfl (.inr (.inl rfl)))) (blkOk_by (N := ["script", "box", "turn", "one_flow", "points", "flow", "slope", "start", "kind", "k", "here", "line", "told", "rests", "leaning", "least_sum", "odd", "point", "one"]) (sc := defScope st_law) (by decide +kernel)) (tgn_name (i := 17) (by decide)) (fun _ _ _ _ _ => (pg_name (i := 17) sc_law.nd rfl (.inl rfl) (.inr rfl))) (fun _ _ _ _ _ => dc_pts) (fun _ _ _ _ _ => (de_call rfl rfl (C__law_minus) (hr.mono (by decide)) (fun z => nomatch z) rfl LamX.takes0 (da_cons (de_ix (ix_D rfl) (de_var (i := 17) rfl (.inl rfl)) de_int) (da_cons (de_call rfl rfl (C__law_plus) (hr.mono (by decide)) (fun z => nomatch z) rfl LamX.takes0 (da_cons (de_var (i := 7) rfl (.inr (.inl rfl))) (da_cons (de_call rfl rfl (C__law_times) (hr.mono (by decide)) (fun z => nomatch z) rfl LamX.takes0 (da_cons (de_var (i := 6) rfl (.inr (.inl rfl))) (da_cons (de_ix (ix_D rfl) (de_var (i := 17) rfl (.inl rfl)) de_int) da_nil))) da_nil))) da_nil))))) (.inl rfl))
      (ds_one (ds_if (dt_not (dt_tru rfl (de_call rfl rfl (C__law_same) (hr.mono (by decide)) (fun _ => hgd rfl) rfl tk (da_cons (de_call rfl rfl (C_squares_sum) (hr.mono (by decide)) (fun z => nomatch z) rfl tk (da_cons (de_var (i := 4) rfl (.inr (.inl rfl))) (da_cons (de_var (i := 6) rfl (.inr (.inl rfl))) (da_cons (de_var (i := 7) rfl (.inr (.inl rfl))) da_nil)))) (da_cons (de_call rfl rfl (C__law_sum) (hr.mono (by decide)) (fun z => nomatch z) rfl tk (da_cons (de_comp (own := [("one", 18)]) rfl sc_law.nd (di_seq rfl (de_var (i := 13) rfl (.inr (.inl rfl)))) (blkOk_by (N := ["script", "box", "turn", "one_flow", "points", "flow", "slope", "start", "kind", "k", "here", "line", "told", "rests", "leaning", "least_sum", "odd", "point", "one"]) (sc := defScope st_law) (by decide +kernel)) (tgn_name (i := 18) (by decide)) (fun _ _ _ _ _ => (pg_name (i := 18) sc_law.nd rfl (.inl rfl) (.inr rfl))) (fun _ _ _ _ _ => dc_pts) (fun _ _ _ _ _ => (de_call rfl rfl (C__law_times) (hr.mono (by decide)) (fun z => nomatch z) rfl LamX.takes0 (da_cons (de_var (i := 18) rfl (.inl rfl)) (da_cons (de_var (i := 18) rfl (.inl rfl)) da_nil))))) da_nil)) da_nil))))) (ds_one (ds_ret de_bl)) ds_nil)))))))))))
      (ds_cons (ds_for hp rfl (di_seq rfl (de_tup (da_cons de_non (da_cons (de_lst da_nil) (da_cons (de_tup (da_cons de_non da_nil)) (da_cons (de_tup (da_cons (de_tup (da_cons de_int (da_cons de_int da_nil))) (da_cons (de_tup (da_cons de_int (da_cons de_int da_nil))) da_nil))) (da_cons (de_tup (da_cons (de_tup (da_cons (de_tup (da_cons de_int (da_cons de_int da_nil))) (da_cons (de_tup (da_cons de_int (da_cons de_int da_nil))) da_nil))) da_nil)) (da_cons (de_tup (da_cons (de_tup (da_cons (de_tup (da_cons de_int (da_cons de_int da_nil))) (da_cons de_int da_nil))) da_nil)) da_nil)))))))) (dg_name sc_law.nd rfl (.inr rfl) (.inl rfl)) (ds_cons (ds_set sc_law.nd rfl (.inr rfl) (de_lst (da_cons (de_tl (x := "_law_told") (l := [⟨"BadValue", C0, "bad value", "reason"⟩, ⟨"Refused", C1, "refused", "reason"⟩, ⟨"TooMany", C2, "too many", "what"⟩]) rfl rfl rfl Cl hmt Ft hbt sc__law_told rfl rfl (.inl rfl) (by decide) (by decide) (fun Y hY => (.cons (by show Y.env.scope.names.lookup _ = _; rw [hY]; rfl) rfl (.cons (by show Y.env.scope.names.lookup _ = _; rw [hY]; rfl) rfl (.cons (by show Y.env.scope.names.lookup _ = _; rw [hY]; rfl) rfl .nil)))) TB rfl (by rw [hT]; exact List.mem_singleton.mpr rfl) (by rw [hT]; intro p hp _; rw [List.mem_singleton.mp hp]; rfl) (k := 5) (hr.mono (by decide)) rfl (LamX.lamS_by (sc := defScope st_law) (by decide +kernel)) rfl (fun _ _ _ _ _ => rfl) (hdb := by decide) (hd := by decide) (hcd := by decide) (fun A' outer' s' H' E' f' c' hr => (de_call rfl rfl (C_best_straight) (hr.mono (by decide)) (fun z => nomatch z) rfl (takes_of rfl rfl rfl rfl) (da_cons (de_var (i := 16) rfl (.inr (.inr rfl))) da_nil)))) da_nil)) (.inl rfl))
      (ds_cons (ds_expr (de_meth rfl PySem.F.plainAttrs_list PySem.F.slot_list_append PySem.F.type_list_append mt_appD (de_var (i := 12) rfl (.inr (.inl rfl))) (da_cons (de_tl (x := "_law_told") (l := [⟨"BadValue", C0, "bad value", "reason"⟩, ⟨"Refused", C1, "refused", "reason"⟩, ⟨"TooMany", C2, "too many", "what"⟩]) rfl rfl rfl Cl hmt Ft hbt sc__law_told rfl rfl (.inl rfl) (by decide) (by decide) (fun Y hY => (.cons (by show Y.env.scope.names.lookup _ = _; rw [hY]; rfl) rfl (.cons (by show Y.env.scope.names.lookup _ = _; rw [hY]; rfl) rfl (.cons (by show Y.env.scope.names.lookup _ = _; rw [hY]; rfl) rfl .nil)))) TB rfl (by rw [hT]; exact List.mem_singleton.mpr rfl) (by rw [hT]; intro p hp _; rw [List.mem_singleton.mp hp]; rfl) (k := 5) (hr.mono (by decide)) rfl (LamX.lamS_by (sc := defScope st_law) (by decide +kernel)) rfl (fun _ _ _ _ _ => rfl) (hdb := by decide) (hd := by decide) (hcd := by decide) (fun A' outer' s' H' E' f' c' hr => (de_call rfl rfl (C_squares_sum) (hr.mono (by decide)) (fun z => nomatch z) rfl (takes_of rfl rfl rfl rfl) (da_cons (de_var (i := 16) rfl (.inr (.inr rfl))) (da_cons de_non (da_cons de_non da_nil)))))) da_nil)))
      (ds_one (ds_if (dt_cmp (op_neDD rfl (u64 hr)) (de_var (i := 12) rfl (.inr (.inl rfl))) (de_op op_mulD (de_lst (da_cons (de_lst (da_cons de_str (da_cons de_str da_nil))) da_nil)) de_int)) (ds_one (ds_ret de_bl)) ds_nil)))))
      (ds_cons (ds_for hp rfl (di_seq rfl (de_tup (da_cons de_non (da_cons de_int (da_cons (de_tup (da_cons de_int (da_cons de_int da_nil))) (da_cons (de_tup (da_cons de_int (da_cons de_int da_nil))) da_nil)))))) (dg_name sc_law.nd rfl (.inr rfl) (.inl rfl)) (ds_cons (ds_set sc_law.nd rfl (.inr rfl) (de_lst (da_cons (de_tl (x := "_law_told") (l := [⟨"BadValue", C0, "bad value", "reason"⟩, ⟨"Refused", C1, "refused", "reason"⟩, ⟨"TooMany", C2, "too many", "what"⟩]) rfl rfl rfl Cl hmt Ft hbt sc__law_told rfl rfl (.inl rfl) (by decide) (by decide) (fun Y hY => (.cons (by show Y.env.scope.names.lookup _ = _; rw [hY]; rfl) rfl (.cons (by show Y.env.scope.names.lookup _ = _; rw [hY]; rfl) rfl (.cons (by show Y.env.scope.names.lookup _ = _; rw [hY]; rfl) rfl .nil)))) TB rfl (by rw [hT]; exact List.mem_singleton.mpr rfl) (by rw [hT]; intro p hp _; rw [List.mem_singleton.mp hp]; rfl) (k := 5) (hr.mono (by decide)) rfl (LamX.lamS_by (sc := defScope st_law) (by decide +kernel)) rfl (fun _ _ _ _ _ => rfl) (hdb := by decide) (hd := by decide) (hcd := by decide) (fun A' outer' s' H' E' f' c' hr => (de_call rfl rfl (C_squares_sum) (hr.mono (by decide)) (fun z => nomatch z) rfl (takes_of rfl rfl rfl rfl) (da_cons (de_var (i := 4) rfl (.inr (.inr rfl))) (da_cons (de_var (i := 16) rfl (.inr (.inr rfl))) (da_cons (de_tup (da_cons de_int (da_cons de_int da_nil))) da_nil)))))) da_nil)) (.inl rfl))
      (ds_cons (ds_expr (de_meth rfl PySem.F.plainAttrs_list PySem.F.slot_list_append PySem.F.type_list_append mt_appD (de_var (i := 12) rfl (.inr (.inl rfl))) (da_cons (de_tl (x := "_law_told") (l := [⟨"BadValue", C0, "bad value", "reason"⟩, ⟨"Refused", C1, "refused", "reason"⟩, ⟨"TooMany", C2, "too many", "what"⟩]) rfl rfl rfl Cl hmt Ft hbt sc__law_told rfl rfl (.inl rfl) (by decide) (by decide) (fun Y hY => (.cons (by show Y.env.scope.names.lookup _ = _; rw [hY]; rfl) rfl (.cons (by show Y.env.scope.names.lookup _ = _; rw [hY]; rfl) rfl (.cons (by show Y.env.scope.names.lookup _ = _; rw [hY]; rfl) rfl .nil)))) TB rfl (by rw [hT]; exact List.mem_singleton.mpr rfl) (by rw [hT]; intro p hp _; rw [List.mem_singleton.mp hp]; rfl) (k := 5) (hr.mono (by decide)) rfl (LamX.lamS_by (sc := defScope st_law) (by decide +kernel)) rfl (fun _ _ _ _ _ => rfl) (hdb := by decide) (hd := by decide) (hcd := by decide) (fun A' outer' s' H' E' f' c' hr => (de_call rfl rfl (C_squares_sum) (hr.mono (by decide)) (fun z => nomatch z) rfl (takes_of rfl rfl rfl rfl) (da_cons (de_var (i := 4) rfl (.inr (.inr rfl))) (da_cons (de_tup (da_cons de_int (da_cons de_int da_nil))) (da_cons (de_var (i := 16) rfl (.inr (.inr rfl))) da_nil)))))) da_nil)))
      (ds_one (ds_if (dt_cmp (op_neDD rfl (u64 hr)) (de_var (i := 12) rfl (.inr (.inl rfl))) (de_op op_mulD (de_lst (da_cons (de_lst (da_cons de_str (da_cons de_str da_nil))) da_nil)) de_int)) (ds_one (ds_ret de_bl)) ds_nil)))))
      (ds_one (ds_ret (de_and (de_cmp (op_eqDD rfl (u64 hr)) (de_tl (x := "_law_told") (l := [⟨"BadValue", C0, "bad value", "reason"⟩, ⟨"Refused", C1, "refused", "reason"⟩, ⟨"TooMany", C2, "too many", "what"⟩]) rfl rfl rfl Cl hmt Ft hbt sc__law_told rfl rfl (.inl rfl) (by decide) (by decide) (fun Y hY => (.cons (by show Y.env.scope.names.lookup _ = _; rw [hY]; rfl) rfl (.cons (by show Y.env.scope.names.lookup _ = _; rw [hY]; rfl) rfl (.cons (by show Y.env.scope.names.lookup _ = _; rw [hY]; rfl) rfl .nil)))) TB rfl (by rw [hT]; exact List.mem_singleton.mpr rfl) (by rw [hT]; intro p hp _; rw [List.mem_singleton.mp hp]; rfl) (k := 5) (hr.mono (by decide)) rfl (LamX.lamS_by (sc := defScope st_law) (by decide +kernel)) rfl (fun _ _ _ _ _ => rfl) (hdb := by decide) (hd := by decide) (hcd := by decide) (fun A' outer' s' H' E' f' c' hr => (de_call rfl rfl (C_best_straight) (hr.mono (by decide)) (fun z => nomatch z) rfl (takes_of rfl rfl rfl rfl) (da_cons (de_tup da_nil) da_nil)))) (de_lst (da_cons de_str (da_cons de_str da_nil)))) (de_one (de_call rfl rfl (C__law_same) (hr.mono (by decide)) (fun _ => hgd rfl) rfl tk (da_cons (de_call rfl rfl (C_squares_sum) (hr.mono (by decide)) (fun z => nomatch z) rfl tk (da_cons (de_tup da_nil) (da_cons (de_tup (da_cons de_int (da_cons de_int da_nil))) (da_cons (de_tup (da_cons de_int (da_cons de_int da_nil))) da_nil)))) (da_cons (de_tup (da_cons de_int (da_cons de_int da_nil))) da_nil)))))))))))
theorem w_all {w : World} {K : PySem.W.Frag} {mg : Str → Option Value} {h : Heap} {fa f C_BadValue I_BadValue C_TooMany I_TooMany C_Refused I_Refused c Pt : Addr} {oc kV doc pm ct : Value} {od an : Option Addr} {osl : Array (Option Value)} (X : K.In h) (G : h.Ns mainGlobals mg) (hfa : mg "law" = some (.ref fa))
    (a : PySem.W.nsIn K mainGlobals "law" = some (some (.ref f))) (lk : K.lookup f = some ⟨oc, od, .func (PySem.W.fnOf "law" "law" (defArgs st_law) (defBody st_law) (defScope st_law) .none kV doc pm an (.ref c) ct), osl⟩) (hcd : PySem.W.codeIn K (.ref c) "law" = true) (kp : PySem.W.keepIn K (.ref f) = true)
    (x_BadValue : DwX.OneX PP K mg "BadValue" "reason" C_BadValue I_BadValue)
    (x_TooMany : DwX.OneX PP K mg "TooMany" "what" C_TooMany I_TooMany)
    (x_Refused : DwX.OneX PP K mg "Refused" "reason" C_Refused I_Refused)
    (b_all : PySem.W.nsIn K mainGlobals "all" = some none)
    (b_bool : PySem.W.nsIn K mainGlobals "bool" = some none)
    (b_int : PySem.W.nsIn K mainGlobals "int" = some none)
    (b_isinstance : PySem.W.nsIn K mainGlobals "isinstance" = some none)
    (b_len : PySem.W.nsIn K mainGlobals "len" = some none)
    (b_range : PySem.W.nsIn K mainGlobals "range" = some none)
    (b_repr : PySem.W.nsIn K mainGlobals "repr" = some none)
    (b_tuple : PySem.W.nsIn K mainGlobals "tuple" = some none)
    (b_gcd : PySem.W.nsIn K mainGlobals "gcd" = some (some (.builtin "math.gcd")))
    (t_ZERO : TupAt K mg "ZERO" [.int 0, .int 1])
    (f__law_digits : FunAt K mg "_law_digits" st__law_digits ["script", "first", "last"])
    (f__law_draw : FunAt K mg "_law_draw" st__law_draw ["box", "many"])
    (f_is_integer : FunAt K mg "is_integer" st_is_integer ["thing"])
    (f_is_fraction : FunAt K mg "is_fraction" st_is_fraction ["thing"])
    (f_is_point : FunAt K mg "is_point" st_is_point ["thing"])
    (f_check_points : FunAt K mg "check_points" st_check_points ["points"])
    (f_lowest : FunAt K mg "lowest" st_lowest ["top", "bottom"])
    (f_plus : FunAt K mg "plus" st_plus ["one", "other"])
    (f_minus : FunAt K mg "minus" st_minus ["one", "other"])
    (f_over : FunAt K mg "over" st_over ["one", "other"])
    (f_times : FunAt K mg "times" st_times ["one", "other"])
    (f_best_straight : FunAt K mg "best_straight" st_best_straight ["points"])
    (f__law_same : FunAt K mg "_law_same" st__law_same ["a", "b"])
    (f__law_gcd : FunAt K mg "_law_gcd" st__law_gcd ["a", "b"])
    (f__law_frac : FunAt K mg "_law_frac" st__law_frac ["top", "bottom"])
    (f__law_pick : FunAt K mg "_law_pick" st__law_pick ["box", "things"])
    (f__law_small : FunAt K mg "_law_small" st__law_small ["box"])
    (f__law_plus : FunAt K mg "_law_plus" st__law_plus ["a", "b"])
    (f__law_sum : FunAt K mg "_law_sum" st__law_sum ["row"])
    (f_squares_sum : FunAt K mg "squares_sum" st_squares_sum ["points", "slope", "start"])
    (f__law_less : FunAt K mg "_law_less" st__law_less ["a", "b"])
    (f__law_minus : FunAt K mg "_law_minus" st__law_minus ["a", "b"])
    (f__law_told : FunAt K mg "_law_told" st__law_told ["call"])
    (f__law_times : FunAt K mg "_law_times" st__law_times ["a", "b"])
    (f__law_row : FunAt K mg "_law_row" st__law_row ["thing", "many"])
    (e_0_0 : PySem.W.exmOne K (.ref C_BadValue) (.ref C_BadValue) = some true)
    (e_0_1 : PySem.W.exmOne K (.ref C_BadValue) (.ref C_Refused) = some false)
    (e_0_2 : PySem.W.exmOne K (.ref C_BadValue) (.ref C_TooMany) = some false)
    (e_1_0 : PySem.W.exmOne K (.ref C_Refused) (.ref C_BadValue) = some false)
    (e_1_1 : PySem.W.exmOne K (.ref C_Refused) (.ref C_Refused) = some true)
    (e_1_2 : PySem.W.exmOne K (.ref C_Refused) (.ref C_TooMany) = some false)
    (e_2_0 : PySem.W.exmOne K (.ref C_TooMany) (.ref C_BadValue) = some false)
    (e_2_1 : PySem.W.exmOne K (.ref C_TooMany) (.ref C_Refused) = some false)
    (e_2_2 : PySem.W.exmOne K (.ref C_TooMany) (.ref C_TooMany) = some true)
    (xf_0 : xfB K C_BadValue = true)
    (xf_1 : xfB K C_Refused = true)
    (xf_2 : xfB K C_TooMany = true)
    (hhd : PySem.W.codeHdIn K c Pt = true) (hPt : K.lookup Pt = none) (hTT : h.get? Pt = some { cls := .none, data := .fields #[] }) :
    ∃ (K : PySem.W.Frag) (T : List (Addr × Str)) (tbs : List (Addr × Addr)) (fd : FuncData), K.In h ∧ (∀ z ∈ tbs, h.get? z.2 = some { cls := .none, data := .fields #[] } ∧ K.lookup z.2 = none ∧ PySem.W.CodeHd h z.1 z.2) ∧ (∀ z ∈ T, z.1 ∈ tbs.map (·.2)) ∧
      (∀ (s : Shared) (u : Value), BindsTo s fd ⟨[u], []⟩ [(("script" : Str), u)]) ∧ ∀ base : Heap, K.In base → base.Ns mainGlobals mg → (∀ z ∈ tbs, LamX.TabB base mg z.1 z.2) → FnG PP w ⟨K, mg, T⟩ base true 8 fa fd ["script"] f_law := by
  have e := hfa.symm.trans (PySem.W.mg_of X G a)
  cases e
  refine ⟨K, [(Pt, qL)], [(c, Pt)], _, X, ?_, ?_, fun s u => .of_eq (show bindArgs (PySem.W.fnOf "law" "law" (defArgs st_law) (defBody st_law) (defScope st_law) .none kV doc pm an (.ref c) ct) ⟨[u], []⟩ = _ from rfl), fun base kb gb tb => ?_⟩
  · intro z hz; rw [List.mem_singleton.mp hz]; exact ⟨hTT, hPt, PySem.W.codeHd_of_K X hhd⟩
  · intro z hz; rw [List.mem_singleton.mp hz]; exact List.mem_singleton.mpr rfl
  have T : Txt ⟨K, mg, [(Pt, qL)]⟩ := { b_all := none_at X G b_all, b_bool := none_at X G b_bool, b_int := none_at X G b_int, b_isinstance := none_at X G b_isinstance, b_len := none_at X G b_len, b_range := none_at X G b_range, b_repr := none_at X G b_repr, b_tuple := none_at X G b_tuple, gcd := PySem.W.mg_of X G b_gcd, t_ZERO := t_ZERO, x_BadValue := ⟨C_BadValue, I_BadValue, x_BadValue⟩, x_TooMany := ⟨C_TooMany, I_TooMany, x_TooMany⟩, x_Refused := ⟨C_Refused, I_Refused, x_Refused⟩ }
  obtain ⟨a__law_digits, d__law_digits, m__law_digits, F__law_digits, B__law_digits⟩ := f__law_digits
  have C__law_digits := Clb.of (P := ⟨K, mg, [(Pt, qL)]⟩) (p := PP) (w := w) (base := base) m__law_digits F__law_digits.kp B__law_digits (w__law_digits T F__law_digits )
  obtain ⟨a__law_draw, d__law_draw, m__law_draw, F__law_draw, B__law_draw⟩ := f__law_draw
  have C__law_draw := Clb.of (P := ⟨K, mg, [(Pt, qL)]⟩) (p := PP) (w := w) (base := base) m__law_draw F__law_draw.kp B__law_draw (w__law_draw T F__law_draw )
  obtain ⟨a_is_integer, d_is_integer, m_is_integer, F_is_integer, B_is_integer⟩ := f_is_integer
  have C_is_integer := Clb.of (P := ⟨K, mg, [(Pt, qL)]⟩) (p := PP) (w := w) (base := base) m_is_integer F_is_integer.kp B_is_integer (w_is_integer T F_is_integer )
  obtain ⟨a_is_fraction, d_is_fraction, m_is_fraction, F_is_fraction, B_is_fraction⟩ := f_is_fraction
  have C_is_fraction := Clb.of (P := ⟨K, mg, [(Pt, qL)]⟩) (p := PP) (w := w) (base := base) m_is_fraction F_is_fraction.kp B_is_fraction (w_is_fraction T F_is_fraction C_is_integer)
  obtain ⟨a_is_point, d_is_point, m_is_point, F_is_point, B_is_point⟩ := f_is_point
  have C_is_point := Clb.of (P := ⟨K, mg, [(Pt, qL)]⟩) (p := PP) (w := w) (base := base) m_is_point F_is_point.kp B_is_point (w_is_point T F_is_point C_is_fraction)
  obtain ⟨a_check_points, d_check_points, m_check_points, F_check_points, B_check_points⟩ := f_check_points
  have C_check_points := Clb.of (P := ⟨K, mg, [(Pt, qL)]⟩) (p := PP) (w := w) (base := base) m_check_points F_check_points.kp B_check_points (w_check_points T F_check_points C_is_point)
  obtain ⟨a_lowest, d_lowest, m_lowest, F_lowest, B_lowest⟩ := f_lowest
  have C_lowest := Clb.of (P := ⟨K, mg, [(Pt, qL)]⟩) (p := PP) (w := w) (base := base) m_lowest F_lowest.kp B_lowest (w_lowest T F_lowest )
  obtain ⟨a_plus, d_plus, m_plus, F_plus, B_plus⟩ := f_plus
  have C_plus := Clb.of (P := ⟨K, mg, [(Pt, qL)]⟩) (p := PP) (w := w) (base := base) m_plus F_plus.kp B_plus (w_plus T F_plus C_lowest)
  obtain ⟨a_minus, d_minus, m_minus, F_minus, B_minus⟩ := f_minus
  have C_minus := Clb.of (P := ⟨K, mg, [(Pt, qL)]⟩) (p := PP) (w := w) (base := base) m_minus F_minus.kp B_minus (w_minus T F_minus C_plus)
  obtain ⟨a_over, d_over, m_over, F_over, B_over⟩ := f_over
  have C_over := Clb.of (P := ⟨K, mg, [(Pt, qL)]⟩) (p := PP) (w := w) (base := base) m_over F_over.kp B_over (w_over T F_over C_lowest)
  obtain ⟨a_times, d_times, m_times, F_times, B_times⟩ := f_times
  have C_times := Clb.of (P := ⟨K, mg, [(Pt, qL)]⟩) (p := PP) (w := w) (base := base) m_times F_times.kp B_times (w_times T F_times C_lowest)
  obtain ⟨a_best_straight, d_best_straight, m_best_straight, F_best_straight, B_best_straight⟩ := f_best_straight
  have C_best_straight := Clb.of (P := ⟨K, mg, [(Pt, qL)]⟩) (p := PP) (w := w) (base := base) m_best_straight F_best_straight.kp B_best_straight (w_best_straight T F_best_straight C_check_points C_plus C_minus C_over C_times)
  obtain ⟨a__law_same, d__law_same, m__law_same, F__law_same, B__law_same⟩ := f__law_same
  have C__law_same := Clb.of (P := ⟨K, mg, [(Pt, qL)]⟩) (p := PP) (w := w) (base := base) m__law_same F__law_same.kp B__law_same (w__law_same T F__law_same )
  obtain ⟨a__law_gcd, d__law_gcd, m__law_gcd, F__law_gcd, B__law_gcd⟩ := f__law_gcd
  have C__law_gcd := Clb.of (P := ⟨K, mg, [(Pt, qL)]⟩) (p := PP) (w := w) (base := base) m__law_gcd F__law_gcd.kp B__law_gcd (w__law_gcd T F__law_gcd )
  obtain ⟨a__law_frac, d__law_frac, m__law_frac, F__law_frac, B__law_frac⟩ := f__law_frac
  have C__law_frac := Clb.of (P := ⟨K, mg, [(Pt, qL)]⟩) (p := PP) (w := w) (base := base) m__law_frac F__law_frac.kp B__law_frac (w__law_frac T F__law_frac C__law_gcd)
  obtain ⟨a__law_pick, d__law_pick, m__law_pick, F__law_pick, B__law_pick⟩ := f__law_pick
  have C__law_pick := Clb.of (P := ⟨K, mg, [(Pt, qL)]⟩) (p := PP) (w := w) (base := base) m__law_pick F__law_pick.kp B__law_pick (w__law_pick T F__law_pick C__law_draw)
  obtain ⟨a__law_small, d__law_small, m__law_small, F__law_small, B__law_small⟩ := f__law_small
  have C__law_small := Clb.of (P := ⟨K, mg, [(Pt, qL)]⟩) (p := PP) (w := w) (base := base) m__law_small F__law_small.kp B__law_small (w__law_small T F__law_small C__law_draw C__law_frac C__law_pick)
  obtain ⟨a__law_plus, d__law_plus, m__law_plus, F__law_plus, B__law_plus⟩ := f__law_plus
  have C__law_plus := Clb.of (P := ⟨K, mg, [(Pt, qL)]⟩) (p := PP) (w := w) (base := base) m__law_plus F__law_plus.kp B__law_plus (w__law_plus T F__law_plus C__law_frac)
  obtain ⟨a__law_sum, d__law_sum, m__law_sum, F__law_sum, B__law_sum⟩ := f__law_sum
  have C__law_sum := Clb.of (P := ⟨K, mg, [(Pt, qL)]⟩) (p := PP) (w := w) (base := base) m__law_sum F__law_sum.kp B__law_sum (w__law_sum T F__law_sum C__law_plus)
  obtain ⟨a_squares_sum, d_squares_sum, m_squares_sum, F_squares_sum, B_squares_sum⟩ := f_squares_sum
  have C_squares_sum := Clb.of (P := ⟨K, mg, [(Pt, qL)]⟩) (p := PP) (w := w) (base := base) m_squares_sum F_squares_sum.kp B_squares_sum (w_squares_sum T F_squares_sum C_is_fraction C_check_points C_plus C_minus C_times)
  obtain ⟨a__law_less, d__law_less, m__law_less, F__law_less, B__law_less⟩ := f__law_less
  have C__law_less := Clb.of (P := ⟨K, mg, [(Pt, qL)]⟩) (p := PP) (w := w) (base := base) m__law_less F__law_less.kp B__law_less (w__law_less T F__law_less )
  obtain ⟨a__law_minus, d__law_minus, m__law_minus, F__law_minus, B__law_minus⟩ := f__law_minus
  have C__law_minus := Clb.of (P := ⟨K, mg, [(Pt, qL)]⟩) (p := PP) (w := w) (base := base) m__law_minus F__law_minus.kp B__law_minus (w__law_minus T F__law_minus C__law_frac)
  obtain ⟨a__law_told, d__law_told, m__law_told, F__law_told, B__law_told⟩ := f__law_told
  obtain ⟨a__law_times, d__law_times, m__law_times, F__law_times, B__law_times⟩ := f__law_times
  have C__law_times := Clb.of (P := ⟨K, mg, [(Pt, qL)]⟩) (p := PP) (w := w) (base := base) m__law_times F__law_times.kp B__law_times (w__law_times T F__law_times C__law_frac)
  obtain ⟨a__law_row, d__law_row, m__law_row, F__law_row, B__law_row⟩ := f__law_row
  have C__law_row := Clb.of (P := ⟨K, mg, [(Pt, qL)]⟩) (p := PP) (w := w) (base := base) m__law_row F__law_row.kp B__law_row (w__law_row T F__law_row C__law_gcd)
  refine w_law (C0 := C_BadValue) (C1 := C_Refused) (C2 := C_TooMany) (P := ⟨K, mg, [(Pt, qL)]⟩) (w := w) (base := base) T lk hcd ?_ m__law_told F__law_told B__law_told (tb (c, Pt) (List.mem_singleton.mpr rfl)) rfl C__law_digits C__law_draw C_best_straight C__law_same C__law_small C__law_plus C__law_sum C_squares_sum C__law_less C__law_minus C__law_times C__law_row
  refine ⟨?_, ?_, ?_, ?_⟩
  · intro k hk; simp only [List.mem_cons, List.not_mem_nil, or_false] at hk; rcases hk with rfl | rfl | rfl
    · exact x_BadValue.gC
    · exact x_Refused.gC
    · exact x_TooMany.gC
  · intro k hk; simp only [List.mem_cons, List.not_mem_nil, or_false] at hk; rcases hk with rfl | rfl | rfl <;> (intro j hj; simp only [List.mem_cons, List.not_mem_nil, or_false] at hj; rcases hj with rfl | rfl | rfl)
    · exact e_0_0
    · exact e_0_1
    · exact e_0_2
    · exact e_1_0
    · exact e_1_1
    · exact e_1_2
    · exact e_2_0
    · exact e_2_1
    · exact e_2_2
  · intro k hk; simp only [List.mem_cons, List.not_mem_nil, or_false] at hk; rcases hk with rfl | rfl | rfl
    · exact xfB_ok xf_0
    · exact xfB_ok xf_1
    · exact xfB_ok xf_2
  · intro k hk; simp only [List.mem_cons, List.not_mem_nil, or_false] at hk; rcases hk with rfl | rfl | rfl
    · exact x_BadValue.noN
    · exact x_Refused.noN
    · exact x_TooMany.noN
end K34
end Dw

namespace Dw
open PySem PySem.Spec PyProof.Rows L2
/-! ### 19. plain facts about the layer -/
def fr (q : Rat) : D := .tup [.int q.num, .int (q.den : Int)]
theorem gcd_pos {t b : Int} (hb : b ≠ 0) : 0 < Nat.gcd t.natAbs b.natAbs := Nat.gcd_pos_of_pos_right _ (by omega)
theorem keep_app (m g : Mem) : KeepOk m (m ++ g) := ⟨by simp, fun i c hi h => .inl (by rw [List.getElem?_append_left hi] at h; exact h)⟩
theorem gcR_app {β : Type} {fit : Nat → β → Bool} {m g : Mem} {b : β} (h : fit m.length b = true) : gcR fit m (.ok b (m ++ g)) = .ok b m := by
  unfold gcR
  dsimp only
  rw [if_pos ⟨h, keep_app m g⟩, List.take_left]
theorem gcR_same {β : Type} {fit : Nat → β → Bool} {m m' : Mem} {b : β} (h : m'.length = m.length) : gcR fit m (.ok b m') = .ok b m' := by
  unfold gcR
  dsimp only
  rw [← h, List.take_length]
  split <;> rfl
theorem gcR_self {β : Type} {fit : Nat → β → Bool} {m : Mem} {b : β} : gcR fit m (.ok b m) = .ok b m := gcR_same rfl
theorem gcD_self {m : Mem} {d : D} : gcD m (.ok d m) = .ok d m := gcR_self
theorem gcT_self {m : Mem} {b : Bool} : gcT m (.ok b m) = .ok b m := gcR_self
theorem gcF_self {m : Mem} {b : Fl} : gcF m (.ok b m) = .ok b m := gcR_self
theorem gcT_app {m g : Mem} {b : Bool} : gcT m (.ok b (m ++ g)) = .ok b m := gcR_app rfl
theorem fits_fr (n : Nat) (q : Rat) : (fr q).fits n = true := rfl
theorem gcD_app {m g : Mem} {d : D} (h : d.fits m.length = true) : gcD m (.ok d (m ++ g)) = .ok d m := gcR_app h
theorem one_le_line : 1 ≤ sizeLine := by rw [sizeLine_eq]; omega
theorem le_line {n : Nat} (h : n ≤ 1000000) : n ≤ sizeLine := by rw [sizeLine_eq]; omega
theorem callD_ok {n : Nat} {cf : List D → Mem → R D} {ds : List D} {m m' : Mem} {d : D} (hn : ds.length = n) (h : cf ds m = .ok d m') (hl : m'.length = m.length) : callD n cf ds m = .ok d m' := by
  unfold callD
  rw [if_pos hn, h]
  exact gcR_same hl
theorem callD_app {n : Nat} {cf : List D → Mem → R D} {ds : List D} {m g : Mem} {d : D} (hn : ds.length = n) (h : cf ds m = .ok d (m ++ g)) (hl : d.fits m.length = true) : callD n cf ds m = .ok d m := by
  unfold callD
  rw [if_pos hn, h]
  exact gcR_app hl
theorem callD_pure {n : Nat} {cf : List D → Mem → R D} {ds : List D} {m : Mem} {d : D} (hn : ds.length = n) (h : cf ds m = .ok d m) : callD n cf ds m = .ok d m := callD_ok hn h rfl
theorem callD_exc {n : Nat} {cf : List D → Mem → R D} {ds : List D} {m g : Mem} {c f z : Str} (hn : ds.length = n) (h : cf ds m = .exc c [(f, .str z)] (m ++ g)) : callD n cf ds m = .exc c [(f, .str z)] m := by
  unfold callD
  rw [if_pos hn, h]
  unfold gcD gcR
  dsimp only
  rw [if_pos ⟨rfl, keep_app m g⟩, List.take_left]
/-- sizes -/
def sz (n : Nat) (q : Rat) : Prop := q.num.natAbs < 2 ^ n ∧ q.den < 2 ^ n
theorem log_lt {a n : Nat} (h : a < 2 ^ n) (hn : 0 < n) : a.log2 < n := by
  by_cases h0 : a = 0
  · subst h0; simpa using hn
  · exact (Nat.log2_lt h0).mpr h
theorem mulOk_of {i j : Int} {n k : Nat} (hi : i.natAbs < 2 ^ n) (hj : j.natAbs < 2 ^ k) (h : n + k < 1000000) : MulOk i j := by
  refine .inl ?_
  have h1 : i.natAbs.log2 ≤ n := by
    by_cases h0 : i.natAbs = 0
    · rw [h0]; simp
    · exact Nat.le_of_lt ((Nat.log2_lt h0).mpr hi)
  have h2 : j.natAbs.log2 ≤ k := by
    by_cases h0 : j.natAbs = 0
    · rw [h0]; simp
    · exact Nat.le_of_lt ((Nat.log2_lt h0).mpr hj)
  omega
theorem mul_lt_pow {a b n k : Nat} (ha : a < 2 ^ n) (hb : b < 2 ^ k) : a * b < 2 ^ (n + k) := by
  rw [Nat.pow_add]
  exact Nat.mul_lt_mul'' ha hb
theorem add_lt_pow {a b n k j : Nat} (ha : a < 2 ^ n) (hb : b < 2 ^ k) (h1 : n < j) (h2 : k < j) : a + b < 2 ^ j := by
  have e1 : 2 ^ n ≤ 2 ^ (j - 1) := Nat.pow_le_pow_right (by omega) (by omega)
  have e2 : 2 ^ k ≤ 2 ^ (j - 1) := Nat.pow_le_pow_right (by omega) (by omega)
  have e3 : 2 ^ j = 2 ^ (j - 1) + 2 ^ (j - 1) := by rw [← Nat.two_mul, ← Nat.pow_succ']; congr 1; omega
  omega
/-- a fraction in lowest terms, by its parts -/
theorem fr_div {t b : Int} (hb : 0 < b) : fr ((t : Rat) / (b : Rat)) = .tup [.int (t / (Nat.gcd t.natAbs b.natAbs : Nat)), .int (b / (Nat.gcd t.natAbs b.natAbs : Nat))] := by
  have hg : b.gcd t = Nat.gcd t.natAbs b.natAbs := by unfold Int.gcd; exact Nat.gcd_comm _ _
  have e1 : ((t : Rat) / (b : Rat)).num = t / (Nat.gcd t.natAbs b.natAbs : Nat) := by
    rw [← Rat.divInt_eq_div, Rat.num_divInt, Int.sign_eq_one_of_pos hb, Int.one_mul, hg]
  have e2 : (((t : Rat) / (b : Rat)).den : Int) = b / (Nat.gcd t.natAbs b.natAbs : Nat) := by
    rw [← Rat.divInt_eq_div, Rat.den_divInt, if_neg (by omega), hg, Int.natCast_ediv, Int.natAbs_of_nonneg (by omega)]
  unfold fr
  rw [e1, e2]
theorem sz_div {t b : Int} {n k : Nat} (hb : 0 < b) (ht : t.natAbs < 2 ^ n) (hbs : b.natAbs < 2 ^ k) {j : Nat} (h1 : n ≤ j) (h2 : k ≤ j) : sz j ((t : Rat) / (b : Rat)) := by
  have h := fr_div (t := t) hb
  unfold fr at h
  simp only [D.tup.injEq, List.cons.injEq, D.int.injEq, and_true] at h
  obtain ⟨e1, e2⟩ := h
  have p1 : 2 ^ n ≤ 2 ^ j := Nat.pow_le_pow_right (by omega) h1
  have p2 : 2 ^ k ≤ 2 ^ j := Nat.pow_le_pow_right (by omega) h2
  constructor
  · rw [e1, Int.natAbs_ediv_of_dvd (Int.ofNat_dvd_left.mpr (Nat.gcd_dvd_left _ _))]
    exact Nat.lt_of_le_of_lt (Nat.div_le_self _ _) (by omega)
  · have e3 : ((t : Rat) / (b : Rat)).den = (b / (Nat.gcd t.natAbs b.natAbs : Nat)).natAbs := by omega
    rw [e3, Int.natAbs_ediv_of_dvd (Int.ofNat_dvd_left.mpr (Nat.gcd_dvd_right _ _))]
    exact Nat.lt_of_le_of_lt (Nat.div_le_self _ _) (by omega)
theorem sz.mono {n k : Nat} {q : Rat} (h : sz n q) (l : n ≤ k) : sz k q := ⟨Nat.lt_of_lt_of_le h.1 (Nat.pow_le_pow_right (by omega) l), Nat.lt_of_lt_of_le h.2 (Nat.pow_le_pow_right (by omega) l)⟩
end Dw

namespace Dw
namespace K34
open PySem PySem.Spec PyProof.Rows L2
theorem divD_pos {i j : Int} {m : Mem} (h : 0 < j) (hs : j.natAbs < 2 ^ 8000) : divD (.int i) (.int j) m = some (.int (i / j), m) := by
  show (if 0 < j ∧ j.natAbs.log2 < 9000 then some (D.int (i / j), m) else none) = _
  rw [if_pos ⟨h, Nat.lt_of_lt_of_le (log_lt hs (by omega)) (by omega)⟩]
theorem s_lowest {t b : Int} {m : Mem} (hb : b ≠ 0) (hs : b.natAbs < 2 ^ 8000) : f_lowest [.int t, .int b] m = .ok (fr ((t : Rat) / (b : Rat))) m := by
  have hg := gcd_pos (t := t) hb
  have key : ∀ t b : Int, 0 < b → b.natAbs < 2 ^ 8000 → ((Nat.gcd t.natAbs b.natAbs : Nat) : Int).natAbs < 2 ^ 8000 := fun t b h1 h2 => by
    have := Nat.le_of_dvd (by omega) (Nat.gcd_dvd_right t.natAbs b.natAbs)
    omega
  by_cases h : b < 0
  · have q : fr ((t : Rat) / (b : Rat)) = fr (((-t : Int) : Rat) / ((-b : Int) : Rat)) := by
      congr 1
      rw [Rat.intCast_neg, Rat.intCast_neg]
      have : (b : Rat) ≠ 0 := by exact_mod_cast hb
      grind
    have k := key (-t) (-b) (by omega) (by omega)
    have d1 := fun i => divD_pos (i := i) (m := m) (j := ((Nat.gcd (-t).natAbs (-b).natAbs : Nat) : Int)) (by have := gcd_pos (t := -t) (b := -b) (by omega); omega) k
    rw [q, fr_div (by omega)]
    simp only [Int.natAbs_neg] at d1
    simp [f_lowest, fnB, g_lowest, retF, sSeq, contK, sIf, sAsg, sRet, sRetN, sExpr, sPar, sNil, gN, gSb, gT, gsNil, gsCons, eVar, eLit, eOp, eUn, eArgs, aNil, aCons, eIf, eAnd, eOr, eNot, tTru, tOp', tOfE, eChain, chainK, tNot', tAnd', tOr', ordD, addD, subD, negD, gcdD, mkTup, truD, blV, gcT_self, gcD_self, gcF_self, sizeLine_eq, h, d1]
  · have k := key t b (by omega) (by omega)
    have d1 := fun i => divD_pos (i := i) (m := m) (j := ((Nat.gcd t.natAbs b.natAbs : Nat) : Int)) (by omega) k
    rw [fr_div (by omega)]
    simp [f_lowest, fnB, g_lowest, retF, sSeq, contK, sIf, sAsg, sRet, sRetN, sExpr, sPar, sNil, gN, gSb, gT, gsNil, gsCons, eVar, eLit, eOp, eUn, eArgs, aNil, aCons, eIf, eAnd, eOr, eNot, tTru, tOp', tOfE, eChain, chainK, tNot', tAnd', tOr', ordD, addD, subD, negD, gcdD, mkTup, truD, blV, gcT_self, gcD_self, gcF_self, sizeLine_eq, h, d1]

theorem mulD_ok {i j : Int} {m : Mem} (h : MulOk i j) : mulD (.int i) (.int j) m = some (.int (i * j), m) := by
  unfold mulD
  simp only [h, if_true]
theorem ixD_fr0 {q : Rat} {m : Mem} : ixD (fr q) (.int 0) m = some (.int q.num, m) := rfl
theorem ixD_fr1 {q : Rat} {m : Mem} : ixD (fr q) (.int 1) m = some (.int q.den, m) := rfl
theorem eqD_int {i j : Int} {m : Mem} : eqD (.int i) (.int j) m = some (.bl (decide (i = j)), m) := by
  show (if SeqAt.shaped (.int i) = true ∧ SeqAt.shaped (.int j) = true then some (PyData.eqv (.int i) (.int j)) else none).map _ = _
  rw [if_pos ⟨rfl, rfl⟩]
  show some (D.bl (i == j), m) = _
  congr 2
theorem den_cast (q : Rat) : (q.den : Int) ≠ 0 := by have := q.den_nz; omega
theorem fr_cast (q : Rat) : ((q.num : Rat)) / ((q.den : Int) : Rat) = q := by
  have := Rat.num_divInt_den q
  rw [Rat.divInt_eq_div] at this
  exact this
theorem den_rat (q : Rat) : ((q.den : Int) : Rat) ≠ 0 := by exact_mod_cast q.den_nz
theorem num_eq (q : Rat) : (q.num : Rat) = q * ((q.den : Int) : Rat) := by
  have h := fr_cast q
  have := den_rat q
  grind
theorem c_lowest {t b : Int} {m : Mem} (hb : b ≠ 0) (hs : b.natAbs < 2 ^ 8000) : callD 2 f_lowest [.int t, .int b] m = .ok (fr ((t : Rat) / (b : Rat))) m := callD_pure rfl (s_lowest hb hs)
theorem s_times {p q : Rat} {m : Mem} {n k : Nat} (hp : sz n p) (hq : sz k q) (h : n + k < 8000) : f_times [fr p, fr q] m = .ok (fr (p * q)) m ∧ sz (n + k) (p * q) := by
  have e : p * q = ((p.num * q.num : Int) : Rat) / (((p.den : Int) * (q.den : Int) : Int) : Rat) := by
    have h1 := num_eq p
    have h2 := num_eq q
    have h3 := den_rat p
    have h4 := den_rat q
    rw [Rat.intCast_mul, Rat.intCast_mul, h1, h2]
    grind
  have b1 := mul_lt_pow hp.1 hq.1
  have b2 := mul_lt_pow hp.2 hq.2
  have dpos : (0 : Int) < (p.den : Int) * (q.den : Int) := Int.mul_pos (by have := p.den_pos; omega) (by have := q.den_pos; omega)
  have n1 : (p.num * q.num).natAbs < 2 ^ (n + k) := by rw [Int.natAbs_mul]; exact b1
  have n2 : ((p.den : Int) * (q.den : Int)).natAbs < 2 ^ (n + k) := by rw [Int.natAbs_mul]; exact b2
  refine ⟨?_, by rw [e]; exact sz_div dpos n1 n2 (Nat.le_refl _) (Nat.le_refl _)⟩
  have m1 := mulD_ok (m := m) (mulOk_of hp.1 hq.1 (by omega))
  have m2 := mulD_ok (m := m) (mulOk_of (i := (p.den : Int)) (j := (q.den : Int)) hp.2 hq.2 (by omega))
  have l := c_lowest (t := p.num * q.num) (b := (p.den : Int) * (q.den : Int)) (m := m) (by omega) (Nat.lt_of_lt_of_le n2 (Nat.pow_le_pow_right (by omega) (by omega)))
  rw [← e] at l
  simp [f_times, fnB, g_times, retF, sSeq, contK, sIf, sAsg, sRet, sRetN, sExpr, sPar, sNil, gN, gSb, gT, gsNil, gsCons, eVar, eLit, eOp, eUn, eArgs, aNil, aCons, eIf, eAnd, eOr, eNot, tTru, tOp', tOfE, eChain, chainK, tNot', tAnd', tOr', ordD, addD, subD, negD, gcdD, mkTup, truD, blV, gcT_self, gcD_self, gcF_self, sizeLine_eq, eCall, ixD_fr0, ixD_fr1, m1, m2, l]

theorem num_pos {q : Rat} (h : 0 < q) : 0 < q.num := by
  have := (Rat.lt_iff 0 q).mp h
  simpa using this
theorem over_eq (p q : Rat) (hq : 0 < q) : p / q = ((p.num * q.den : Int) : Rat) / (((p.den : Int) * q.num : Int) : Rat) := by
  have h1 := num_eq p
  have h2 := num_eq q
  have h3 := den_rat p
  have h4 := den_rat q
  have h5 : q ≠ 0 := by grind
  rw [Rat.intCast_mul, Rat.intCast_mul, h1, h2]
  grind
theorem over_sz {p q : Rat} {n k : Nat} (hp : sz n p) (hq : sz k q) : (p.num * q.den).natAbs < 2 ^ (n + k) ∧ ((p.den : Int) * q.num).natAbs < 2 ^ (n + k) := by
  constructor
  · rw [Int.natAbs_mul]; exact mul_lt_pow hp.1 hq.2
  · rw [Int.natAbs_mul]; exact mul_lt_pow hp.2 hq.1
theorem s_over {p q : Rat} {m : Mem} {n k : Nat} (hp : sz n p) (hq : sz k q) (hq0 : 0 < q) (h : n + k < 8000) : f_over [fr p, fr q] m = .ok (fr (p / q)) m ∧ sz (n + k) (p / q) := by
  have e := over_eq p q hq0
  obtain ⟨n1, n2⟩ := over_sz hp hq
  have dpos : (0 : Int) < (p.den : Int) * q.num := Int.mul_pos (by have := p.den_pos; omega) (num_pos hq0)
  refine ⟨?_, by rw [e]; exact sz_div dpos n1 n2 (Nat.le_refl _) (Nat.le_refl _)⟩
  have m1 := mulD_ok (m := m) (mulOk_of (i := p.num) (j := (q.den : Int)) hp.1 hq.2 (by omega))
  have m2 := mulD_ok (m := m) (mulOk_of (i := (p.den : Int)) (j := q.num) hp.2 hq.1 (by omega))
  have l := c_lowest (t := p.num * q.den) (b := (p.den : Int) * q.num) (m := m) (by omega) (Nat.lt_of_lt_of_le n2 (Nat.pow_le_pow_right (by omega) (by omega)))
  rw [← e] at l
  simp [f_over, fnB, g_over, retF, sSeq, contK, sIf, sAsg, sRet, sRetN, sExpr, sPar, sNil, gN, gSb, gT, gsNil, gsCons, eVar, eLit, eOp, eUn, eArgs, aNil, aCons, eIf, eAnd, eOr, eNot, tTru, tOp', tOfE, eChain, chainK, tNot', tAnd', tOr', ordD, addD, subD, negD, gcdD, mkTup, truD, blV, gcT_self, gcD_self, gcF_self, sizeLine_eq, eCall, ixD_fr0, ixD_fr1, m1, m2, l]
theorem plus_eq (p q : Rat) : p + q = ((p.num * q.den + q.num * p.den : Int) : Rat) / (((p.den : Int) * q.den : Int) : Rat) := by
  have h1 := num_eq p
  have h2 := num_eq q
  have h3 := den_rat p
  have h4 := den_rat q
  rw [Rat.intCast_add, Rat.intCast_mul, Rat.intCast_mul, Rat.intCast_mul, h1, h2]
  grind
theorem plus_sz {p q : Rat} {n k : Nat} (hp : sz n p) (hq : sz k q) : (p.num * q.den + q.num * p.den).natAbs < 2 ^ (n + k + 1) ∧ ((p.den : Int) * q.den).natAbs < 2 ^ (n + k) := by
  constructor
  · have b1 := mul_lt_pow hp.1 hq.2
    have b2 := mul_lt_pow hq.1 hp.2
    have a1 : (p.num * q.den).natAbs < 2 ^ (n + k) := by rw [Int.natAbs_mul]; exact b1
    have a2 : (q.num * p.den).natAbs < 2 ^ (n + k) := by rw [Int.natAbs_mul, Nat.add_comm]; exact b2
    have := Int.natAbs_add_le (p.num * q.den) (q.num * p.den)
    have := add_lt_pow a1 a2 (Nat.lt_succ_self _) (Nat.lt_succ_self _)
    omega
  · rw [Int.natAbs_mul]; exact mul_lt_pow hp.2 hq.2
theorem s_plus {p q : Rat} {m : Mem} {n k : Nat} (hp : sz n p) (hq : sz k q) (h : n + k + 1 < 8000) : f_plus [fr p, fr q] m = .ok (fr (p + q)) m ∧ sz (n + k + 1) (p + q) := by
  have e := plus_eq p q
  obtain ⟨n1, n2⟩ := plus_sz hp hq
  have dpos : (0 : Int) < (p.den : Int) * q.den := Int.mul_pos (by have := p.den_pos; omega) (by have := q.den_pos; omega)
  refine ⟨?_, by rw [e]; exact sz_div dpos n1 n2 (Nat.le_refl _) (by omega)⟩
  by_cases hd : p.den = q.den
  · have e2 : p + q = ((p.num + q.num : Int) : Rat) / ((p.den : Int) : Rat) := by
      have h1 := num_eq p
      have h2 := num_eq q
      have h3 := den_rat p
      rw [← hd] at h2
      rw [Rat.intCast_add, h1, h2]
      grind
    have l := c_lowest (t := p.num + q.num) (b := (p.den : Int)) (m := m) (by have := p.den_pos; omega) (Nat.lt_of_lt_of_le hp.2 (Nat.pow_le_pow_right (by omega) (by omega)))
    rw [← e2] at l
    simp [f_plus, fnB, g_plus, retF, sSeq, contK, sIf, sAsg, sRet, sRetN, sExpr, sPar, sNil, gN, gSb, gT, gsNil, gsCons, eVar, eLit, eOp, eUn, eArgs, aNil, aCons, eIf, eAnd, eOr, eNot, tTru, tOp', tOfE, eChain, chainK, tNot', tAnd', tOr', ordD, addD, subD, negD, gcdD, mkTup, truD, blV, gcT_self, gcD_self, gcF_self, sizeLine_eq, eCall, ixD_fr0, ixD_fr1, eqD_int, hd] 
    rw [← hd, l]
    simp [retF, sSeq, contK, sIf, sAsg, sRet, sRetN, sExpr, sPar, sNil, gN, gSb, gT, gsNil, gsCons, eVar, eLit, eOp, eUn, eArgs, aNil, aCons, eIf, eAnd, eOr, eNot, tTru, tOp', tOfE, eChain, chainK, tNot', tAnd', tOr', ordD, addD, subD, negD, gcdD, mkTup, truD, blV, gcT_self, gcD_self, gcF_self, sizeLine_eq]
  · have hd2 : ¬ ((p.den : Int) = (q.den : Int)) := by omega
    have m1 := mulD_ok (m := m) (mulOk_of (i := p.num) (j := (q.den : Int)) hp.1 hq.2 (by omega))
    have m3 := mulD_ok (m := m) (mulOk_of (i := q.num) (j := (p.den : Int)) hq.1 hp.2 (by omega))
    have m2 := mulD_ok (m := m) (mulOk_of (i := (p.den : Int)) (j := (q.den : Int)) hp.2 hq.2 (by omega))
    have l := c_lowest (t := p.num * q.den + q.num * p.den) (b := (p.den : Int) * q.den) (m := m) (by omega) (Nat.lt_of_lt_of_le n2 (Nat.pow_le_pow_right (by omega) (by omega)))
    rw [← e] at l
    simp [f_plus, fnB, g_plus, retF, sSeq, contK, sIf, sAsg, sRet, sRetN, sExpr, sPar, sNil, gN, gSb, gT, gsNil, gsCons, eVar, eLit, eOp, eUn, eArgs, aNil, aCons, eIf, eAnd, eOr, eNot, tTru, tOp', tOfE, eChain, chainK, tNot', tAnd', tOr', ordD, addD, subD, negD, gcdD, mkTup, truD, blV, gcT_self, gcD_self, gcF_self, sizeLine_eq, eCall, ixD_fr0, ixD_fr1, eqD_int, hd, hd2, m1, m2, m3, l]
/-! the law's own -/
theorem forG_nil {tg : GG} {b : GS} {ρ : Env} {m : Mem} : forG [] tg b [] ρ m = .ok (.nx ρ) m := by
  unfold forG
  rw [if_pos (show LiveOk m [] from fun p hp => nomatch hp)]
theorem forG_cons {tg : GG} {b : GS} {x : D} {xs : List D} {ρ : Env} {m : Mem} : forG [] tg b (x :: xs) ρ m = (gcF m ((tg x ρ m).bind fun ρ1 m1 => b ρ1 m1)).bind fun f m2 => match f with
      | .nx ρ2 => forG [] tg b xs ρ2 m2
      | .cnt ρ2 => forG [] tg b xs ρ2 m2
      | .brk ρ2 => .ok (.nx ρ2) m2
      | .ret d => .ok (.ret d) m2 := by
  rw [forG, if_pos (show LiveOk m [] from fun p hp => nomatch hp)] <;> rfl

noncomputable def gcdBody : GS := sSeq (sIf (tOp' eqD (eVar 1) (eLit (.int 0))) sBrk sNil) (sPar 0 1 (eVar 1) (eOp modD (eArgs intD (aCons (eVar 0) aNil)) (eVar 1)))
theorem gcd_turn (a b : Nat) (o : Option D) (x : D) (m : Mem) : (gcF m ((gN 2 x [some (.int a), some (.int b), o] m).bind fun ρ1 m1 => gcdBody ρ1 m1)) = if b = 0 then .ok (.brk [some (.int a), some (.int b), some x]) m else .ok (.nx [some (.int b), some (.int (a % b : Nat)), some x]) m := by
  by_cases h : b = 0
  · subst h
    simp [gcdBody, retF, sSeq, contK, sIf, sAsg, sRet, sRetN, sExpr, sPar, sNil, gN, gSb, gT, gsNil, gsCons, eVar, eLit, eOp, eUn, eArgs, aNil, aCons, eIf, eAnd, eOr, eNot, tTru, tOp', tOfE, eChain, chainK, tNot', tAnd', tOr', ordD, addD, subD, negD, gcdD, mkTup, truD, blV, gcT_self, gcD_self, gcF_self, sizeLine_eq, eqD_int, sBrk]
  · have h2 : ¬ ((b : Int) = 0) := by omega
    have h3 : 0 < b := by omega
    simp [gcdBody, retF, sSeq, contK, sIf, sAsg, sRet, sRetN, sExpr, sPar, sNil, gN, gSb, gT, gsNil, gsCons, eVar, eLit, eOp, eUn, eArgs, aNil, aCons, eIf, eAnd, eOr, eNot, tTru, tOp', tOfE, eChain, chainK, tNot', tAnd', tOr', ordD, addD, subD, negD, gcdD, mkTup, truD, blV, gcT_self, gcD_self, gcF_self, sizeLine_eq, eqD_int, sBrk, h, h2, modD, intD, h3]
theorem gcd_loop : ∀ (k : Nat) (xs : List D) (a b : Nat) (o : Option D) (m : Mem), b ≤ a → a * b < 2 ^ k → k + 1 ≤ xs.length → ∃ ρ, forG [] (gN 2) gcdBody xs [some (.int a), some (.int b), o] m = .ok (.nx ρ) m ∧ ρ[0]? = some (some (.int (Nat.gcd a b : Nat))) := by
  intro k
  induction k with
  | zero =>
    intro xs a b o m hab hk hl
    have hb : b = 0 := by
      rcases Nat.eq_zero_or_pos b with h | h
      · exact h
      · have : 1 * 1 ≤ a * b := Nat.mul_le_mul (by omega) h
        omega
    cases xs with
    | nil => simp at hl
    | cons x xs =>
      rw [forG_cons, gcd_turn, if_pos hb]
      exact ⟨_, rfl, by rw [hb]; simp⟩
  | succ k ih =>
    intro xs a b o m hab hk hl
    cases xs with
    | nil => simp at hl
    | cons x xs =>
      rw [forG_cons, gcd_turn]
      by_cases hb : b = 0
      · rw [if_pos hb]
        exact ⟨_, rfl, by rw [hb]; simp⟩
      · rw [if_neg hb]
        have h1 : a % b < b := Nat.mod_lt _ (by omega)
        have h2 : b * (a / b) + a % b = a := Nat.div_add_mod a b
        have h3 : 1 ≤ a / b := Nat.div_pos hab (by omega)
        have h4 : b * 1 ≤ b * (a / b) := Nat.mul_le_mul (Nat.le_refl _) h3
        have h5 : 2 * (a % b) ≤ a := by omega
        have h6 : b * (2 * (a % b)) ≤ b * a := Nat.mul_le_mul (Nat.le_refl _) h5
        have h7 : b * (a % b) < 2 ^ k := by
          have e1 : b * (2 * (a % b)) = 2 * (b * (a % b)) := by rw [Nat.mul_left_comm]
          have e2 : b * a = a * b := Nat.mul_comm _ _
          have e3 : 2 ^ (k + 1) = 2 * 2 ^ k := by rw [Nat.pow_succ]; omega
          omega
        obtain ⟨ρ, e, q⟩ := ih xs b (a % b) (some x) m (Nat.le_of_lt h1) h7 (by simp at hl; omega)
        refine ⟨ρ, e, ?_⟩
        rw [q, Nat.gcd_comm b, ← Nat.gcd_rec, Nat.gcd_comm]
theorem s_gcd {a b : Int} {m : Mem} {j : Nat} (hb : b.natAbs < 2 ^ j) (hj : 2 * j + 2 ≤ 4000) : f__law_gcd [.int a, .int b] m = .ok (.int (Nat.gcd a.natAbs b.natAbs : Nat)) m := by
  have main : ∃ ρ, forG [] (gN 2) gcdBody (rngD 0 4000) [some (.int a.natAbs), some (.int b.natAbs), none] m = .ok (.nx ρ) m ∧ ρ[0]? = some (some (.int (Nat.gcd a.natAbs b.natAbs : Nat))) := by
    have hl : (rngD 0 4000).length = 4000 := by unfold rngD; rw [List.length_map, List.length_range]
    cases hx : rngD 0 4000 with
    | nil => rw [hx] at hl; simp at hl
    | cons x xs =>
      rw [hx] at hl
      rw [forG_cons, gcd_turn]
      by_cases h0 : b.natAbs = 0
      · rw [if_pos h0]
        exact ⟨_, rfl, by rw [h0]; simp⟩
      · rw [if_neg h0]
        have h1 : a.natAbs % b.natAbs < b.natAbs := Nat.mod_lt _ (by omega)
        have h2 : b.natAbs * (a.natAbs % b.natAbs) < 2 ^ (j + j) := mul_lt_pow hb (by omega)
        obtain ⟨ρ, e, q⟩ := gcd_loop (j + j) xs b.natAbs (a.natAbs % b.natAbs) (some x) m (Nat.le_of_lt h1) h2 (by simp at hl; omega)
        refine ⟨ρ, e, ?_⟩
        rw [q, Nat.gcd_comm b.natAbs, ← Nat.gcd_rec, Nat.gcd_comm]
  obtain ⟨ρ, e1, e2⟩ := main
  have fin : ∀ x y : Int, x = a.natAbs → y = b.natAbs → ((forG [] (gN 2) gcdBody (rngD 0 4000) [some (.int x), some (.int y), none] m).bind fun f m => contK (sRet (eVar 0)) f m).bind retF = .ok (.int (Nat.gcd a.natAbs b.natAbs : Nat)) m := by
    intro x y hx hy
    rw [hx, hy, e1]
    simp [retF, sSeq, contK, sIf, sAsg, sRet, sRetN, sExpr, sPar, sNil, gN, gSb, gT, gsNil, gsCons, eVar, eLit, eOp, eUn, eArgs, aNil, aCons, eIf, eAnd, eOr, eNot, tTru, tOp', tOfE, eChain, chainK, tNot', tAnd', tOr', ordD, addD, subD, negD, gcdD, mkTup, truD, blV, gcT_self, gcD_self, gcF_self, sizeLine_eq, e2]
  have ha' : (if a < 0 then 0 - a else a) = (a.natAbs : Int) := by split <;> omega
  have hb' : (if b < 0 then 0 - b else b) = (b.natAbs : Int) := by split <;> omega
  have bd : sSeq (sIf (tOp' eqD (eVar 1) (eLit (.int 0))) sBrk sNil) (sPar 0 1 (eVar 1) (eOp modD (eArgs intD (aCons (eVar 0) aNil)) (eVar 1))) = gcdBody := rfl
  unfold f__law_gcd fnB g__law_gcd
  rw [bd]
  by_cases h1 : a < 0 <;> by_cases h2 : b < 0
  all_goals
    simp only [h1, h2, if_true, if_false] at ha' hb'
    have f2 := fin _ _ ha' hb'
    simp [retF, sSeq, contK, sIf, sAsg, sRet, sRetN, sExpr, sPar, sNil, gN, gSb, gT, gsNil, gsCons, eVar, eLit, eOp, eUn, eArgs, aNil, aCons, eIf, eAnd, eOr, eNot, tTru, tOp', tOfE, eChain, chainK, tNot', tAnd', tOr', ordD, addD, subD, negD, gcdD, mkTup, truD, blV, gcT_self, gcD_self, gcF_self, sizeLine_eq, h1, h2, sFor, iRg1] at f2 ⊢
    exact f2

theorem s_frac {t b : Int} {m : Mem} {j : Nat} (hb : b ≠ 0) (hs : b.natAbs < 2 ^ j) (hj : 2 * j + 2 ≤ 4000) : f__law_frac [.int t, .int b] m = .ok (fr ((t : Rat) / (b : Rat))) m := by
  have key : ∀ t b : Int, 0 < b → b.natAbs < 2 ^ j → ((Nat.gcd t.natAbs b.natAbs : Nat) : Int).natAbs < 2 ^ 8000 := fun t b h1 h2 => by
    have := Nat.le_of_dvd (by omega) (Nat.gcd_dvd_right t.natAbs b.natAbs)
    have : 2 ^ j ≤ 2 ^ 8000 := Nat.pow_le_pow_right (by omega) (by omega)
    omega
  by_cases h : b < 0
  · have q : fr ((t : Rat) / (b : Rat)) = fr (((-t : Int) : Rat) / ((-b : Int) : Rat)) := by
      congr 1
      rw [Rat.intCast_neg, Rat.intCast_neg]
      have : (b : Rat) ≠ 0 := by exact_mod_cast hb
      grind
    have k := key (-t) (-b) (by omega) (by omega)
    have d1 := fun i => divD_pos (i := i) (m := m) (j := ((Nat.gcd (-t).natAbs (-b).natAbs : Nat) : Int)) (by have := gcd_pos (t := -t) (b := -b) (by omega); omega) k
    have g1 := callD_pure (n := 2) (cf := f__law_gcd) rfl (s_gcd (a := -t) (b := -b) (m := m) (j := j) (by omega) hj)
    rw [q, fr_div (by omega)]
    simp only [Int.natAbs_neg] at d1 g1
    simp [f__law_frac, fnB, g__law_frac, retF, sSeq, contK, sIf, sAsg, sRet, sRetN, sExpr, sPar, sNil, gN, gSb, gT, gsNil, gsCons, eVar, eLit, eOp, eUn, eArgs, aNil, aCons, eIf, eAnd, eOr, eNot, tTru, tOp', tOfE, eChain, chainK, tNot', tAnd', tOr', ordD, addD, subD, negD, gcdD, mkTup, truD, blV, gcT_self, gcD_self, gcF_self, sizeLine_eq, eCall, h, d1, g1]
  · have hg := gcd_pos (t := t) hb
    have k := key t b (by omega) hs
    have d1 := fun i => divD_pos (i := i) (m := m) (j := ((Nat.gcd t.natAbs b.natAbs : Nat) : Int)) (by omega) k
    have g1 := callD_pure (n := 2) (cf := f__law_gcd) rfl (s_gcd (a := t) (b := b) (m := m) (j := j) hs hj)
    rw [fr_div (by omega)]
    simp [f__law_frac, fnB, g__law_frac, retF, sSeq, contK, sIf, sAsg, sRet, sRetN, sExpr, sPar, sNil, gN, gSb, gT, gsNil, gsCons, eVar, eLit, eOp, eUn, eArgs, aNil, aCons, eIf, eAnd, eOr, eNot, tTru, tOp', tOfE, eChain, chainK, tNot', tAnd', tOr', ordD, addD, subD, negD, gcdD, mkTup, truD, blV, gcT_self, gcD_self, gcF_self, sizeLine_eq, eCall, h, d1, g1]
theorem c_frac {t b : Int} {m : Mem} {j : Nat} (hb : b ≠ 0) (hs : b.natAbs < 2 ^ j) (hj : 2 * j + 2 ≤ 4000) : callD 2 f__law_frac [.int t, .int b] m = .ok (fr ((t : Rat) / (b : Rat))) m := callD_pure rfl (s_frac hb hs hj)
theorem l_plus {p q : Rat} {m : Mem} {n k : Nat} (hp : sz n p) (hq : sz k q) (h : n + k < 1990) : callD 2 f__law_plus [fr p, fr q] m = .ok (fr (p + q)) m := by
  have e := plus_eq p q
  obtain ⟨n1, n2⟩ := plus_sz hp hq
  have dpos : (0 : Int) < (p.den : Int) * q.den := Int.mul_pos (by have := p.den_pos; omega) (by have := q.den_pos; omega)
  have m1 := mulD_ok (m := m) (mulOk_of (i := p.num) (j := (q.den : Int)) hp.1 hq.2 (by omega))
  have m3 := mulD_ok (m := m) (mulOk_of (i := q.num) (j := (p.den : Int)) hq.1 hp.2 (by omega))
  have m2 := mulD_ok (m := m) (mulOk_of (i := (p.den : Int)) (j := (q.den : Int)) hp.2 hq.2 (by omega))
  have l := c_frac (t := p.num * q.den + q.num * p.den) (b := (p.den : Int) * q.den) (m := m) (by omega) n2 (by omega)
  rw [← e] at l
  refine callD_pure rfl ?_
  simp [f__law_plus, fnB, g__law_plus, retF, sSeq, contK, sIf, sAsg, sRet, sRetN, sExpr, sPar, sNil, gN, gSb, gT, gsNil, gsCons, eVar, eLit, eOp, eUn, eArgs, aNil, aCons, eIf, eAnd, eOr, eNot, tTru, tOp', tOfE, eChain, chainK, tNot', tAnd', tOr', ordD, addD, subD, negD, gcdD, mkTup, truD, blV, gcT_self, gcD_self, gcF_self, sizeLine_eq, eCall, ixD_fr0, ixD_fr1, m1, m2, m3, l]
theorem fr_one : fr 1 = .tup [.int 1, .int 1] := rfl
theorem sz_one (n : Nat) (h : 1 ≤ n) : sz n 1 := ⟨by show 1 < 2 ^ n; have := Nat.pow_le_pow_right (n := 2) (by omega) h; omega, by show 1 < 2 ^ n; have := Nat.pow_le_pow_right (n := 2) (by omega) h; omega⟩
theorem sz_plus {p q : Rat} {n k : Nat} (hp : sz n p) (hq : sz k q) : sz (n + k + 1) (p + q) := by
  obtain ⟨n1, n2⟩ := plus_sz hp hq
  rw [plus_eq p q]
  exact sz_div (Int.mul_pos (by have := p.den_pos; omega) (by have := q.den_pos; omega)) n1 n2 (Nat.le_refl _) (by omega)
theorem sz_over {p q : Rat} {n k : Nat} (hp : sz n p) (hq : sz k q) (hq0 : 0 < q) : sz (n + k) (p / q) := by
  obtain ⟨n1, n2⟩ := over_sz hp hq
  rw [over_eq p q hq0]
  exact sz_div (Int.mul_pos (by have := p.den_pos; omega) (num_pos hq0)) n1 n2 (Nat.le_refl _) (Nat.le_refl _)
theorem log_of {a n : Nat} (h : a < 2 ^ n) (h0 : 0 < n) (hn : n ≤ 1920) : a.log2 < 1920 := Nat.lt_of_lt_of_le (log_lt h h0) hn
theorem int_len {i : Int} (h : i.natAbs.log2 < 1920) : ((PyData.int i).shown).length ≤ 1921 := PyProof.Rows.int_text_len_1921 h
def pyF (q : Rat) : PyData := .tuple [.int q.num, .int (q.den : Int)]
theorem toP_fr (k : Nat) (m : Mem) (q : Rat) : toP (k + 2) m (fr q) = some (pyF q) := rfl
theorem pyF_ok {q : Rat} {n : Nat} (h : sz n q) (h0 : 0 < n) (hn : n ≤ 1920) : (pyF q).showable = true ∧ (pyF q).shown.length ≤ 4000 := by
  have h1 := log_of h.1 h0 hn
  have h2 := log_of (a := ((q.den : Int)).natAbs) h.2 h0 hn
  refine ⟨?_, ?_⟩
  · simp only [pyF, PyData.showable, PyData.showableAll, Bool.and_true, Bool.and_eq_true, decide_eq_true_eq]
    exact ⟨h1, h2⟩
  · have e1 := int_len h1
    have e2 := int_len h2
    have := tupleText_len_le [(PyData.int q.num).shown, (PyData.int (q.den : Int)).shown]
    simp only [List.map_cons, List.map_nil, List.sum_cons, List.sum_nil, List.length_cons, List.length_nil] at this
    show (tupleText [(PyData.int q.num).shown, (PyData.int (q.den : Int)).shown]).length ≤ 4000
    omega
theorem repr_fr {q : Rat} {n : Nat} {m : Mem} (h : sz n q) (h0 : 0 < n) (hn : n ≤ 1920) : ∃ z, reprD [fr q] m = some (.str z, m) := by
  obtain ⟨e1, e2⟩ := pyF_ok h h0 hn
  refine ⟨(pyF q).shown, ?_⟩
  unfold reprD
  dsimp only
  rw [toP_fr 64]
  dsimp only
  rw [if_pos ⟨e1, rfl, by simp [pyF, PyData.depth, PyData.depthAll], Nat.le_trans e2 (le_line (by omega))⟩]
theorem eqD_str {z : Str} {m : Mem} : eqD (.str z) (.str z) m = some (.bl true, m) := by
  show some (D.bl (decide (z = z)), m) = _
  simp
theorem same_of {d : D} {m : Mem} {z : Str} (h : reprD [d] m = some (.str z, m)) : callD 2 f__law_same [d, d] m = .ok (.bl true) m := by
  refine callD_pure rfl ?_
  simp [f__law_same, fnB, g__law_same, retF, sSeq, contK, sIf, sAsg, sRet, sRetN, sExpr, sPar, sNil, gN, gSb, gT, gsNil, gsCons, eVar, eLit, eOp, eUn, eArgs, aNil, aCons, eIf, eAnd, eOr, eNot, tTru, tOp', tOfE, eChain, chainK, tNot', tAnd', tOr', ordD, addD, subD, negD, gcdD, mkTup, truD, blV, gcT_self, gcD_self, gcF_self, sizeLine_eq, h, eqD_str]
theorem same_fr {p q : Rat} {n : Nat} {m : Mem} (e : p = q) (h : sz n p) (h0 : 0 < n) (hn : n ≤ 1920) : callD 2 f__law_same [fr p, fr q] m = .ok (.bl true) m := by
  subst e
  obtain ⟨z, hz⟩ := repr_fr (m := m) h h0 hn
  exact same_of hz
/-! rows judged -/
theorem compG_nil {tg : GG} {t : GT} {g : G} {ρ : Env} {acc : List D} {m : Mem} : compG [] tg t g ρ [] acc m = .ok acc m := by
  unfold compG
  rw [if_pos (show LiveOk m [] from fun p hp => nomatch hp)]
theorem compG_cons {tg : GG} {t : GT} {g : G} {ρ : Env} {acc : List D} {x : D} {xs : List D} {m : Mem} : compG [] tg t g ρ (x :: xs) acc m = (gcO m (turnC tg t g x ρ m)).bind fun o m4 => compG [] tg t g ρ xs (keepD o acc) m4 := by
  rw [compG, if_pos (show LiveOk m [] from fun p hp => nomatch hp)]
theorem gcO_self {m : Mem} {o : Option D} : gcO m (.ok o m) = .ok o m := gcR_self
theorem neD_int {i j : Int} {m : Mem} : neD (.int i) (.int j) m = some (.bl (!decide (i = j)), m) := by
  show (if SeqAt.shaped (.int i) = true ∧ SeqAt.shaped (.int j) = true then some (PyData.eqv (.int i) (.int j)) else none).map _ = _
  rw [if_pos ⟨rfl, rfl⟩]
  rfl
theorem gcd_fr (q : Rat) : Nat.gcd q.num.natAbs q.den = 1 := q.reduced
theorem neD_nil {n k : Nat} {m : Mem} (h1 : m[n]? = some (.lst [])) (h2 : m[k]? = some (.lst [])) : neD (.ref n) (.ref k) m = some (.bl false, m) := by
  have e : ∀ n, m[n]? = some (.lst []) → toP 66 m (.ref n) = some (.list []) := fun n h => by
    unfold toP
    simp [h]
  unfold neD eqvD
  simp only [e n h1, e k h2]
  rfl
theorem row_one {q : Rat} {m : Mem} {n : Nat} {o1 o2 o3 o4 : Option D} (h : sz n q) (hn : 2 * n + 2 ≤ 4000) :
    (gcF m ((gN 2 (fr q) [o1, o2, o3, o4] m).bind fun ρ1 m1 => (sSeq (sIf (tOr' (tNot' (tTru (eUn (isD1 .tuple) (eVar 2)))) (tOr' (tOp' neD (eArgs lenD (aCons (eVar 2) aNil)) (eLit (.int 2))) (tOp' neD (eComp [3] (iSeq (eVar 2)) (gN 3) (tOr' (tNot' (tTru (eUn (isD1 .int) (eVar 3)))) (tTru (eUn (isD1 .bool) (eVar 3)))) (eVar 3)) (eArgs mkLst aNil)))) (sRet (eLit (.bl false))) sNil)
      (sIf (tOr' (tOp' ltD (eOp ixD (eVar 2) (eLit (.int 1))) (eLit (.int 1))) (tOp' neD (eCall 2 f__law_gcd (aCons (eOp ixD (eVar 2) (eLit (.int 0))) (aCons (eOp ixD (eVar 2) (eLit (.int 1))) aNil))) (eLit (.int 1)))) (sRet (eLit (.bl false))) sNil)) ρ1 m1)) = .ok (.nx [o1, o2, some (fr q), o4]) m := by
  have g1 := callD_pure (n := 2) (cf := f__law_gcd) rfl (s_gcd (a := q.num) (b := (q.den : Int)) (m := m) (j := n) h.2 hn)
  have hd := q.den_pos
  have nd : ¬ ((q.den : Int) < 1) := by omega
  have hf : fr q = .tup [.int q.num, .int (q.den : Int)] := rfl
  have nn : neD (.ref m.length) (.ref (m.length + 1)) (m ++ [.lst [], .lst []]) = some (.bl false, m ++ [.lst [], .lst []]) := neD_nil (by simp) (by simp)
  have gg : Nat.gcd q.num.natAbs (q.den : Int).natAbs = 1 := q.reduced
  rw [gg] at g1
  have e5 : ixD (.tup [.int q.num, .int (q.den : Int)]) (.int 1) m = some (.int q.den, m) := rfl
  have e6 : ixD (.tup [.int q.num, .int (q.den : Int)]) (.int 0) m = some (.int q.num, m) := rfl
  simp [retF, sSeq, contK, sIf, sAsg, sRet, sRetN, sExpr, sPar, sNil, gN, gSb, gT, gsNil, gsCons, eVar, eLit, eOp, eUn, eArgs, aNil, aCons, eIf, eAnd, eOr, eNot, tTru, tOp', tOfE, eChain, chainK, tNot', tAnd', tOr', ordD, addD, subD, negD, gcdD, mkTup, truD, blV, gcT_self, gcD_self, gcF_self, sizeLine_eq, hf, isD1, tyB, lenD, neD_int, eComp, iSeq, compG_nil, compG_cons, turnC, wipeE, gcO_self, keepD, R.noexc, mkLst, nn, gcT_app, eCall, e5, e6, g1, nd]

/-! the box -/
structure Bx (M : Mem) (b d n : Nat) : Prop where
  box : ∃ at_ : Nat, M[b]? = some (.lst [.ref d, .int at_]) ∧ at_ ≤ n
  dig : ∃ xs : List Int, M[d]? = some (.lst (xs.map D.int)) ∧ ∀ x ∈ xs, 0 ≤ x ∧ x < 1009
  ne : b ≠ d
structure Same (M M' : Mem) (b : Nat) : Prop where
  len : M'.length = M.length
  at_ : ∀ i, i ≠ b → M'[i]? = M[i]?
theorem Bx.lt {M : Mem} {b d n : Nat} (h : Bx M b d n) : b < M.length ∧ d < M.length := by
  obtain ⟨a, h1, _⟩ := h.box
  obtain ⟨xs, h2, _⟩ := h.dig
  exact ⟨(List.getElem?_eq_some_iff.mp h1).1, (List.getElem?_eq_some_iff.mp h2).1⟩
theorem Bx.app {M g : Mem} {b d n : Nat} (h : Bx M b d n) : Bx (M ++ g) b d n := by
  obtain ⟨h1, h2⟩ := h.lt
  refine ⟨?_, ?_, h.ne⟩
  · obtain ⟨a, e, l⟩ := h.box; exact ⟨a, by rw [List.getElem?_append_left h1]; exact e, l⟩
  · obtain ⟨xs, e, l⟩ := h.dig; exact ⟨xs, by rw [List.getElem?_append_left h2]; exact e, l⟩
theorem Bx.take {M : Mem} {b d n k : Nat} (h : Bx M b d n) (hb : b < k) (hd : d < k) : Bx (M.take k) b d n := by
  refine ⟨?_, ?_, h.ne⟩
  · obtain ⟨a, e, l⟩ := h.box; exact ⟨a, by rw [List.getElem?_take_of_lt hb]; exact e, l⟩
  · obtain ⟨xs, e, l⟩ := h.dig; exact ⟨xs, by rw [List.getElem?_take_of_lt hd]; exact e, l⟩
theorem Bx.mono {M : Mem} {b d n k : Nat} (h : Bx M b d n) (l : n ≤ k) : Bx M b d k := ⟨let ⟨a, e, q⟩ := h.box; ⟨a, e, Nat.le_trans q l⟩, h.dig, h.ne⟩
theorem atI_nat {α : Type} {xs : List α} {i : Nat} : L2.atI xs (i : Int) = xs[i]? := by
  unfold L2.atI L2.ixN
  rw [if_pos (by omega)]
  by_cases h : i < xs.length
  · rw [if_pos (by omega)]; simp
  · rw [if_neg (by omega)]; simp; omega
theorem s_draw {M : Mem} {b d n : Nat} {many : Int} (h : Bx M b d n) (hn : n < 1000000) (hm : 0 < many) : ∃ (r : Int) (M' : Mem), f__law_draw [.ref b, .int many] M = .ok (.int r) M' ∧ 0 ≤ r ∧ r < many ∧ Bx M' b d (n + 1) ∧ Same M M' b := by
  obtain ⟨hb, hd⟩ := h.lt
  obtain ⟨a, e1, l1⟩ := h.box
  obtain ⟨xs, e2, l2⟩ := h.dig
  have ne := h.ne
  have i0 : ixD (.ref b) (.int 1) M = some (.int a, M) := by
    simp [ixD, lstOf, e1, L2.atI, L2.ixN]
  have st : setD (.ref b) (.int 1) (.int ((a : Int) + 1)) M = some (M.set b (.lst [.ref d, .int ((a : Int) + 1)])) := by
    simp [setD, e1, L2.ixN]
  obtain ⟨M', eM⟩ : ∃ M', M' = M.set b (.lst [.ref d, .int ((a : Int) + 1)]) := ⟨_, rfl⟩
  have m1 : M'[b]? = some (.lst [.ref d, .int ((a : Int) + 1)]) := by rw [eM, List.getElem?_set_self hb]
  have m2 : M'[d]? = some (.lst (xs.map D.int)) := by rw [eM, List.getElem?_set_ne ne]; exact e2
  have sm : Same M M' b := ⟨by rw [eM, List.length_set], fun i hi => by rw [eM, List.getElem?_set_ne (Ne.symm hi)]⟩
  have bx : Bx M' b d (n + 1) := ⟨⟨a + 1, by rw [m1]; rfl, by omega⟩, ⟨xs, m2, l2⟩, ne⟩
  have j0 : ixD (.ref b) (.int 0) M' = some (.ref d, M') := by
    simp [ixD, lstOf, m1, L2.atI, L2.ixN]
  have ln : lenD [.ref d] M' = some (.int xs.length, M') := by simp [lenD, lstOf, m2]
  by_cases hlt : a < xs.length
  · have hx : xs[a]? = some xs[a] := List.getElem?_eq_getElem hlt
    have k0 : ixD (.ref d) (.int a) M' = some (.int xs[a], M') := by
      simp [ixD, lstOf, m2, atI_nat, hx]
    refine ⟨xs[a] % many, M', ?_, Int.emod_nonneg _ (by omega), Int.emod_lt_of_pos _ hm, bx, sm⟩
    have c : ((a : Int) < (xs.length : Int)) := by omega
    simp [f__law_draw, fnB, g__law_draw, retF, sSeq, contK, sIf, sAsg, sRet, sRetN, sExpr, sPar, sNil, gN, gSb, gT, gsNil, gsCons, eVar, eLit, eOp, eUn, eArgs, aNil, aCons, eIf, eAnd, eOr, eNot, tTru, tOp', tOfE, eChain, chainK, tNot', tAnd', tOr', ordD, addD, subD, negD, gcdD, mkTup, truD, blV, gcT_self, gcD_self, gcF_self, sizeLine_eq, i0, st, ← eM, j0, ln, hlt, k0, intD, modD, hm]
  · obtain ⟨q1, hq1⟩ : ∃ q : Int, q = (a : Int) * a * 3 + a * 4 + a / 3 + 1 := ⟨_, rfl⟩
    refine ⟨q1 % many, M', ?_, Int.emod_nonneg _ (by omega), Int.emod_lt_of_pos _ hm, bx, sm⟩
    have a20 : a < 2 ^ 20 := by omega
    have mo1 := mulD_ok (m := M') (mulOk_of (i := (a : Int)) (j := (a : Int)) (n := 20) (k := 20) (by omega) (by omega) (by omega))
    have mo2 := mulD_ok (m := M') (mulOk_of (i := (a : Int) * a) (j := 3) (n := 40) (k := 2) (by rw [Int.natAbs_mul]; exact mul_lt_pow (n := 20) (k := 20) (by omega) (by omega)) (by decide) (by omega))
    have mo3 := mulD_ok (m := M') (mulOk_of (i := (a : Int)) (j := 4) (n := 20) (k := 3) (by omega) (by decide) (by omega))
    have dv := divD_pos (i := (a : Int)) (j := 3) (m := M') (by omega) (Nat.lt_of_lt_of_le (show (3 : Int).natAbs < 2 ^ 2 by decide) (Nat.pow_le_pow_right (by omega) (by omega)))
    simp [f__law_draw, fnB, g__law_draw, retF, sSeq, contK, sIf, sAsg, sRet, sRetN, sExpr, sPar, sNil, gN, gSb, gT, gsNil, gsCons, eVar, eLit, eOp, eUn, eArgs, aNil, aCons, eIf, eAnd, eOr, eNot, tTru, tOp', tOfE, eChain, chainK, tNot', tAnd', tOr', ordD, addD, subD, negD, gcdD, mkTup, truD, blV, gcT_self, gcD_self, gcF_self, sizeLine_eq, i0, st, ← eM, j0, ln, hlt, mo1, mo2, mo3, dv, intD, modD, hm, hq1]

theorem c_draw {M : Mem} {b d n : Nat} {many : Int} (h : Bx M b d n) (hn : n < 1000000) (hm : 0 < many) : ∃ (r : Int) (M' : Mem), callD 2 f__law_draw [.ref b, .int many] M = .ok (.int r) M' ∧ 0 ≤ r ∧ r < many ∧ Bx M' b d (n + 1) ∧ Same M M' b := by
  obtain ⟨r, M', e, h1, h2, h3, h4⟩ := s_draw h hn hm
  exact ⟨r, M', callD_ok rfl e h4.len, h1, h2, h3, h4⟩
theorem keep_box {M M' g : Mem} {b d n k : Nat} (h : Bx M b d n) (h' : Bx M' b d k) (s : Same M M' b) : KeepOk M (M' ++ g) := by
  refine ⟨by rw [List.length_append, s.len]; omega, fun i c hi e => ?_⟩
  rw [List.getElem?_append_left (by rw [s.len]; exact hi)] at e
  by_cases hb : i = b
  · subst hb
    obtain ⟨a, q, _⟩ := h'.box
    rw [q] at e
    cases e
    refine .inr ?_
    obtain ⟨_, hd⟩ := h.lt
    simp [Cell.fits, D.fitsL, D.fits, hd]
  · rw [s.at_ i hb] at e
    exact .inl e
theorem callD_box {n : Nat} {cf : List D → Mem → R D} {ds : List D} {M M' g : Mem} {v : D} {b d k j : Nat} (hn : ds.length = n) (h : Bx M b d k) (h' : Bx M' b d j) (s : Same M M' b) (e : cf ds M = .ok v (M' ++ g)) (hf : v.fits M.length = true) : callD n cf ds M = .ok v M' := by
  unfold callD
  rw [if_pos hn, e]
  unfold gcD gcR
  dsimp only
  rw [if_pos ⟨hf, keep_box h h' s⟩, ← s.len, List.take_left]
theorem Same.trans {M M' M'' : Mem} {b : Nat} (a : Same M M' b) (c : Same M' M'' b) : Same M M'' b := ⟨c.len.trans a.len, fun i h => (c.at_ i h).trans (a.at_ i h)⟩
theorem Same.refl {M : Mem} {b : Nat} : Same M M b := ⟨rfl, fun _ _ => rfl⟩
theorem c_pick {M : Mem} {b d n p : Nat} {xs : List Int} (h : Bx M b d n) (hn : n < 1000000) (hp : M[p]? = some (.lst (xs.map D.int))) (hb : p ≠ b) (hx : xs ≠ []) : ∃ (r : Int) (M' : Mem), callD 2 f__law_pick [.ref b, .ref p] M = .ok (.int r) M' ∧ r ∈ xs ∧ Bx M' b d (n + 1) ∧ Same M M' b := by
  have hl : 0 < xs.length := List.length_pos_iff.mpr hx
  have ln : lenD [.ref p] M = some (.int xs.length, M) := by simp [lenD, lstOf, hp]
  obtain ⟨r, M', e, h1, h2, h3, h4⟩ := c_draw (many := xs.length) h hn (by omega)
  obtain ⟨j, rfl⟩ : ∃ j : Nat, r = (j : Int) := ⟨r.toNat, by omega⟩
  have h5 : j < xs.length := by omega
  have hx2 : xs[j]? = some xs[j] := List.getElem?_eq_getElem h5
  have k0 : ixD (.ref p) (.int j) M' = some (.int xs[j], M') := by
    have hp' : M'[p]? = some (.lst (xs.map D.int)) := by rw [h4.at_ p hb]; exact hp
    simp [ixD, lstOf, hp', atI_nat, hx2]
  refine ⟨xs[j], M', callD_ok rfl ?_ h4.len, List.getElem_mem h5, h3, h4⟩
  simp [f__law_pick, fnB, g__law_pick, retF, sSeq, contK, sIf, sAsg, sRet, sRetN, sExpr, sPar, sNil, gN, gSb, gT, gsNil, gsCons, eVar, eLit, eOp, eUn, eArgs, aNil, aCons, eIf, eAnd, eOr, eNot, tTru, tOp', tOfE, eChain, chainK, tNot', tAnd', tOr', ordD, addD, subD, negD, gcdD, mkTup, truD, blV, gcT_self, gcD_self, gcF_self, sizeLine_eq, eCall, ln, e, k0]
theorem i_int {i : Int} {m : Mem} : callD 1 f_is_integer [.int i] m = .ok (.bl true) m := callD_pure rfl (by simp [f_is_integer, fnB, g_is_integer, retF, sSeq, contK, sIf, sAsg, sRet, sRetN, sExpr, sPar, sNil, gN, gSb, gT, gsNil, gsCons, eVar, eLit, eOp, eUn, eArgs, aNil, aCons, eIf, eAnd, eOr, eNot, tTru, tOp', tOfE, eChain, chainK, tNot', tAnd', tOr', ordD, addD, subD, negD, gcdD, mkTup, truD, blV, gcT_self, gcD_self, gcF_self, sizeLine_eq, isD1, tyB])
theorem i_bl {i : Bool} {m : Mem} : callD 1 f_is_integer [.bl i] m = .ok (.bl false) m := callD_pure rfl (by simp [f_is_integer, fnB, g_is_integer, retF, sSeq, contK, sIf, sAsg, sRet, sRetN, sExpr, sPar, sNil, gN, gSb, gT, gsNil, gsCons, eVar, eLit, eOp, eUn, eArgs, aNil, aCons, eIf, eAnd, eOr, eNot, tTru, tOp', tOfE, eChain, chainK, tNot', tAnd', tOr', ordD, addD, subD, negD, gcdD, mkTup, truD, blV, gcT_self, gcD_self, gcF_self, sizeLine_eq, isD1, tyB])
theorem f_two {a b : Int} {m : Mem} : callD 1 f_is_fraction [.tup [.int a, .int b]] m = .ok (.bl (decide (1 ≤ b) && decide (Nat.gcd a.natAbs b.natAbs = 1))) m := by
  refine callD_pure rfl ?_
  have e5 : ixD (.tup [.int a, .int b]) (.int 1) m = some (.int b, m) := rfl
  have e6 : ixD (.tup [.int a, .int b]) (.int 0) m = some (.int a, m) := rfl
  have al : allD [.ref m.length] (m ++ [.lst [.bl true, .bl true]]) = some (.bl true, m ++ [.lst [.bl true, .bl true]]) := by simp [allD, lstOf, blV]
  have gz : decide ((Nat.gcd a.natAbs b.natAbs : Int) = 1) = decide (Nat.gcd a.natAbs b.natAbs = 1) := by
    by_cases h : Nat.gcd a.natAbs b.natAbs = 1
    · simp [h]
    · have : ¬ ((Nat.gcd a.natAbs b.natAbs : Int) = 1) := by omega
      simp [h, this]
  by_cases hb : 1 ≤ b
  · simp [f_is_fraction, fnB, g_is_fraction, retF, sSeq, contK, sIf, sAsg, sRet, sRetN, sExpr, sPar, sNil, gN, gSb, gT, gsNil, gsCons, eVar, eLit, eOp, eUn, eArgs, aNil, aCons, eIf, eAnd, eOr, eNot, tTru, tOp', tOfE, eChain, chainK, tNot', tAnd', tOr', ordD, addD, subD, negD, gcdD, mkTup, truD, blV, gcT_self, gcD_self, gcF_self, sizeLine_eq, isD1, tyB, lenD, neD_int, eComp, iSeq, compG_nil, compG_cons, turnC, wipeE, gcO_self, keepD, R.noexc, tYes', eCall, i_int, al, gcT_app, e5, e6, eqD_int, hb, gz]
  · simp [f_is_fraction, fnB, g_is_fraction, retF, sSeq, contK, sIf, sAsg, sRet, sRetN, sExpr, sPar, sNil, gN, gSb, gT, gsNil, gsCons, eVar, eLit, eOp, eUn, eArgs, aNil, aCons, eIf, eAnd, eOr, eNot, tTru, tOp', tOfE, eChain, chainK, tNot', tAnd', tOr', ordD, addD, subD, negD, gcdD, mkTup, truD, blV, gcT_self, gcD_self, gcF_self, sizeLine_eq, isD1, tyB, lenD, neD_int, eComp, iSeq, compG_nil, compG_cons, turnC, wipeE, gcO_self, keepD, R.noexc, tYes', eCall, i_int, al, gcT_app, e5, e6, eqD_int, hb, gz]
theorem f_bl {x : Bool} {b : Int} {m : Mem} : callD 1 f_is_fraction [.tup [.bl x, .int b]] m = .ok (.bl false) m := by
  refine callD_pure rfl ?_
  have al : allD [.ref m.length] (m ++ [.lst [.bl false, .bl true]]) = some (.bl false, m ++ [.lst [.bl false, .bl true]]) := by simp [allD, lstOf, blV]
  simp [f_is_fraction, fnB, g_is_fraction, retF, sSeq, contK, sIf, sAsg, sRet, sRetN, sExpr, sPar, sNil, gN, gSb, gT, gsNil, gsCons, eVar, eLit, eOp, eUn, eArgs, aNil, aCons, eIf, eAnd, eOr, eNot, tTru, tOp', tOfE, eChain, chainK, tNot', tAnd', tOr', ordD, addD, subD, negD, gcdD, mkTup, truD, blV, gcT_self, gcD_self, gcF_self, sizeLine_eq, isD1, tyB, lenD, neD_int, eComp, iSeq, compG_nil, compG_cons, turnC, wipeE, gcO_self, keepD, R.noexc, tYes', eCall, i_int, i_bl, al, gcT_app]
theorem f_int {i : Int} {m : Mem} : callD 1 f_is_fraction [.int i] m = .ok (.bl false) m := callD_pure rfl (by simp [f_is_fraction, fnB, g_is_fraction, retF, sSeq, contK, sIf, sAsg, sRet, sRetN, sExpr, sPar, sNil, gN, gSb, gT, gsNil, gsCons, eVar, eLit, eOp, eUn, eArgs, aNil, aCons, eIf, eAnd, eOr, eNot, tTru, tOp', tOfE, eChain, chainK, tNot', tAnd', tOr', ordD, addD, subD, negD, gcdD, mkTup, truD, blV, gcT_self, gcD_self, gcF_self, sizeLine_eq, isD1, tyB])
theorem f_non {m : Mem} : callD 1 f_is_fraction [.non] m = .ok (.bl false) m := callD_pure rfl (by simp [f_is_fraction, fnB, g_is_fraction, retF, sSeq, contK, sIf, sAsg, sRet, sRetN, sExpr, sPar, sNil, gN, gSb, gT, gsNil, gsCons, eVar, eLit, eOp, eUn, eArgs, aNil, aCons, eIf, eAnd, eOr, eNot, tTru, tOp', tOfE, eChain, chainK, tNot', tAnd', tOr', ordD, addD, subD, negD, gcdD, mkTup, truD, blV, gcT_self, gcD_self, gcF_self, sizeLine_eq, isD1, tyB])
theorem c_plus {p q : Rat} {m : Mem} {n k : Nat} (hp : sz n p) (hq : sz k q) (h : n + k + 1 < 8000) : callD 2 f_plus [fr p, fr q] m = .ok (fr (p + q)) m := callD_pure rfl (s_plus hp hq h).1
theorem c_times {p q : Rat} {m : Mem} {n k : Nat} (hp : sz n p) (hq : sz k q) (h : n + k < 8000) : callD 2 f_times [fr p, fr q] m = .ok (fr (p * q)) m := callD_pure rfl (s_times hp hq h).1
theorem sz_times {p q : Rat} {n k : Nat} (hp : sz n p) (hq : sz k q) (h : n + k < 8000) : sz (n + k) (p * q) := (s_times (m := []) hp hq h).2
theorem c_over {p q : Rat} {m : Mem} {n k : Nat} (hp : sz n p) (hq : sz k q) (hq0 : 0 < q) (h : n + k < 8000) : callD 2 f_over [fr p, fr q] m = .ok (fr (p / q)) m := callD_pure rfl (s_over hp hq hq0 h).1
/-! the digits -/
def Dg (M : Mem) (k : Nat) : Prop := ∃ xs : List Int, M = [.lst (xs.map D.int)] ∧ (∀ x ∈ xs, 0 ≤ x ∧ x < 1009) ∧ xs.length ≤ k
theorem mulOk_r {i j : Int} (h : j.natAbs < 2 ^ 60) : MulOk i j := .inr (.inr (by omega))
theorem mulOk_l {i j : Int} (h : i.natAbs < 2 ^ 60) : MulOk i j := .inr (.inl (by omega))
theorem div_small {i j : Int} {m : Mem} (h : 0 < j) (hs : j.natAbs < 2 ^ 40) : divD (.int i) (.int j) m = some (.int (i / j), m) := divD_pos h (Nat.lt_of_lt_of_le hs (Nat.pow_le_pow_right (by omega) (by omega)))
theorem dg_app {M : Mem} {k : Nat} {x : Int} (h : Dg M k) (hk : k < 1000000) (h0 : 0 ≤ x) (h1 : x < 1009) : ∃ M', appD (.ref 0) [.int x] M = some (.non, M') ∧ Dg M' (k + 1) ∧ M'.length = M.length ∧ tyD "list" (.ref 0) M = true := by
  obtain ⟨xs, rfl, a, b⟩ := h
  have hl : xs.length < 16777216 := by omega
  refine ⟨[.lst ((xs ++ [x]).map D.int)], ?_, ⟨xs ++ [x], rfl, ?_, by simp; omega⟩, rfl, by simp [tyD]⟩
  · simp [appD, sizeLine_eq, hl]
  · intro y hy
    rcases List.mem_append.mp hy with hy | hy
    · exact a y hy
    · rw [List.mem_singleton.mp hy]; exact ⟨h0, h1⟩
theorem gcF_len {m m' : Mem} {f : Fl} (h : m'.length = m.length) : gcF m (.ok f m') = .ok f m' := gcR_same h
theorem dig_turn1 {M : Mem} {k : Nat} {x : D} {cell : Int} {s0 s1 s2 s4 s6 s7 : Option D} (h : Dg M k) (hk : k < 1000000) : ∃ (c : Int) (M' : Mem), gcF M ((gN 6 x [s0, s1, s2, some (.ref 0), s4, some (.int cell), s6, s7] M).bind fun ρ1 m1 => g__law_digits_4 ρ1 m1) = .ok (.nx [s0, s1, s2, some (.ref 0), s4, some (.int c), some x, s7]) M' ∧ Dg M' (k + 1) := by
  by_cases hc : 0 < cell
  · obtain ⟨M', e, d, hl, t⟩ := dg_app (x := cell % 1009) h hk (Int.emod_nonneg _ (by omega)) (Int.emod_lt_of_pos _ (by omega))
    refine ⟨cell / 1009, M', ?_, d⟩
    have dv := div_small (i := cell) (j := 1009) (m := M') (by omega) (by omega)
    rw [← gcF_len (f := .nx [s0, s1, s2, some (.ref 0), s4, some (.int (cell / 1009)), some x, s7]) hl]
    congr 1
    simp [g__law_digits_4, g__law_digits_3, g__law_digits_2, retF, sSeq, contK, sIf, sAsg, sRet, sRetN, sExpr, sPar, sNil, gN, gSb, gT, gsNil, gsCons, eVar, eLit, eOp, eUn, eArgs, aNil, aCons, eIf, eAnd, eOr, eNot, tTru, tOp', tOfE, eChain, chainK, tNot', tAnd', tOr', ordD, addD, subD, negD, gcdD, mkTup, truD, blV, gcT_self, gcD_self, gcF_self, sizeLine_eq, hc, eMeth, methK, t, intD, modD, e, dv]
  · obtain ⟨xs, rfl, a, b⟩ := h
    refine ⟨cell, _, ?_, ⟨xs, rfl, a, by omega⟩⟩
    simp [g__law_digits_4, g__law_digits_3, retF, sSeq, contK, sIf, sAsg, sRet, sRetN, sExpr, sPar, sNil, gN, gSb, gT, gsNil, gsCons, eVar, eLit, eOp, eUn, eArgs, aNil, aCons, eIf, eAnd, eOr, eNot, tTru, tOp', tOfE, eChain, chainK, tNot', tAnd', tOr', ordD, addD, subD, negD, gcdD, mkTup, truD, blV, gcT_self, gcD_self, gcF_self, sizeLine_eq, hc]
theorem dig_loop1 : ∀ (l : List D) (M : Mem) (k : Nat) (cell : Int) (s0 s1 s2 s4 s6 s7 : Option D), Dg M k → k + l.length < 1000000 → ∃ (c : Int) (o : Option D) (M' : Mem), forG [] (gN 6) g__law_digits_4 l [s0, s1, s2, some (.ref 0), s4, some (.int cell), s6, s7] M = .ok (.nx [s0, s1, s2, some (.ref 0), s4, some (.int c), o, s7]) M' ∧ Dg M' (k + l.length) := by
  intro l
  induction l with
  | nil => intro M k cell s0 s1 s2 s4 s6 s7 h _; exact ⟨cell, s6, M, forG_nil, h⟩
  | cons x l ih =>
    intro M k cell s0 s1 s2 s4 s6 s7 h hk
    simp only [List.length_cons] at hk
    obtain ⟨c, M1, e1, d1⟩ := dig_turn1 (x := x) (cell := cell) (s0 := s0) (s1 := s1) (s2 := s2) (s4 := s4) (s6 := s6) (s7 := s7) h (by omega)
    obtain ⟨c2, o, M2, e2, d2⟩ := ih M1 (k + 1) c s0 s1 s2 s4 (some x) s7 d1 (by omega)
    refine ⟨c2, o, M2, ?_, by simp only [List.length_cons]; rw [show k + (l.length + 1) = k + 1 + l.length by omega]; exact d2⟩
    rw [forG_cons, e1, R.bind_ok]
    exact e2
theorem dig_turn2 {M : Mem} {k : Nat} {j seed : Int} {s0 s1 s2 s4 s5 s6 : Option D} (h : Dg M k) (hk : k < 1000000) : ∃ (c : Int) (M' : Mem), gcF M ((gN 6 (.int j) [s0, s1, s2, some (.ref 0), s4, s5, s6, some (.int seed)] M).bind fun ρ1 m1 => g__law_digits_7 ρ1 m1) = .ok (.nx [s0, s1, s2, some (.ref 0), s4, s5, some (.int j), some (.int c)]) M' ∧ Dg M' (k + 1) := by
  obtain ⟨c, ec⟩ : ∃ c : Int, c = (seed * 40014 + 11 * j + 7) % 2147483563 := ⟨_, rfl⟩
  obtain ⟨M', e, d, hl, t⟩ := dg_app (x := c / 1013 % 1009) h hk (Int.emod_nonneg _ (by omega)) (Int.emod_lt_of_pos _ (by omega))
  refine ⟨c, M', ?_, d⟩
  have m1 := mulD_ok (m := M) (mulOk_r (i := seed) (j := 40014) (by decide))
  have m2 := mulD_ok (m := M) (mulOk_l (i := 11) (j := j) (by decide))
  have dv := div_small (i := c) (j := 1013) (m := M) (by omega) (by omega)
  rw [← gcF_len (f := .nx [s0, s1, s2, some (.ref 0), s4, s5, some (.int j), some (.int c)]) hl]
  congr 1
  simp [g__law_digits_7, g__law_digits_5, g__law_digits_6, retF, sSeq, contK, sIf, sAsg, sRet, sRetN, sExpr, sPar, sNil, gN, gSb, gT, gsNil, gsCons, eVar, eLit, eOp, eUn, eArgs, aNil, aCons, eIf, eAnd, eOr, eNot, tTru, tOp', tOfE, eChain, chainK, tNot', tAnd', tOr', ordD, addD, subD, negD, gcdD, mkTup, truD, blV, gcT_self, gcD_self, gcF_self, sizeLine_eq, m1, m2, intD, modD, ← ec, dv, eMeth, methK, t, e]
theorem dig_loop2 : ∀ (l : List D) (M : Mem) (k : Nat) (seed : Int) (s0 s1 s2 s4 s5 s6 : Option D), Dg M k → k + l.length < 1000000 → (∀ x ∈ l, ∃ j : Int, x = .int j) → ∃ (c : Int) (o : Option D) (M' : Mem), forG [] (gN 6) g__law_digits_7 l [s0, s1, s2, some (.ref 0), s4, s5, s6, some (.int seed)] M = .ok (.nx [s0, s1, s2, some (.ref 0), s4, s5, o, some (.int c)]) M' ∧ Dg M' (k + l.length) := by
  intro l
  induction l with
  | nil => intro M k seed s0 s1 s2 s4 s5 s6 h _ _; exact ⟨seed, s6, M, forG_nil, h⟩
  | cons x l ih =>
    intro M k seed s0 s1 s2 s4 s5 s6 h hk hx
    simp only [List.length_cons] at hk
    obtain ⟨j, rfl⟩ := hx x List.mem_cons_self
    obtain ⟨c, M1, e1, d1⟩ := dig_turn2 (j := j) (seed := seed) (s0 := s0) (s1 := s1) (s2 := s2) (s4 := s4) (s5 := s5) (s6 := s6) h (by omega)
    obtain ⟨c2, o, M2, e2, d2⟩ := ih M1 (k + 1) c s0 s1 s2 s4 s5 (some (.int j)) d1 (by omega) fun y hy => hx y (List.mem_cons_of_mem _ hy)
    refine ⟨c2, o, M2, ?_, by simp only [List.length_cons]; rw [show k + (l.length + 1) = k + 1 + l.length by omega]; exact d2⟩
    rw [forG_cons, e1, R.bind_ok]
    exact e2
theorem rng_int (lo : Int) (n : Nat) : ∀ x ∈ rngD lo n, ∃ j : Nat, x = .int (lo + j) ∧ j < n := fun x hx => by
  unfold rngD at hx
  obtain ⟨k, hk, rfl⟩ := List.mem_map.mp hx
  exact ⟨k, rfl, List.mem_range.mp hk⟩
theorem rng_len (lo : Int) (n : Nat) : (rngD lo n).length = n := by unfold rngD; simp
theorem Dg.mono {M : Mem} {k j : Nat} (h : Dg M k) (l : k ≤ j) : Dg M j := let ⟨xs, e, a, b⟩ := h; ⟨xs, e, a, Nat.le_trans b l⟩
theorem dig_turn {M : Mem} {k j : Nat} {ns : List Int} {s1 s2 s4 s5 s6 s7 : Option D} (h : Dg M k) (hk : k + 60 < 1000000) : ∃ (t5 t6 t7 : Option D) (M' : Mem), gcF M ((gN 4 (.int j) [some (.fl (ns.map D.int)), s1, s2, some (.ref 0), s4, s5, s6, s7] M).bind fun ρ1 m1 => g__law_digits_12 ρ1 m1) = .ok (.nx [some (.fl (ns.map D.int)), s1, s2, some (.ref 0), some (.int j), t5, t6, t7]) M' ∧ Dg M' (k + 60) := by
  have st9 : ∃ c : Int, g__law_digits_9 [some (.fl (ns.map D.int)), s1, s2, some (.ref 0), some (.int j), s5, s6, s7] M = .ok (.nx [some (.fl (ns.map D.int)), s1, s2, some (.ref 0), some (.int j), some (.int c), s6, s7]) M := by
    by_cases hj : j < ns.length
    · have hx : ns[j]? = some ns[j] := List.getElem?_eq_getElem hj
      have k0 : ixD (.fl (ns.map D.int)) (.int j) M = some (.int ns[j], M) := by simp [ixD, atI_nat, hx]
      exact ⟨ns[j], by simp [g__law_digits_9, retF, sSeq, contK, sIf, sAsg, sRet, sRetN, sExpr, sPar, sNil, gN, gSb, gT, gsNil, gsCons, eVar, eLit, eOp, eUn, eArgs, aNil, aCons, eIf, eAnd, eOr, eNot, tTru, tOp', tOfE, eChain, chainK, tNot', tAnd', tOr', ordD, addD, subD, negD, gcdD, mkTup, truD, blV, gcT_self, gcD_self, gcF_self, sizeLine_eq, lenD, hj, k0]⟩
    · exact ⟨0, by simp [g__law_digits_9, retF, sSeq, contK, sIf, sAsg, sRet, sRetN, sExpr, sPar, sNil, gN, gSb, gT, gsNil, gsCons, eVar, eLit, eOp, eUn, eArgs, aNil, aCons, eIf, eAnd, eOr, eNot, tTru, tOp', tOfE, eChain, chainK, tNot', tAnd', tOr', ordD, addD, subD, negD, gcdD, mkTup, truD, blV, gcT_self, gcD_self, gcF_self, sizeLine_eq, lenD, hj]⟩
  obtain ⟨c0, e9⟩ := st9
  have st10 : ∃ c : Int, g__law_digits_10 [some (.fl (ns.map D.int)), s1, s2, some (.ref 0), some (.int j), some (.int c0), s6, s7] M = .ok (.nx [some (.fl (ns.map D.int)), s1, s2, some (.ref 0), some (.int j), some (.int c), s6, s7]) M := by
    have m1 := mulD_ok (m := M) (mulOk_l (i := 2) (j := c0) (by decide))
    by_cases hc : c0 < 0
    · exact ⟨1 - 2 * c0, by simp [g__law_digits_10, g__law_digits_1, retF, sSeq, contK, sIf, sAsg, sRet, sRetN, sExpr, sPar, sNil, gN, gSb, gT, gsNil, gsCons, eVar, eLit, eOp, eUn, eArgs, aNil, aCons, eIf, eAnd, eOr, eNot, tTru, tOp', tOfE, eChain, chainK, tNot', tAnd', tOr', ordD, addD, subD, negD, gcdD, mkTup, truD, blV, gcT_self, gcD_self, gcF_self, sizeLine_eq, hc, m1]⟩
    · exact ⟨c0, by simp [g__law_digits_10, g__law_digits_1, retF, sSeq, contK, sIf, sAsg, sRet, sRetN, sExpr, sPar, sNil, gN, gSb, gT, gsNil, gsCons, eVar, eLit, eOp, eUn, eArgs, aNil, aCons, eIf, eAnd, eOr, eNot, tTru, tOp', tOfE, eChain, chainK, tNot', tAnd', tOr', ordD, addD, subD, negD, gcdD, mkTup, truD, blV, gcT_self, gcD_self, gcF_self, sizeLine_eq, hc]⟩
  obtain ⟨c1, e10⟩ := st10
  have st11 : ∃ (t5 t6 t7 : Option D) (M' : Mem), g__law_digits_11 [some (.fl (ns.map D.int)), s1, s2, some (.ref 0), some (.int j), some (.int c1), s6, s7] M = .ok (.nx [some (.fl (ns.map D.int)), s1, s2, some (.ref 0), some (.int j), t5, t6, t7]) M' ∧ Dg M' (k + 60) := by
    by_cases hc : (1000000000000000000 : Int) ≤ c1
    · obtain ⟨c, o, M', e, d⟩ := dig_loop1 (rngD 0 60) M k c1 (some (.fl (ns.map D.int))) s1 s2 (some (.int j)) s6 s7 h (by rw [rng_len]; omega)
      rw [rng_len] at d
      exact ⟨some (.int c), o, s7, M', by simp [g__law_digits_11, retF, sSeq, contK, sIf, sAsg, sRet, sRetN, sExpr, sPar, sNil, gN, gSb, gT, gsNil, gsCons, eVar, eLit, eOp, eUn, eArgs, aNil, aCons, eIf, eAnd, eOr, eNot, tTru, tOp', tOfE, eChain, chainK, tNot', tAnd', tOr', ordD, addD, subD, negD, gcdD, mkTup, truD, blV, gcT_self, gcD_self, gcF_self, sizeLine_eq, hc, sFor, iRg1, e], d⟩
    · obtain ⟨sd, esd⟩ : ∃ sd : Int, sd = (c1 * 40699 + j * 52769 + 31) % 2147483399 := ⟨_, rfl⟩
      obtain ⟨c, o, M', e, d⟩ := dig_loop2 (rngD 0 12) M k sd (some (.fl (ns.map D.int))) s1 s2 (some (.int j)) (some (.int c1)) s6 h (by rw [rng_len]; omega) (fun x hx => let ⟨j, e, _⟩ := rng_int 0 12 x hx; ⟨_, e⟩)
      rw [rng_len] at d
      have m1 := mulD_ok (m := M) (mulOk_r (i := c1) (j := 40699) (by decide))
      have m2 := mulD_ok (m := M) (mulOk_r (i := (j : Int)) (j := 52769) (by decide))
      exact ⟨some (.int c1), o, some (.int c), M', by simp [g__law_digits_11, g__law_digits_8, retF, sSeq, contK, sIf, sAsg, sRet, sRetN, sExpr, sPar, sNil, gN, gSb, gT, gsNil, gsCons, eVar, eLit, eOp, eUn, eArgs, aNil, aCons, eIf, eAnd, eOr, eNot, tTru, tOp', tOfE, eChain, chainK, tNot', tAnd', tOr', ordD, addD, subD, negD, gcdD, mkTup, truD, blV, gcT_self, gcD_self, gcF_self, sizeLine_eq, hc, m1, m2, intD, modD, ← esd, sFor, iRg1, e], d.mono (by omega)⟩
  obtain ⟨t5, t6, t7, M', e11, d⟩ := st11
  refine ⟨t5, t6, t7, M', ?_, d⟩
  have hl : M'.length = M.length := by
    obtain ⟨_, rfl, _⟩ := d
    obtain ⟨_, rfl, _⟩ := h
    rfl
  rw [← gcF_len (f := .nx [some (.fl (ns.map D.int)), s1, s2, some (.ref 0), some (.int j), t5, t6, t7]) hl]
  congr 1
  show ((R.ok ([some (.fl (ns.map D.int)), s1, s2, some (.ref 0), s4, s5, s6, s7].set 4 (some (.int j))) M).bind fun ρ1 m1 => g__law_digits_12 ρ1 m1) = _
  simp only [List.set, R.bind_ok, g__law_digits_12, sSeq, e9, contK, e10, e11]
theorem dig_loop {ns : List Int} : ∀ (l : List D) (M : Mem) (k : Nat) (s1 s2 s4 s5 s6 s7 : Option D), Dg M k → k + 60 * l.length < 1000000 → (∀ x ∈ l, ∃ j : Nat, x = .int j) → ∃ (t4 t5 t6 t7 : Option D) (M' : Mem), forG [] (gN 4) g__law_digits_12 l [some (.fl (ns.map D.int)), s1, s2, some (.ref 0), s4, s5, s6, s7] M = .ok (.nx [some (.fl (ns.map D.int)), s1, s2, some (.ref 0), t4, t5, t6, t7]) M' ∧ Dg M' (k + 60 * l.length) := by
  intro l
  induction l with
  | nil => intro M k s1 s2 s4 s5 s6 s7 h _ _; exact ⟨s4, s5, s6, s7, M, forG_nil, h⟩
  | cons x l ih =>
    intro M k s1 s2 s4 s5 s6 s7 h hk hx
    simp only [List.length_cons] at hk
    obtain ⟨j, rfl⟩ := hx x List.mem_cons_self
    obtain ⟨t5, t6, t7, M1, e1, d1⟩ := dig_turn (j := j) (ns := ns) (s1 := s1) (s2 := s2) (s4 := s4) (s5 := s5) (s6 := s6) (s7 := s7) h (by omega)
    obtain ⟨u4, u5, u6, u7, M2, e2, d2⟩ := ih M1 (k + 60) s1 s2 (some (.int j)) t5 t6 t7 d1 (by omega) fun y hy => hx y (List.mem_cons_of_mem _ hy)
    refine ⟨u4, u5, u6, u7, M2, ?_, by simp only [List.length_cons]; rw [show k + 60 * (l.length + 1) = k + 60 + 60 * l.length by omega]; exact d2⟩
    rw [forG_cons, e1, R.bind_ok]
    exact e2
theorem s_digits (ns : List Int) : ∃ M, f__law_digits [.fl (ns.map D.int), .int 0, .int 63] [] = .ok (.ref 0) M ∧ Dg M 3780 := by
  obtain ⟨t4, t5, t6, t7, M, e, d⟩ := dig_loop (ns := ns) (rngD 0 63) [.lst []] 0 (some (.int 0)) (some (.int 63)) none none none none ⟨[], rfl, by simp, by simp⟩ (by rw [rng_len]; omega) (fun x hx => let ⟨j, e, _⟩ := rng_int 0 63 x hx; ⟨j, by rw [e]; congr 1; omega⟩)
  rw [rng_len] at d
  refine ⟨M, ?_, d⟩
  simp [f__law_digits, fnB, g__law_digits, retF, sSeq, contK, sIf, sAsg, sRet, sRetN, sExpr, sPar, sNil, gN, gSb, gT, gsNil, gsCons, eVar, eLit, eOp, eUn, eArgs, aNil, aCons, eIf, eAnd, eOr, eNot, tTru, tOp', tOfE, eChain, chainK, tNot', tAnd', tOr', ordD, addD, subD, negD, gcdD, mkTup, truD, blV, gcT_self, gcD_self, gcF_self, sizeLine_eq, mkLst, sFor, iRg2, rg2, e]
end K34
end Dw

namespace Dw
namespace K34
open PySem PySem.Spec PyProof.Rows L2
/-! common denominators -/
def cd (E : Nat) (n : Nat) (q : Rat) : Prop := 0 < E ∧ ∃ k : Int, q = (k : Rat) / (E : Rat) ∧ k.natAbs < 2 ^ n
theorem nat_pos {E : Nat} (h : 0 < E) : (E : Rat) ≠ 0 := by
  have : E ≠ 0 := by omega
  exact_mod_cast this
theorem cd.sz {E n d j : Nat} {q : Rat} (h : cd E n q) (hE : E < 2 ^ d) (h1 : n ≤ j) (h2 : d ≤ j) : sz j q := by
  obtain ⟨e, k, rfl, hk⟩ := h
  exact sz_div (t := k) (b := (E : Int)) (by omega) (n := n) (k := d) hk (by omega) h1 h2
theorem cd.mono {E n m : Nat} {q : Rat} (h : cd E n q) (l : n ≤ m) : cd E m q := by
  obtain ⟨e, k, h1, h2⟩ := h
  exact ⟨e, k, h1, Nat.lt_of_lt_of_le h2 (Nat.pow_le_pow_right (by omega) l)⟩
theorem cd.add {E n : Nat} {p q : Rat} (h : cd E n p) (g : cd E n q) : cd E (n + 1) (p + q) := by
  obtain ⟨e, k, rfl, hk⟩ := h
  obtain ⟨_, j, rfl, hj⟩ := g
  have e0 := nat_pos e
  refine ⟨e, k + j, ?_, ?_⟩
  · rw [Rat.intCast_add]; grind
  · have := Int.natAbs_add_le k j
    have := add_lt_pow hk hj (Nat.lt_succ_self _) (Nat.lt_succ_self _)
    omega
theorem cd.neg {E n : Nat} {q : Rat} (h : cd E n q) : cd E n (-q) := by
  obtain ⟨e, k, rfl, hk⟩ := h
  have e0 := nat_pos e
  refine ⟨e, -k, ?_, by omega⟩
  rw [Rat.intCast_neg]; grind
theorem cd.sub {E n : Nat} {p q : Rat} (h : cd E n p) (g : cd E n q) : cd E (n + 1) (p - q) := by
  rw [Rat.sub_eq_add_neg]; exact h.add g.neg
theorem cd.mul {E G n m : Nat} {p q : Rat} (h : cd E n p) (g : cd G m q) : cd (E * G) (n + m) (p * q) := by
  obtain ⟨e, k, rfl, hk⟩ := h
  obtain ⟨e', j, rfl, hj⟩ := g
  have e0 := nat_pos e
  have e1 := nat_pos e'
  refine ⟨Nat.mul_pos e e', k * j, ?_, ?_⟩
  · rw [Rat.intCast_mul, Rat.natCast_mul]; grind
  · rw [Int.natAbs_mul]; exact mul_lt_pow hk hj
theorem cd.scale {E G n g : Nat} {q : Rat} (h : cd E n q) (h0 : 0 < G) (hg : G < 2 ^ g) : cd (E * G) (n + g) q := by
  obtain ⟨e, k, rfl, hk⟩ := h
  have e0 := nat_pos e
  have e1 := nat_pos h0
  refine ⟨Nat.mul_pos e h0, k * (G : Int), ?_, ?_⟩
  · rw [Rat.intCast_mul, Rat.natCast_mul, Rat.intCast_natCast]; grind
  · rw [Int.natAbs_mul]; exact mul_lt_pow hk (by omega)
theorem cd.zero {E n : Nat} (h : 0 < E) : cd E n 0 := ⟨h, 0, by simp [Rat.div_def], by have := Nat.pow_pos (n := n) (show 0 < 2 by omega); simp; omega⟩
theorem cd.nat {k n : Nat} (h : k < 2 ^ n) : cd 1 n (k : Rat) := ⟨by omega, (k : Int), by rw [Rat.intCast_natCast]; grind, by omega⟩
/-! minus and times of the program and the law -/
theorem fr_neg (q : Rat) : fr (-q) = .tup [.int (-q.num), .int (q.den : Int)] := by unfold fr; rw [Rat.neg_num, Rat.neg_den]
theorem sz_neg {n : Nat} {q : Rat} (h : sz n q) : sz n (-q) := by unfold sz at *; rw [Rat.neg_num, Rat.neg_den, Int.natAbs_neg]; exact h
theorem c_minus {p q : Rat} {m : Mem} {n k : Nat} (hp : sz n p) (hq : sz k q) (h : n + k + 1 < 8000) : callD 2 f_minus [fr p, fr q] m = .ok (fr (p - q)) m := by
  have a := c_plus (m := m) hp (sz_neg hq) h
  rw [← Rat.sub_eq_add_neg, fr_neg] at a
  refine callD_pure rfl ?_
  simp [f_minus, fnB, g_minus, retF, sSeq, contK, sIf, sAsg, sRet, sRetN, sExpr, sPar, sNil, gN, gSb, gT, gsNil, gsCons, eVar, eLit, eOp, eUn, eArgs, aNil, aCons, eIf, eAnd, eOr, eNot, tTru, tOp', tOfE, eChain, chainK, tNot', tAnd', tOr', ordD, addD, subD, negD, gcdD, mkTup, truD, blV, gcT_self, gcD_self, gcF_self, sizeLine_eq, eCall, ixD_fr0, ixD_fr1, a]
theorem l_minus {p q : Rat} {m : Mem} {n k : Nat} (hp : sz n p) (hq : sz k q) (h : n + k < 1990) : callD 2 f__law_minus [fr p, fr q] m = .ok (fr (p - q)) m := by
  have e : p - q = ((p.num * q.den - q.num * p.den : Int) : Rat) / (((p.den : Int) * q.den : Int) : Rat) := by
    have h1 := num_eq p
    have h2 := num_eq q
    have h3 := den_rat p
    have h4 := den_rat q
    rw [Rat.intCast_sub, Rat.intCast_mul, Rat.intCast_mul, Rat.intCast_mul, h1, h2]
    grind
  have n2 : ((p.den : Int) * q.den).natAbs < 2 ^ (n + k) := by rw [Int.natAbs_mul]; exact mul_lt_pow hp.2 hq.2
  have dpos : (0 : Int) < (p.den : Int) * q.den := Int.mul_pos (by have := p.den_pos; omega) (by have := q.den_pos; omega)
  have m1 := mulD_ok (m := m) (mulOk_of (i := p.num) (j := (q.den : Int)) hp.1 hq.2 (by omega))
  have m3 := mulD_ok (m := m) (mulOk_of (i := q.num) (j := (p.den : Int)) hq.1 hp.2 (by omega))
  have m2 := mulD_ok (m := m) (mulOk_of (i := (p.den : Int)) (j := (q.den : Int)) hp.2 hq.2 (by omega))
  have l := c_frac (t := p.num * q.den - q.num * p.den) (b := (p.den : Int) * q.den) (m := m) (by omega) n2 (by omega)
  rw [← e] at l
  refine callD_pure rfl ?_
  simp [f__law_minus, fnB, g__law_minus, retF, sSeq, contK, sIf, sAsg, sRet, sRetN, sExpr, sPar, sNil, gN, gSb, gT, gsNil, gsCons, eVar, eLit, eOp, eUn, eArgs, aNil, aCons, eIf, eAnd, eOr, eNot, tTru, tOp', tOfE, eChain, chainK, tNot', tAnd', tOr', ordD, addD, subD, negD, gcdD, mkTup, truD, blV, gcT_self, gcD_self, gcF_self, sizeLine_eq, eCall, ixD_fr0, ixD_fr1, m1, m2, m3, l]
theorem l_times {p q : Rat} {m : Mem} {n k : Nat} (hp : sz n p) (hq : sz k q) (h : n + k < 1990) : callD 2 f__law_times [fr p, fr q] m = .ok (fr (p * q)) m := by
  have e : p * q = ((p.num * q.num : Int) : Rat) / (((p.den : Int) * (q.den : Int) : Int) : Rat) := by
    have h1 := num_eq p
    have h2 := num_eq q
    have h3 := den_rat p
    have h4 := den_rat q
    rw [Rat.intCast_mul, Rat.intCast_mul, h1, h2]
    grind
  have n2 : ((p.den : Int) * q.den).natAbs < 2 ^ (n + k) := by rw [Int.natAbs_mul]; exact mul_lt_pow hp.2 hq.2
  have dpos : (0 : Int) < (p.den : Int) * q.den := Int.mul_pos (by have := p.den_pos; omega) (by have := q.den_pos; omega)
  have m1 := mulD_ok (m := m) (mulOk_of (i := p.num) (j := q.num) hp.1 hq.1 (by omega))
  have m2 := mulD_ok (m := m) (mulOk_of (i := (p.den : Int)) (j := (q.den : Int)) hp.2 hq.2 (by omega))
  have l := c_frac (t := p.num * q.num) (b := (p.den : Int) * q.den) (m := m) (by omega) n2 (by omega)
  rw [← e] at l
  refine callD_pure rfl ?_
  simp [f__law_times, fnB, g__law_times, retF, sSeq, contK, sIf, sAsg, sRet, sRetN, sExpr, sPar, sNil, gN, gSb, gT, gsNil, gsCons, eVar, eLit, eOp, eUn, eArgs, aNil, aCons, eIf, eAnd, eOr, eNot, tTru, tOp', tOfE, eChain, chainK, tNot', tAnd', tOr', ordD, addD, subD, negD, gcdD, mkTup, truD, blV, gcT_self, gcD_self, gcF_self, sizeLine_eq, eCall, ixD_fr0, ixD_fr1, m1, m2, l]
theorem l_less {p q : Rat} {m : Mem} {n k : Nat} (hp : sz n p) (hq : sz k q) (h : n + k < 1990) : callD 2 f__law_less [fr p, fr q] m = .ok (.bl (decide (p < q))) m := by
  have m1 := mulD_ok (m := m) (mulOk_of (i := p.num) (j := (q.den : Int)) hp.1 hq.2 (by omega))
  have m3 := mulD_ok (m := m) (mulOk_of (i := q.num) (j := (p.den : Int)) hq.1 hp.2 (by omega))
  have e : decide (p.num * (q.den : Int) < q.num * (p.den : Int)) = decide (p < q) := by
    have := Rat.lt_iff p q
    by_cases h : p < q
    · simp [h, this.mp h]
    · have h2 : ¬ (p.num * (q.den : Int) < q.num * (p.den : Int)) := fun z => h (this.mpr z)
      simp [h, h2]
  refine callD_pure rfl ?_
  simp [f__law_less, fnB, g__law_less, retF, sSeq, contK, sIf, sAsg, sRet, sRetN, sExpr, sPar, sNil, gN, gSb, gT, gsNil, gsCons, eVar, eLit, eOp, eUn, eArgs, aNil, aCons, eIf, eAnd, eOr, eNot, tTru, tOp', tOfE, eChain, chainK, tNot', tAnd', tOr', ordD, addD, subD, negD, gcdD, mkTup, truD, blV, gcT_self, gcD_self, gcF_self, sizeLine_eq, eCall, ixD_fr0, ixD_fr1, m1, m3, e]
/-! sums -/
def sumR : List Rat → Rat
  | [] => 0
  | x :: l => x + sumR l
theorem forG_nilL {l : List (Nat × List D)} {tg : GG} {b : GS} {ρ : Env} {m : Mem} (h : LiveOk m l) : forG l tg b [] ρ m = .ok (.nx ρ) m := by
  unfold forG
  rw [if_pos h]
theorem forG_consL {l : List (Nat × List D)} {tg : GG} {b : GS} {x : D} {xs : List D} {ρ : Env} {m : Mem} (h : LiveOk m l) : forG l tg b (x :: xs) ρ m = (gcF m ((tg x ρ m).bind fun ρ1 m1 => b ρ1 m1)).bind fun f m2 => match f with
      | .nx ρ2 => forG l tg b xs ρ2 m2
      | .cnt ρ2 => forG l tg b xs ρ2 m2
      | .brk ρ2 => .ok (.nx ρ2) m2
      | .ret d => .ok (.ret d) m2 := by
  rw [forG, if_pos h] <;> rfl
theorem cd.sum {E n : Nat} (h0 : 0 < E) : ∀ {l : List Rat}, (∀ x ∈ l, cd E n x) → cd E (n + l.length) (sumR l)
  | [], _ => cd.zero h0
  | x :: l, h => by
    have h1 := h x List.mem_cons_self
    have h2 := cd.sum h0 (l := l) fun y hy => h y (List.mem_cons_of_mem _ hy)
    exact (h1.mono (Nat.le_add_right n l.length)).add h2
noncomputable def sumB : GS := sAsg (eCall 2 f__law_plus (aCons (eVar 1) (aCons (eVar 2) aNil))) (gN 1)
theorem sum_loop {E n d : Nat} {m : Mem} {lv : List (Nat × List D)} (hlv : LiveOk m lv) (hE : E < 2 ^ d) (hd : d < 900) : ∀ (l : List Rat) (k : Nat) (a : Rat) (o s : Option D), cd E k a → n ≤ k → k + l.length < 900 → (∀ x ∈ l, cd E n x) → ∃ o', forG lv (gN 2) sumB (l.map fr) [s, some (fr a), o] m = .ok (.nx [s, some (fr (a + sumR l)), o']) m := by
  intro l
  induction l with
  | nil => intro k a o s _ _ _ _; exact ⟨o, by rw [show a + sumR [] = a by show a + 0 = a; grind]; exact forG_nilL hlv⟩
  | cons x l ih =>
    intro k a o s ha hn hk hx
    simp only [List.length_cons] at hk
    have h1 := hx x List.mem_cons_self
    have z1 : sz 900 a := ha.sz hE (by omega) (by omega)
    have z2 : sz 900 x := h1.sz hE (by omega) (by omega)
    have p1 := l_plus (m := m) z1 z2 (by omega)
    obtain ⟨o', e⟩ := ih (k + 1) (a + x) (some (fr x)) s (ha.add (h1.mono hn)) (by omega) (by omega) fun y hy => hx y (List.mem_cons_of_mem _ hy)
    refine ⟨o', ?_⟩
    rw [List.map_cons, forG_consL hlv]
    have t : gcF m ((gN 2 (fr x) [s, some (fr a), o] m).bind fun ρ1 m1 => sumB ρ1 m1) = .ok (.nx [s, some (fr (a + x)), some (fr x)]) m := by
      simp [sumB, retF, sSeq, contK, sIf, sAsg, sRet, sRetN, sExpr, sPar, sNil, gN, gSb, gT, gsNil, gsCons, eVar, eLit, eOp, eUn, eArgs, aNil, aCons, eIf, eAnd, eOr, eNot, tTru, tOp', tOfE, eChain, chainK, tNot', tAnd', tOr', ordD, addD, subD, negD, gcdD, mkTup, truD, blV, gcT_self, gcD_self, gcF_self, sizeLine_eq, eCall, p1]
    rw [t, R.bind_ok]
    dsimp only
    rw [e, show a + x + sumR l = a + sumR (x :: l) by show a + x + sumR l = a + (x + sumR l); grind]
theorem l_sum {E n d p : Nat} {l : List Rat} {m : Mem} (hp : m[p]? = some (.lst (l.map fr))) (hE0 : 0 < E) (hE : E < 2 ^ d) (hd : d < 900) (hl : n + l.length < 890) (hx : ∀ x ∈ l, cd E n x) : callD 1 f__law_sum [.ref p] m = .ok (fr (sumR l)) m := by
  have lv : LiveOk m [(p, l.map fr)] := fun z hz => by rw [List.mem_singleton.mp hz]; simp [lstOf, hp]
  obtain ⟨o', e⟩ := sum_loop lv hE hd l n 0 none (some (.ref p)) (cd.zero hE0) (Nat.le_refl _) (by omega) hx
  rw [show (0 : Rat) + sumR l = sumR l by grind] at e
  refine callD_pure rfl ?_
  have z : fr 0 = .tup [.int 0, .int 1] := rfl
  rw [z] at e
  have b : sAsg (eCall 2 f__law_plus (aCons (eVar 1) (aCons (eVar 2) aNil))) (gN 1) = sumB := rfl
  unfold f__law_sum fnB g__law_sum
  rw [b]
  simp [retF, sSeq, contK, sIf, sAsg, sRet, sRetN, sExpr, sPar, sNil, gN, gSb, gT, gsNil, gsCons, eVar, eLit, eOp, eUn, eArgs, aNil, aCons, eIf, eAnd, eOr, eNot, tTru, tOp', tOfE, eChain, chainK, tNot', tAnd', tOr', ordD, addD, subD, negD, gcdD, mkTup, truD, blV, gcT_self, gcD_self, gcF_self, sizeLine_eq, sFor, iSeq, lstOf, hp, e]
end K34
end Dw

namespace Dw
namespace K34
open PySem PySem.Spec PyProof.Rows L2
theorem c_small {M : Mem} {b d n : Nat} (h : Bx M b d n) (hn : n + 2 < 1000000) : ∃ (q : Rat) (M' : Mem), callD 1 f__law_small [.ref b] M = .ok (fr q) M' ∧ cd 6 6 q ∧ Bx M' b d (n + 2) ∧ Same M M' b := by
  obtain ⟨r, M1, e1, r1, r2, b1, s1⟩ := c_draw (many := 13) h (by omega) (by omega)
  have b2 : Bx (M1 ++ [.lst [.int 1, .int 1, .int 1, .int 2, .int 3]]) b d (n + 1) := b1.app
  have hp : (M1 ++ [.lst [.int 1, .int 1, .int 1, .int 2, .int 3]])[M1.length]? = some (.lst (([1, 1, 1, 2, 3] : List Int).map D.int)) := by simp
  obtain ⟨c, M2, e2, c1, b3, s2⟩ := c_pick b2 (by omega) hp (by have := b1.lt.1; omega) (by simp)
  have hc : c = 1 ∨ c = 2 ∨ c = 3 := by
    simp only [List.mem_cons, List.not_mem_nil, or_false] at c1
    omega
  have l2 := s2.len
  simp only [List.length_append, List.length_cons, List.length_nil] at l2
  obtain ⟨q, eq⟩ : ∃ q : Rat, q = ((r - 6 : Int) : Rat) / (c : Rat) := ⟨_, rfl⟩
  have fq : ∀ m, callD 2 f__law_frac [.int (r - 6), .int c] m = .ok (fr q) m := fun m => by rw [eq]; exact c_frac (t := r - 6) (b := c) (m := m) (j := 2) (by omega) (by omega) (by omega)
  have b4 : Bx (M2.take M.length) b d (n + 2) := b3.take h.lt.1 h.lt.2
  have s4 : Same M (M2.take M.length) b := by
    refine ⟨by rw [List.length_take]; have := s1.len; omega, fun i hi => ?_⟩
    by_cases hl : i < M.length
    · rw [List.getElem?_take_of_lt hl, s2.at_ i hi, List.getElem?_append_left (by rw [s1.len]; exact hl), s1.at_ i hi]
    · rw [List.getElem?_eq_none (by rw [List.length_take]; omega), List.getElem?_eq_none (by omega)]
  have em : M2 = M2.take M.length ++ M2.drop M.length := (List.take_append_drop _ _).symm
  have qc : cd 6 6 q := by
    rw [eq]
    refine ⟨by omega, ?_⟩
    rcases hc with rfl | rfl | rfl
    · exact ⟨(r - 6) * 6, by rw [Rat.intCast_mul]; grind, by omega⟩
    · exact ⟨(r - 6) * 3, by rw [Rat.intCast_mul]; grind, by omega⟩
    · exact ⟨(r - 6) * 2, by rw [Rat.intCast_mul]; grind, by omega⟩
  refine ⟨q, M2.take M.length, callD_box (g := M2.drop M.length) rfl h b4 s4 ?_ rfl, qc, b4, s4⟩
  rw [← em]
  simp [f__law_small, fnB, g__law_small, retF, sSeq, contK, sIf, sAsg, sRet, sRetN, sExpr, sPar, sNil, gN, gSb, gT, gsNil, gsCons, eVar, eLit, eOp, eUn, eArgs, aNil, aCons, eIf, eAnd, eOr, eNot, tTru, tOp', tOfE, eChain, chainK, tNot', tAnd', tOr', ordD, addD, subD, negD, gcdD, mkTup, truD, blV, gcT_self, gcD_self, gcF_self, sizeLine_eq, eCall, e1, mkLst, e2, fq]
/-! points -/
theorem f_fr {q : Rat} {m : Mem} : callD 1 f_is_fraction [fr q] m = .ok (.bl true) m := by
  have z := f_two (a := q.num) (b := (q.den : Int)) (m := m)
  have e : (decide (1 ≤ (q.den : Int)) && decide (Nat.gcd q.num.natAbs (q.den : Int).natAbs = 1)) = true := by
    have := q.den_pos
    rw [Bool.and_eq_true]
    exact ⟨decide_eq_true (by omega), decide_eq_true q.reduced⟩
  rw [e] at z
  exact z
abbrev dP (p : Rat × Rat) : D := .tup [fr p.1, fr p.2]
theorem p_two {x y : D} {a b : Bool} {m : Mem} (hx : ∀ m, callD 1 f_is_fraction [x] m = .ok (.bl a) m) (hy : ∀ m, callD 1 f_is_fraction [y] m = .ok (.bl b) m) : callD 1 f_is_point [.tup [x, y]] m = .ok (.bl (a && b)) m := by
  refine callD_app (g := [.lst [.bl a, .bl b]]) rfl ?_ rfl
  have al : allD [.ref m.length] (m ++ [.lst [.bl a, .bl b]]) = some (.bl (a && b), m ++ [.lst [.bl a, .bl b]]) := by
    cases a <;> cases b <;> simp [allD, lstOf, blV]
  simp [f_is_point, fnB, g_is_point, retF, sSeq, contK, sIf, sAsg, sRet, sRetN, sExpr, sPar, sNil, gN, gSb, gT, gsNil, gsCons, eVar, eLit, eOp, eUn, eArgs, aNil, aCons, eIf, eAnd, eOr, eNot, tTru, tOp', tOfE, eChain, chainK, tNot', tAnd', tOr', ordD, addD, subD, negD, gcdD, mkTup, truD, blV, gcT_self, gcD_self, gcF_self, sizeLine_eq, isD1, tyB, lenD, eqD_int, eComp, iSeq, compG_nil, compG_cons, turnC, wipeE, gcO_self, keepD, R.noexc, tYes', eCall, hx, hy, al]
theorem p_fr (p : Rat × Rat) {m : Mem} : callD 1 f_is_point [dP p] m = .ok (.bl true) m := p_two (a := true) (b := true) (fun _ => f_fr) (fun _ => f_fr)
theorem p_non {m : Mem} : callD 1 f_is_point [.non] m = .ok (.bl false) m := callD_pure rfl (by simp [f_is_point, fnB, g_is_point, retF, sSeq, contK, sIf, sAsg, sRet, sRetN, sExpr, sPar, sNil, gN, gSb, gT, gsNil, gsCons, eVar, eLit, eOp, eUn, eArgs, aNil, aCons, eIf, eAnd, eOr, eNot, tTru, tOp', tOfE, eChain, chainK, tNot', tAnd', tOr', ordD, addD, subD, negD, gcdD, mkTup, truD, blV, gcT_self, gcD_self, gcF_self, sizeLine_eq, isD1, tyB])
theorem compG_map {lv : List (Nat × List D)} {tg : GG} {t : GT} {g : G} {ρ : Env} {m : Mem} {α : Type} {f : α → D} {h : α → D} (hlv : LiveOk m lv) : ∀ (L : List α) (acc : List D), (∀ x ∈ L, turnC tg t g (f x) ρ m = .ok (some (h x)) m) → compG lv tg t g ρ (L.map f) acc m = .ok (acc ++ L.map h) m
  | [], acc, _ => by
    rw [List.map_nil, compG, if_pos hlv]; simp
  | x :: L, acc, hx => by
    rw [List.map_cons, compG, if_pos hlv, hx x List.mem_cons_self, gcO_self, R.bind_ok, compG_map hlv L _ fun y hy => hx y (List.mem_cons_of_mem _ hy)]
    simp [keepD]
theorem all_true {p : Nat} {m : Mem} {α : Type} (L : List α) (h : m[p]? = some (.lst (L.map fun _ => .bl true))) : allD [.ref p] m = some (.bl true, m) := by
  have e : ∀ L : List α, ((L.map fun _ => D.bl true).mapM blV).map (fun bs => bs.all id) = some true := by
    intro L
    induction L with
    | nil => rfl
    | cons x L ih =>
      rw [List.map_cons, List.mapM_cons]
      cases hz : (L.map fun _ => D.bl true).mapM blV with
      | none => rw [hz] at ih; cases ih
      | some z =>
        rw [hz] at ih
        simp at ih
        simp [blV, hz]
        exact ih
  have z := e L
  simp only [allD, lstOf, h, Option.bind_some]
  cases hz : (L.map fun _ => D.bl true).mapM blV with
  | none => rw [hz] at z; cases z
  | some w =>
    rw [hz] at z
    simp at z
    simp [z]
theorem ck_pts {pts : List (Rat × Rat)} {m : Mem} (hl : pts.length ≤ 1000000) : callD 1 f_check_points [.tup (pts.map dP)] m = .ok .non m := by
  refine callD_pure rfl ?_
  have cm := compG_map (lv := []) (tg := gN 1) (t := tYes') (g := eCall 1 f_is_point (aCons (eVar 1) aNil)) (ρ := [some (.tup (pts.map dP)), none]) (m := m) (f := dP) (h := fun _ => .bl true) (fun p hp => nomatch hp) pts [] (fun x _ => by simp [turnC, retF, sSeq, contK, sIf, sAsg, sRet, sRetN, sExpr, sPar, sNil, gN, gSb, gT, gsNil, gsCons, eVar, eLit, eOp, eUn, eArgs, aNil, aCons, eIf, eAnd, eOr, eNot, tTru, tOp', tOfE, eChain, chainK, tNot', tAnd', tOr', ordD, addD, subD, negD, gcdD, mkTup, truD, blV, gcT_self, gcD_self, gcF_self, sizeLine_eq, tYes', eCall, p_fr])
  have al := all_true (p := m.length) (m := m ++ [.lst (pts.map fun _ => .bl true)]) pts (by simp)
  rw [List.nil_append] at cm
  have hl2 : pts.length ≤ 16777216 := by omega
  simp [f_check_points, fnB, g_check_points, retF, sSeq, contK, sIf, sAsg, sRet, sRetN, sExpr, sPar, sNil, gN, gSb, gT, gsNil, gsCons, eVar, eLit, eOp, eUn, eArgs, aNil, aCons, eIf, eAnd, eOr, eNot, tTru, tOp', tOfE, eChain, chainK, tNot', tAnd', tOr', ordD, addD, subD, negD, gcdD, mkTup, truD, blV, gcT_self, gcD_self, gcF_self, sizeLine_eq, isD1, tyB, eComp, iSeq, wipeE, R.noexc, hl2, cm, al, gcT_app]
/-! the best line -/
def sx (l : List (Rat × Rat)) : Rat := sumR (l.map (·.1))
def sy (l : List (Rat × Rat)) : Rat := sumR (l.map (·.2))
def sxx (l : List (Rat × Rat)) : Rat := sumR (l.map fun p => p.1 * p.1)
def sxy (l : List (Rat × Rat)) : Rat := sumR (l.map fun p => p.1 * p.2)
def Pt (p : Rat × Rat) : Prop := cd 6 6 p.1 ∧ cd 36 13 p.2
noncomputable def bsB : GS := sSeq (sPar 2 3 (eCall 2 f_plus (aCons (eVar 2) (aCons (eVar 6) aNil))) (eCall 2 f_plus (aCons (eVar 3) (aCons (eVar 7) aNil))))
      (sPar 4 5 (eCall 2 f_plus (aCons (eVar 4) (aCons (eCall 2 f_times (aCons (eVar 6) (aCons (eVar 6) aNil))) aNil))) (eCall 2 f_plus (aCons (eVar 5) (aCons (eCall 2 f_times (aCons (eVar 6) (aCons (eVar 7) aNil))) aNil))))
theorem bs_loop {m : Mem} : ∀ (l : List (Rat × Rat)) (k : Nat) (a b c e : Rat) (s0 s1 o6 o7 o8 o9 : Option D), cd 6 k a → cd 36 k b → cd 36 k c → cd 216 k e → 26 ≤ k → k + l.length < 900 → (∀ p ∈ l, Pt p) →
    ∃ o6' o7', forG [] (gT 2 (gsCons (gN 6) (gsCons (gN 7) gsNil))) bsB (l.map dP) [s0, s1, some (fr a), some (fr b), some (fr c), some (fr e), o6, o7, o8, o9] m = .ok (.nx [s0, s1, some (fr (a + sx l)), some (fr (b + sy l)), some (fr (c + sxx l)), some (fr (e + sxy l)), o6', o7', o8, o9]) m := by
  intro l
  induction l with
  | nil =>
    intro k a b c e s0 s1 o6 o7 o8 o9 _ _ _ _ _ _ _
    refine ⟨o6, o7, ?_⟩
    have z : ∀ q : Rat, q + 0 = q := fun q => by grind
    show forG [] _ _ [] _ m = .ok (.nx [s0, s1, some (fr (a + 0)), some (fr (b + 0)), some (fr (c + 0)), some (fr (e + 0)), o6, o7, o8, o9]) m
    rw [z, z, z, z, forG_nil]
  | cons p l ih =>
    intro k a b c e s0 s1 o6 o7 o8 o9 ha hb hc he hk hl hp
    simp only [List.length_cons] at hl
    obtain ⟨hx, hy⟩ := hp p List.mem_cons_self
    have xx := hx.mul hx
    have xy := hx.mul hy
    have sza : sz 900 a := ha.sz (d := 8) (by omega) (by omega) (by omega)
    have szb : sz 900 b := hb.sz (d := 8) (by omega) (by omega) (by omega)
    have szc : sz 900 c := hc.sz (d := 8) (by omega) (by omega) (by omega)
    have sze : sz 900 e := he.sz (d := 8) (by omega) (by omega) (by omega)
    have zx : sz 900 p.1 := hx.sz (d := 8) (by omega) (by omega) (by omega)
    have zy : sz 900 p.2 := hy.sz (d := 8) (by omega) (by omega) (by omega)
    have zxx : sz 900 (p.1 * p.1) := xx.sz (d := 8) (by omega) (by omega) (by omega)
    have zxy : sz 900 (p.1 * p.2) := xy.sz (d := 8) (by omega) (by omega) (by omega)
    have e1 := c_plus (m := m) sza zx (by omega)
    have e2 := c_plus (m := m) szb zy (by omega)
    have e3 := c_times (m := m) zx zx (by omega)
    have e4 := c_times (m := m) zx zy (by omega)
    have e5 := c_plus (m := m) szc zxx (by omega)
    have e6 := c_plus (m := m) sze zxy (by omega)
    have t : gcF m ((gT 2 (gsCons (gN 6) (gsCons (gN 7) gsNil)) (dP p) [s0, s1, some (fr a), some (fr b), some (fr c), some (fr e), o6, o7, o8, o9] m).bind fun ρ1 m1 => bsB ρ1 m1) = .ok (.nx [s0, s1, some (fr (a + p.1)), some (fr (b + p.2)), some (fr (c + p.1 * p.1)), some (fr (e + p.1 * p.2)), some (fr p.1), some (fr p.2), o8, o9]) m := by
      simp [bsB, retF, sSeq, contK, sIf, sAsg, sRet, sRetN, sExpr, sPar, sNil, gN, gSb, gT, gsNil, gsCons, eVar, eLit, eOp, eUn, eArgs, aNil, aCons, eIf, eAnd, eOr, eNot, tTru, tOp', tOfE, eChain, chainK, tNot', tAnd', tOr', ordD, addD, subD, negD, gcdD, mkTup, truD, blV, gcT_self, gcD_self, gcF_self, sizeLine_eq, eCall, e1, e2, e3, e4, e5, e6]
    obtain ⟨o6', o7', ee⟩ := ih (k + 1) (a + p.1) (b + p.2) (c + p.1 * p.1) (e + p.1 * p.2) s0 s1 (some (fr p.1)) (some (fr p.2)) o8 o9 (ha.add (hx.mono (by omega))) (hb.add (hy.mono (by omega))) (hc.add (xx.mono (by omega))) (he.add (xy.mono (by omega))) (by omega) (by omega) fun q hq => hp q (List.mem_cons_of_mem _ hq)
    refine ⟨o6', o7', ?_⟩
    rw [List.map_cons, forG_cons, t, R.bind_ok]
    dsimp only
    rw [ee]
    have q1 : a + p.1 + sx l = a + sx (p :: l) := by show _ = a + (p.1 + sx l); grind
    have q2 : b + p.2 + sy l = b + sy (p :: l) := by show _ = b + (p.2 + sy l); grind
    have q3 : c + p.1 * p.1 + sxx l = c + sxx (p :: l) := by show _ = c + (p.1 * p.1 + sxx l); grind
    have q4 : e + p.1 * p.2 + sxy l = e + sxy (p :: l) := by show _ = e + (p.1 * p.2 + sxy l); grind
    rw [q1, q2, q3, q4]
end K34
end Dw

namespace Dw
namespace K34
open PySem PySem.Spec PyProof.Rows L2
theorem eqv_pair (a b c d : Int) : PyData.eqv (.tuple [.int a, .int b]) (.tuple [.int c, .int d]) = (decide (a = c) && decide (b = d)) := by
  show ((a == c) && ((b == d) && true)) = _
  rw [Bool.and_true]
  rfl
theorem eqvD_fr (p q : Rat) (m : Mem) : eqvD m (fr p) (fr q) = some (decide (p = q)) := by
  show (if SeqAt.shaped (pyF p) = true ∧ SeqAt.shaped (pyF q) = true then some (PyData.eqv (pyF p) (pyF q)) else none) = _
  rw [if_pos ⟨rfl, rfl⟩]
  congr 1
  rw [show PyData.eqv (pyF p) (pyF q) = (decide (p.num = q.num) && decide ((p.den : Int) = (q.den : Int))) from eqv_pair _ _ _ _]
  by_cases h : p = q
  · subst h; simp
  · by_cases h1 : p.num = q.num
    · have h2 : ¬ ((p.den : Int) = (q.den : Int)) := fun z => h (Rat.ext h1 (by omega))
      simp [h, h1]
      omega
    · simp [h, h1]
theorem eqD_fr {p q : Rat} {m : Mem} : eqD (fr p) (fr q) m = some (.bl (decide (p = q)), m) := by unfold eqD; rw [eqvD_fr]; rfl
theorem neD_fr {p q : Rat} {m : Mem} : neD (fr p) (fr q) m = some (.bl (!decide (p = q)), m) := by unfold neD; rw [eqvD_fr]; rfl
theorem eqD_z {p : Rat} {m : Mem} : eqD (fr p) (.tup [.int 0, .int 1]) m = some (.bl (decide (p = 0)), m) := eqD_fr (q := 0)
theorem neD_z {p : Rat} {m : Mem} : neD (fr p) (.tup [.int 0, .int 1]) m = some (.bl (!decide (p = 0)), m) := neD_fr (q := 0)
theorem fr_zero : fr 0 = .tup [.int 0, .int 1] := rfl
theorem fr_nat (n : Nat) : fr (n : Rat) = .tup [.int n, .int 1] := by unfold fr; rw [Rat.num_natCast, Rat.den_natCast]; rfl
/-! the spread of the flows -/
def vv (l : List (Rat × Rat)) : Rat := (l.length : Rat) * sxx l - sx l * sx l
def ww (x : Rat) (l : List (Rat × Rat)) : Rat := sumR (l.map fun p => (x - p.1) * (x - p.1))
theorem sq_nonneg (x : Rat) : 0 ≤ x * x := by
  rcases (Rat.le_total : (0 : Rat) ≤ x ∨ x ≤ 0) with h | h
  · exact Rat.mul_nonneg h h
  · have h2 : 0 ≤ -x := by grind
    have := Rat.mul_nonneg h2 h2
    grind
theorem sq_zero {x : Rat} (h : x * x = 0) : x = 0 := by
  rcases Rat.mul_eq_zero.mp h with h | h <;> exact h
theorem sumR_nonneg : ∀ {l : List Rat}, (∀ x ∈ l, 0 ≤ x) → 0 ≤ sumR l
  | [], _ => by show (0 : Rat) ≤ 0; grind
  | x :: l, h => by
    have h1 := h x List.mem_cons_self
    have h2 := sumR_nonneg (l := l) fun y hy => h y (List.mem_cons_of_mem _ hy)
    show 0 ≤ x + sumR l
    grind
theorem ww_eq (x : Rat) : ∀ l : List (Rat × Rat), ww x l = (l.length : Rat) * (x * x) - 2 * x * sx l + sxx l
  | [] => by show (0 : Rat) = ((0 : Nat) : Rat) * (x * x) - 2 * x * 0 + 0; grind
  | p :: l => by
    have ih := ww_eq x l
    show (x - p.1) * (x - p.1) + ww x l = (((l.length + 1 : Nat)) : Rat) * (x * x) - 2 * x * (p.1 + sx l) + (p.1 * p.1 + sxx l)
    rw [ih, Rat.natCast_add]
    have : ((1 : Nat) : Rat) = 1 := rfl
    rw [this]
    grind
theorem ww_nonneg (x : Rat) (l : List (Rat × Rat)) : 0 ≤ ww x l := sumR_nonneg fun y hy => by
  obtain ⟨p, _, rfl⟩ := List.mem_map.mp hy
  exact sq_nonneg _
theorem ww_zero {x : Rat} : ∀ {l : List (Rat × Rat)}, ww x l = 0 → ∀ p ∈ l, p.1 = x
  | q :: l, h, p, hp => by
    have h0 : (x - q.1) * (x - q.1) + ww x l = 0 := h
    have h1 := sq_nonneg (x - q.1)
    have h2 := ww_nonneg x l
    have h3 : (x - q.1) * (x - q.1) = 0 := by grind
    have h4 : ww x l = 0 := by grind
    rcases List.mem_cons.mp hp with rfl | hp
    · have := sq_zero h3; grind
    · exact ww_zero h4 p hp
theorem ww_all {x : Rat} : ∀ {l : List (Rat × Rat)}, (∀ p ∈ l, p.1 = x) → ww x l = 0
  | [], _ => rfl
  | q :: l, h => by
    have h1 := h q List.mem_cons_self
    have h2 := ww_all (l := l) fun p hp => h p (List.mem_cons_of_mem _ hp)
    show (x - q.1) * (x - q.1) + ww x l = 0
    rw [h1, h2]; grind
theorem vv_cons (p : Rat × Rat) (l : List (Rat × Rat)) : vv (p :: l) = vv l + ww p.1 l := by
  rw [ww_eq]
  show (((l.length + 1 : Nat)) : Rat) * (p.1 * p.1 + sxx l) - (p.1 + sx l) * (p.1 + sx l) = (l.length : Rat) * sxx l - sx l * sx l + ((l.length : Rat) * (p.1 * p.1) - 2 * p.1 * sx l + sxx l)
  rw [Rat.natCast_add]
  have : ((1 : Nat) : Rat) = 1 := rfl
  rw [this]
  grind
theorem vv_nonneg : ∀ l : List (Rat × Rat), 0 ≤ vv l
  | [] => by show (0 : Rat) ≤ ((0 : Nat) : Rat) * 0 - 0 * 0; grind
  | p :: l => by
    have := vv_nonneg l
    have := ww_nonneg p.1 l
    rw [vv_cons]; grind
theorem vv_all {x : Rat} : ∀ {l : List (Rat × Rat)}, (∀ p ∈ l, p.1 = x) → vv l = 0
  | [], _ => by show ((0 : Nat) : Rat) * 0 - 0 * 0 = (0 : Rat); grind
  | p :: l, h => by
    have h1 := h p List.mem_cons_self
    have h2 := fun q hq => h q (List.mem_cons_of_mem _ hq)
    rw [vv_cons, vv_all h2, h1, ww_all h2]; grind
theorem vv_zero {p : Rat × Rat} {l : List (Rat × Rat)} : vv (p :: l) = 0 ↔ ∀ q ∈ p :: l, q.1 = p.1 := by
  constructor
  · intro h q hq
    rw [vv_cons] at h
    have h1 := vv_nonneg l
    have h2 := ww_nonneg p.1 l
    have h3 : ww p.1 l = 0 := by grind
    rcases List.mem_cons.mp hq with rfl | hq
    · rfl
    · exact ww_zero h3 q hq
  · exact fun h => vv_all h
/-! the line -/
def slp (l : List (Rat × Rat)) : Rat := ((l.length : Rat) * sxy l - sx l * sy l) / vv l
def stt (l : List (Rat × Rat)) : Rat := (sy l - slp l * sx l) / (l.length : Rat)
theorem cd_sums {l : List (Rat × Rat)} (hp : ∀ p ∈ l, Pt p) (hl : l.length ≤ 6) : cd 6 32 (sx l) ∧ cd 36 32 (sy l) ∧ cd 36 32 (sxx l) ∧ cd 216 32 (sxy l) := by
  have key : ∀ (E : Nat) (f : Rat × Rat → Rat), 0 < E → (∀ p ∈ l, cd E 26 (f p)) → cd E 32 (sumR (l.map f)) := fun E f h0 h => by
    have z := cd.sum (E := E) (n := 26) h0 (l := l.map f) fun x hx => by
      obtain ⟨p, hm, rfl⟩ := List.mem_map.mp hx
      exact h p hm
    have hm : (l.map f).length = l.length := List.length_map ..
    exact z.mono (by omega)
  exact ⟨key 6 (·.1) (by omega) fun p h => (hp p h).1.mono (by omega), key 36 (·.2) (by omega) fun p h => (hp p h).2.mono (by omega), key 36 (fun p => p.1 * p.1) (by omega) fun p h => ((hp p h).1.mul (hp p h).1).mono (by omega), key 216 (fun p => p.1 * p.2) (by omega) fun p h => ((hp p h).1.mul (hp p h).2).mono (by omega)⟩
/-- dividing -/
theorem cd_div {E G n m : Nat} {p q : Rat} (hp : cd E n p) (hq : cd G m q) (q0 : 0 < q) (hG : G < 2 ^ g) : ∃ B : Nat, 0 < B ∧ B < 2 ^ m ∧ q = (B : Rat) / (G : Rat) ∧ cd (E * B) (n + g) (p / q) := by
  obtain ⟨e, k, rfl, hk⟩ := hp
  obtain ⟨e', j, rfl, hj⟩ := hq
  have e0 := nat_pos e
  have e1 := nat_pos e'
  have jp : 0 < j := by
    have hg : (0 : Rat) < (G : Rat) := by exact_mod_cast e'
    have : (0 : Rat) < (j : Rat) := by
      have := Rat.mul_pos q0 hg
      have e2 : (j : Rat) / (G : Rat) * (G : Rat) = (j : Rat) := by grind
      rw [e2] at this
      exact this
    exact_mod_cast this
  obtain ⟨B, rfl⟩ : ∃ B : Nat, j = (B : Int) := ⟨j.toNat, by omega⟩
  have b0 : 0 < B := by omega
  have e2 := nat_pos b0
  refine ⟨B, b0, by omega, by rw [Rat.intCast_natCast], Nat.mul_pos e b0, k * (G : Int), ?_, ?_⟩
  · rw [Rat.intCast_mul, Rat.natCast_mul, Rat.intCast_natCast, Rat.intCast_natCast]; grind
  · rw [Int.natAbs_mul]; exact mul_lt_pow hk (by omega)
theorem len_pos {l : List (Rat × Rat)} (h : 0 < l.length) : (0 : Rat) < (l.length : Rat) := by exact_mod_cast h
theorem cd_vv {l : List (Rat × Rat)} (hp : ∀ p ∈ l, Pt p) (hl : l.length ≤ 6) : cd 36 65 (vv l) ∧ cd 36 64 ((l.length : Rat) * sxx l) ∧ cd 36 64 (sx l * sx l) ∧ cd 216 64 ((l.length : Rat) * sxy l) ∧ cd 216 64 (sx l * sy l) := by
  obtain ⟨a, b, c, e⟩ := cd_sums hp hl
  have n := cd.nat (k := l.length) (n := 3) (by omega)
  have h1 := (n.mul c).mono (m := 64) (by omega)
  have h2 := a.mul a
  have h3 := (n.mul e).mono (m := 64) (by omega)
  have h4 := a.mul b
  exact ⟨h1.sub h2, h1, h2, h3, h4⟩

theorem c_best {l : List (Rat × Rat)} {m : Mem} (h1 : 0 < l.length) (hl : l.length ≤ 6) (hp : ∀ p ∈ l, Pt p) :
    callD 1 f_best_straight [.tup (l.map dP)] m = .ok (if vv l = 0 then .non else .tup [fr (slp l), fr (stt l)]) m := by
  obtain ⟨a, b, c, e⟩ := cd_sums hp hl
  obtain ⟨v, v1, v2, v3, v4⟩ := cd_vv hp hl
  have za : sz 400 (sx l) := a.sz (d := 8) (by omega) (by omega) (by omega)
  have zb : sz 400 (sy l) := b.sz (d := 8) (by omega) (by omega) (by omega)
  have zc : sz 400 (sxx l) := c.sz (d := 8) (by omega) (by omega) (by omega)
  have ze : sz 400 (sxy l) := e.sz (d := 8) (by omega) (by omega) (by omega)
  have zv : sz 400 (vv l) := v.sz (d := 8) (by omega) (by omega) (by omega)
  have zn : sz 400 (l.length : Rat) := (cd.nat (k := l.length) (n := 3) (by omega)).sz (d := 1) (by omega) (by omega) (by omega)
  have z1 : sz 400 ((l.length : Rat) * sxx l) := v1.sz (d := 8) (by omega) (by omega) (by omega)
  have z2 : sz 400 (sx l * sx l) := v2.sz (d := 8) (by omega) (by omega) (by omega)
  have z3 : sz 400 ((l.length : Rat) * sxy l) := v3.sz (d := 8) (by omega) (by omega) (by omega)
  have z4 : sz 400 (sx l * sy l) := v4.sz (d := 8) (by omega) (by omega) (by omega)
  have z5 : sz 400 ((l.length : Rat) * sxy l - sx l * sy l) := (v3.sub v4).sz (d := 8) (by omega) (by omega) (by omega)
  have t1 := c_times (m := m) zn zc (by omega)
  have t2 := c_times (m := m) za za (by omega)
  have t3 := c_minus (m := m) z1 z2 (by omega)
  have ev : (l.length : Rat) * sxx l - sx l * sx l = vv l := rfl
  rw [ev] at t3
  have ck := ck_pts (pts := l) (m := m) (by omega)
  have z : ∀ q : Rat, 0 + q = q := fun q => by grind
  obtain ⟨o6, o7, lp⟩ := bs_loop (m := m) l 26 0 0 0 0 (some (.tup (l.map dP))) (some (.tup [.int l.length, .int 1])) none none none none (cd.zero (by omega)) (cd.zero (by omega)) (cd.zero (by omega)) (cd.zero (by omega)) (Nat.le_refl _) (by omega) hp
  rw [z, z, z, z, fr_zero, ← fr_nat] at lp
  have bd : (sSeq (sPar 2 3 (eCall 2 f_plus (aCons (eVar 2) (aCons (eVar 6) aNil))) (eCall 2 f_plus (aCons (eVar 3) (aCons (eVar 7) aNil)))) (sPar 4 5 (eCall 2 f_plus (aCons (eVar 4) (aCons (eCall 2 f_times (aCons (eVar 6) (aCons (eVar 6) aNil))) aNil))) (eCall 2 f_plus (aCons (eVar 5) (aCons (eCall 2 f_times (aCons (eVar 6) (aCons (eVar 7) aNil))) aNil)))) : GS) = bsB := rfl
  have ne : l ≠ [] := List.length_pos_iff.mp h1
  refine callD_pure rfl ?_
  unfold f_best_straight fnB g_best_straight
  rw [bd]
  have fn := fr_nat l.length
  by_cases hv : vv l = 0
  · simp [retF, sSeq, contK, sIf, sAsg, sRet, sRetN, sExpr, sPar, sNil, gN, gSb, gT, gsNil, gsCons, eVar, eLit, eOp, eUn, eArgs, aNil, aCons, eIf, eAnd, eOr, eNot, tTru, tOp', tOfE, eChain, chainK, tNot', tAnd', tOr', ordD, addD, subD, negD, gcdD, mkTup, truD, blV, gcT_self, gcD_self, gcF_self, sizeLine_eq, eCall, ck, ne, lenD, sFor, iSeq, ← fn, lp, t1, t2, t3, eqD_z, hv]
  · have v0 : 0 < vv l := by have := vv_nonneg l; grind
    obtain ⟨B, B0, Bs, eB, sc⟩ := cd_div (g := 6) (v3.sub v4) v v0 (by omega)
    have es : ((l.length : Rat) * sxy l - sx l * sy l) / vv l = slp l := rfl
    rw [es] at sc
    have Bd : 216 * B < 2 ^ 73 := by omega
    have zs : sz 400 (slp l) := sc.sz Bd (by omega) (by omega)
    have c1 := sc.mul a
    have Bd2 : 216 * B * 6 < 2 ^ 76 := by omega
    have z6 : sz 400 (slp l * sx l) := c1.sz Bd2 (by omega) (by omega)
    have c2 : cd (216 * B * 6) 110 (sy l) := by
      have q := (b.scale (G := 36 * B) (g := 71) (by omega) (by omega)).mono (m := 110) (by omega)
      rw [show 36 * (36 * B) = 216 * B * 6 by omega] at q
      exact q
    have c3 := c2.sub (c1.mono (m := 110) (by omega))
    have z7 : sz 400 (sy l - slp l * sx l) := c3.sz Bd2 (by omega) (by omega)
    have t4 := c_times (m := m) zn ze (by omega)
    have t5 := c_times (m := m) za zb (by omega)
    have t6 := c_minus (m := m) z3 z4 (by omega)
    have t7 := c_over (m := m) z5 zv v0 (by omega)
    have t8 := c_times (m := m) zs za (by omega)
    have t9 := c_minus (m := m) zb z6 (by omega)
    have ta := c_over (m := m) z7 zn (len_pos h1) (by omega)
    rw [es] at t7
    have et : (sy l - slp l * sx l) / (l.length : Rat) = stt l := rfl
    rw [et] at ta
    simp [retF, sSeq, contK, sIf, sAsg, sRet, sRetN, sExpr, sPar, sNil, gN, gSb, gT, gsNil, gsCons, eVar, eLit, eOp, eUn, eArgs, aNil, aCons, eIf, eAnd, eOr, eNot, tTru, tOp', tOfE, eChain, chainK, tNot', tAnd', tOr', ordD, addD, subD, negD, gcdD, mkTup, truD, blV, gcT_self, gcD_self, gcF_self, sizeLine_eq, eCall, ck, ne, lenD, sFor, iSeq, ← fn, lp, t1, t2, t3, eqD_z, hv, t4, t5, t6, t7, t8, t9, ta]
end K34
end Dw

namespace Dw
namespace K34
open PySem PySem.Spec PyProof.Rows L2
/-! what is left over of a line -/
def res (sl st : Rat) (p : Rat × Rat) : Rat := p.2 - (st + sl * p.1)
structure LnP (E : Nat) (sl st : Rat) (p : Rat × Rat) : Prop where
  x : sz 400 p.1
  y : sz 400 p.2
  a : sz 400 (sl * p.1)
  b : sz 400 (st + sl * p.1)
  r : cd E 200 (res sl st p)
structure Ln (E : Nat) (sl st : Rat) (l : List (Rat × Rat)) : Prop where
  e0 : 0 < E
  e : E < 2 ^ 200
  zs : sz 400 sl
  zt : sz 400 st
  p : ∀ p ∈ l, LnP E sl st p
def ssq (sl st : Rat) (l : List (Rat × Rat)) : Rat := sumR (l.map fun p => res sl st p * res sl st p)
theorem sq_lt {E : Nat} (h : E < 2 ^ 200) : E * E < 2 ^ 400 := mul_lt_pow (n := 200) (k := 200) h h
noncomputable def ssB : GS := sSeq (sAsg (eCall 2 f_minus (aCons (eVar 5) (aCons (eCall 2 f_plus (aCons (eVar 2) (aCons (eCall 2 f_times (aCons (eVar 1) (aCons (eVar 4) aNil))) aNil))) aNil))) (gN 6))
      (sAsg (eCall 2 f_plus (aCons (eVar 3) (aCons (eCall 2 f_times (aCons (eVar 6) (aCons (eVar 6) aNil))) aNil))) (gN 3))
theorem ss_loop {m : Mem} {E : Nat} {sl st : Rat} (hE : E < 2 ^ 200) (hs : sz 400 sl) (ht : sz 400 st) : ∀ (l : List (Rat × Rat)) (k : Nat) (a : Rat) (s0 o4 o5 o6 : Option D), cd (E * E) k a → 400 ≤ k → k + l.length < 890 → (∀ p ∈ l, LnP E sl st p) →
    ∃ o4' o5' o6', forG [] (gT 2 (gsCons (gN 4) (gsCons (gN 5) gsNil))) ssB (l.map dP) [s0, some (fr sl), some (fr st), some (fr a), o4, o5, o6] m = .ok (.nx [s0, some (fr sl), some (fr st), some (fr (a + ssq sl st l)), o4', o5', o6']) m := by
  intro l
  induction l with
  | nil =>
    intro k a s0 o4 o5 o6 _ _ _ _
    refine ⟨o4, o5, o6, ?_⟩
    show forG [] _ _ [] _ m = .ok (.nx [s0, some (fr sl), some (fr st), some (fr (a + 0)), o4, o5, o6]) m
    rw [show a + 0 = a by grind, forG_nil]
  | cons p l ih =>
    intro k a s0 o4 o5 o6 ha hk hl hp
    simp only [List.length_cons] at hl
    obtain ⟨zx, zy, za, zb, cr⟩ := hp p List.mem_cons_self
    have zr : sz 400 (res sl st p) := cr.sz hE (by omega) (by omega)
    have crr := cr.mul cr
    have zrr : sz 400 (res sl st p * res sl st p) := crr.sz (sq_lt hE) (by omega) (by omega)
    have zacc : sz 900 a := ha.sz (sq_lt hE) (by omega) (by omega)
    have e1 := c_times (m := m) hs zx (by omega)
    have e2 := c_plus (m := m) ht za (by omega)
    have e3 := c_minus (m := m) zy zb (by omega)
    have er : p.2 - (st + sl * p.1) = res sl st p := rfl
    rw [er] at e3
    have e4 := c_times (m := m) zr zr (by omega)
    have e5 := c_plus (m := m) zacc zrr (by omega)
    have t : gcF m ((gT 2 (gsCons (gN 4) (gsCons (gN 5) gsNil)) (dP p) [s0, some (fr sl), some (fr st), some (fr a), o4, o5, o6] m).bind fun ρ1 m1 => ssB ρ1 m1) = .ok (.nx [s0, some (fr sl), some (fr st), some (fr (a + res sl st p * res sl st p)), some (fr p.1), some (fr p.2), some (fr (res sl st p))]) m := by
      simp [ssB, retF, sSeq, contK, sIf, sAsg, sRet, sRetN, sExpr, sPar, sNil, gN, gSb, gT, gsNil, gsCons, eVar, eLit, eOp, eUn, eArgs, aNil, aCons, eIf, eAnd, eOr, eNot, tTru, tOp', tOfE, eChain, chainK, tNot', tAnd', tOr', ordD, addD, subD, negD, gcdD, mkTup, truD, blV, gcT_self, gcD_self, gcF_self, sizeLine_eq, eCall, e1, e2, e3, e4, e5]
    obtain ⟨o4', o5', o6', ee⟩ := ih (k + 1) (a + res sl st p * res sl st p) s0 (some (fr p.1)) (some (fr p.2)) (some (fr (res sl st p))) (ha.add (crr.mono (by omega))) (by omega) (by omega) fun q hq => hp q (List.mem_cons_of_mem _ hq)
    refine ⟨o4', o5', o6', ?_⟩
    rw [List.map_cons, forG_cons, t, R.bind_ok]
    dsimp only
    rw [ee, show a + res sl st p * res sl st p + ssq sl st l = a + ssq sl st (p :: l) by show _ = a + (res sl st p * res sl st p + ssq sl st l); grind]
theorem c_ssq {l : List (Rat × Rat)} {m : Mem} {E : Nat} {sl st : Rat} (h : Ln E sl st l) (hl : l.length ≤ 6) : callD 3 f_squares_sum [.tup (l.map dP), fr sl, fr st] m = .ok (fr (ssq sl st l)) m := by
  have ck := ck_pts (pts := l) (m := m) (by omega)
  obtain ⟨o4, o5, o6, lp⟩ := ss_loop (m := m) h.e h.zs h.zt l 400 0 (some (.tup (l.map dP))) none none none (cd.zero (Nat.mul_pos h.e0 h.e0)) (Nat.le_refl _) (by omega) h.p
  rw [show (0 : Rat) + ssq sl st l = ssq sl st l by grind, fr_zero] at lp
  have bd : (sSeq (sAsg (eCall 2 f_minus (aCons (eVar 5) (aCons (eCall 2 f_plus (aCons (eVar 2) (aCons (eCall 2 f_times (aCons (eVar 1) (aCons (eVar 4) aNil))) aNil))) aNil))) (gN 6)) (sAsg (eCall 2 f_plus (aCons (eVar 3) (aCons (eCall 2 f_times (aCons (eVar 6) (aCons (eVar 6) aNil))) aNil))) (gN 3)) : GS) = ssB := rfl
  refine callD_pure rfl ?_
  unfold f_squares_sum fnB g_squares_sum
  rw [bd]
  simp [retF, sSeq, contK, sIf, sAsg, sRet, sRetN, sExpr, sPar, sNil, gN, gSb, gT, gsNil, gsCons, eVar, eLit, eOp, eUn, eArgs, aNil, aCons, eIf, eAnd, eOr, eNot, tTru, tOp', tOfE, eChain, chainK, tNot', tAnd', tOr', ordD, addD, subD, negD, gcdD, mkTup, truD, blV, gcT_self, gcD_self, gcF_self, sizeLine_eq, eCall, ck, f_fr, sFor, iSeq, lp]
/-- the lines that are asked about -/
theorem ln_small {l : List (Rat × Rat)} {sl st : Rat} (hs : cd 6 6 sl) (ht : cd 6 6 st) (hp : ∀ p ∈ l, Pt p) : Ln 36 sl st l := by
  refine ⟨by omega, by omega, hs.sz (d := 8) (by omega) (by omega) (by omega), ht.sz (d := 8) (by omega) (by omega) (by omega), fun p hm => ?_⟩
  obtain ⟨hx, hy⟩ := hp p hm
  have c1 := hs.mul hx
  have c2 := (ht.scale (G := 6) (g := 3) (by omega) (by omega)).mono (m := 12) (by omega)
  have c3 := c2.add c1
  exact ⟨hx.sz (d := 8) (by omega) (by omega) (by omega), hy.sz (d := 8) (by omega) (by omega) (by omega), c1.sz (d := 8) (by omega) (by omega) (by omega), c3.sz (d := 8) (by omega) (by omega) (by omega), (hy.sub c3).mono (by omega)⟩
theorem ln_best {l : List (Rat × Rat)} (h1 : 0 < l.length) (hl : l.length ≤ 6) (hp : ∀ p ∈ l, Pt p) (hv : vv l ≠ 0) : ∃ E, Ln E (slp l) (stt l) l ∧ ∀ dl, cd 6 6 dl → Ln E (slp l + dl) (stt l) l ∧ sz 400 dl := by
  obtain ⟨a, b, c, e⟩ := cd_sums hp hl
  obtain ⟨v, v1, v2, v3, v4⟩ := cd_vv hp hl
  have v0 : 0 < vv l := by have := vv_nonneg l; grind
  obtain ⟨B, B0, Bs, eB, sc⟩ := cd_div (g := 6) (v3.sub v4) v v0 (by omega)
  have es : ((l.length : Rat) * sxy l - sx l * sy l) / vv l = slp l := rfl
  rw [es] at sc
  have c1 := sc.mul a
  have c2 : cd (216 * B * 6) 110 (sy l) := by
    have q := (b.scale (G := 36 * B) (g := 71) (by omega) (by omega)).mono (m := 110) (by omega)
    rw [show 36 * (36 * B) = 216 * B * 6 by omega] at q
    exact q
  have c3 := c2.sub (c1.mono (m := 110) (by omega))
  obtain ⟨C, C0, Cs, eC, c4⟩ := cd_div (g := 1) c3 (cd.nat (k := l.length) (n := 3) (by omega)) (len_pos h1) (by omega)
  have et : (sy l - slp l * sx l) / (l.length : Rat) = stt l := rfl
  rw [et] at c4
  obtain ⟨E, hE⟩ : ∃ E, E = 216 * B * 6 * C := ⟨_, rfl⟩
  have BC : B * C < 2 ^ 68 := mul_lt_pow (n := 65) (k := 3) Bs Cs
  have BC0 : 0 < B * C := Nat.mul_pos B0 C0
  have eE : E = 1296 * (B * C) := by rw [hE, show 216 * B * 6 = 1296 * B by omega, Nat.mul_assoc]
  have E0 : 0 < E := by omega
  have Es : E < 2 ^ 79 := by omega
  rw [← hE] at c4
  have zst : sz 400 (stt l) := c4.sz Es (by omega) (by omega)
  have C8 : C < 8 := by omega
  have gen : ∀ s : Rat, cd (216 * B) 90 s → Ln E s (stt l) l := fun s hs => by
    have B9 : 216 * B < 2 ^ 73 := by omega
    refine ⟨E0, by omega, hs.sz B9 (by omega) (by omega), zst, fun p hm => ?_⟩
    obtain ⟨hx, hy⟩ := hp p hm
    have d1 := hs.mul hx
    have d2 := (d1.scale (G := C) (g := 3) C0 (by omega)).mono (m := 113) (by omega)
    rw [← hE] at d2
    have d3 := (c4.mono (m := 113) (by omega)).add d2
    have d4 : cd E 114 p.2 := by
      have q := (hy.scale (G := 36 * (B * C)) (g := 74) (by omega) (by omega)).mono (m := 114) (by omega)
      rw [show 36 * (36 * (B * C)) = E by omega] at q
      exact q
    exact ⟨hx.sz (d := 8) (by omega) (by omega) (by omega), hy.sz (d := 8) (by omega) (by omega) (by omega), d2.sz Es (by omega) (by omega), d3.sz Es (by omega) (by omega), (d4.sub d3).mono (by omega)⟩
  refine ⟨E, gen _ (sc.mono (by omega)), fun dl hd => ⟨gen _ ?_, hd.sz (d := 8) (by omega) (by omega) (by omega)⟩⟩
  have q := (hd.scale (G := 36 * B) (g := 71) (by omega) (by omega)).mono (m := 89) (by omega)
  rw [show 6 * (36 * B) = 216 * B by omega] at q
  exact (sc.mono (m := 89) (by omega)).add q
/-! the normal equations -/
theorem sum_res (sl st : Rat) : ∀ l : List (Rat × Rat), sumR (l.map (res sl st)) = sy l - ((l.length : Rat) * st + sl * sx l)
  | [] => by show (0 : Rat) = 0 - (((0 : Nat) : Rat) * st + sl * 0); grind
  | p :: l => by
    have ih := sum_res sl st l
    show res sl st p + sumR (l.map (res sl st)) = (p.2 + sy l) - ((((l.length + 1 : Nat)) : Rat) * st + sl * (p.1 + sx l))
    rw [ih, Rat.natCast_add]
    have : ((1 : Nat) : Rat) = 1 := rfl
    rw [this]
    unfold res
    grind
theorem sum_lean (sl st : Rat) : ∀ l : List (Rat × Rat), sumR (l.map fun p => res sl st p * p.1) = sxy l - (st * sx l + sl * sxx l)
  | [] => by show (0 : Rat) = 0 - (st * 0 + sl * 0); grind
  | p :: l => by
    have ih := sum_lean sl st l
    show res sl st p * p.1 + sumR (l.map fun p => res sl st p * p.1) = (p.1 * p.2 + sxy l) - (st * (p.1 + sx l) + sl * (p.1 * p.1 + sxx l))
    rw [ih]
    unfold res
    grind
theorem best_zero {l : List (Rat × Rat)} (h1 : 0 < l.length) (hv : vv l ≠ 0) : sumR (l.map (res (slp l) (stt l))) = 0 ∧ sumR (l.map fun p => res (slp l) (stt l) p * p.1) = 0 := by
  have n0 := len_pos h1
  have n1 : (l.length : Rat) ≠ 0 := by grind
  obtain ⟨n, en⟩ : ∃ n, n = (l.length : Rat) := ⟨_, rfl⟩
  obtain ⟨s, es⟩ : ∃ s, s = slp l := ⟨_, rfl⟩
  have h2 : s * vv l = n * sxy l - sx l * sy l := by rw [es, en]; unfold slp; grind
  have h3 : n * stt l = sy l - s * sx l := by rw [es, en]; unfold stt; grind
  have h4 : vv l = n * sxx l - sx l * sx l := by rw [en]; rfl
  rw [← en] at n1
  constructor
  · rw [sum_res, ← en, ← es, h3]; grind
  · rw [sum_lean, ← es]
    have h5 : n * (sxy l - (stt l * sx l + s * sxx l)) = 0 := by grind
    rcases Rat.mul_eq_zero.mp h5 with h | h
    · exact absurd h n1
    · exact h
theorem ssq_more (sl st dl : Rat) : ∀ l : List (Rat × Rat), ssq (sl + dl) st l = ssq sl st l - 2 * dl * sumR (l.map fun p => res sl st p * p.1) + dl * dl * sxx l
  | [] => by show (0 : Rat) = 0 - 2 * dl * 0 + dl * dl * 0; grind
  | p :: l => by
    have ih := ssq_more sl st dl l
    show res (sl + dl) st p * res (sl + dl) st p + ssq (sl + dl) st l = (res sl st p * res sl st p + ssq sl st l) - 2 * dl * (res sl st p * p.1 + sumR (l.map fun p => res sl st p * p.1)) + dl * dl * (p.1 * p.1 + sxx l)
    rw [ih]
    unfold res
    grind
theorem best_least {l : List (Rat × Rat)} (h1 : 0 < l.length) (hv : vv l ≠ 0) (dl : Rat) : ¬ (ssq (slp l + dl) (stt l) l < ssq (slp l) (stt l) l) := by
  rw [ssq_more, (best_zero h1 hv).2]
  have h2 : 0 ≤ sxx l := sumR_nonneg fun y hy => by
    obtain ⟨p, _, rfl⟩ := List.mem_map.mp hy
    exact sq_nonneg _
  have h3 := Rat.mul_nonneg (sq_nonneg dl) h2
  grind
end K34
end Dw

namespace Dw
namespace K34
open PySem PySem.Spec PyProof.Rows L2
theorem gcO_len {m m' : Mem} {o : Option D} (h : m'.length = m.length) : gcO m (.ok o m') = .ok o m' := gcR_same h
theorem gcT_len {m m' : Mem} {b : Bool} (h : m'.length = m.length) : gcT m (.ok b m') = .ok b m' := gcR_same h
theorem gcF_len' {m m' : Mem} {f : Fl} (h : m'.length = m.length) : gcF m (.ok f m') = .ok f m' := gcR_same h
/-! points drawn -/
theorem Bx.set {M : Mem} {b d n P : Nat} {c : Cell} (h : Bx M b d n) (h1 : P ≠ b) (h2 : P ≠ d) : Bx (M.set P c) b d n := by
  refine ⟨?_, ?_, h.ne⟩
  · obtain ⟨a, e, l⟩ := h.box; exact ⟨a, by rw [List.getElem?_set_ne h1]; exact e, l⟩
  · obtain ⟨xs, e, l⟩ := h.dig; exact ⟨xs, by rw [List.getElem?_set_ne h2]; exact e, l⟩
structure Pp (M : Mem) (P : Nat) (pts : List (Rat × Rat)) : Prop where
  at_ : M[P]? = some (.lst (pts.map dP))
  pt : ∀ p ∈ pts, Pt p
theorem pt_turn {M : Mem} {b d n P : Nat} {pts : List (Rat × Rat)} {x : D} {o : Bool} {fl sp sta : Rat} {kd : Int} {s0 s2 s9 s10 s11 s12 s13 s14 s15 s16 s17 s18 : Option D} (h : Bx M b d n) (hn : n + 4 < 1000000) (hb : P ≠ b) (hd : P ≠ d) (hP : Pp M P pts) (hl : pts.length < 1000) (hf : cd 6 6 fl) (hs : cd 6 6 sp) (ht : cd 6 6 sta) :
    ∃ (p : Rat × Rat) (h10 h11 : D) (M' : Mem), gcF M ((gN 9 x [s0, some (.ref b), s2, some (.bl o), some (.ref P), some (fr fl), some (fr sp), some (fr sta), some (.int kd), s9, s10, s11, s12, s13, s14, s15, s16, s17, s18] M).bind fun ρ1 m1 => g_law_4 ρ1 m1) = .ok (.nx [s0, some (.ref b), s2, some (.bl o), some (.ref P), some (fr fl), some (fr sp), some (fr sta), some (.int kd), some x, some h10, some h11, s12, s13, s14, s15, s16, s17, s18]) M' ∧ Bx M' b d (n + 4) ∧ Pp M' P (pts ++ [p]) ∧ M'.length = M.length := by
  have hPl : P < M.length := (List.getElem?_eq_some_iff.mp hP.at_).1
  have st1 : ∃ (q : Rat) (M1 : Mem), g_law_1 [s0, some (.ref b), s2, some (.bl o), some (.ref P), some (fr fl), some (fr sp), some (fr sta), some (.int kd), some x, s10, s11, s12, s13, s14, s15, s16, s17, s18] M = .ok (.nx [s0, some (.ref b), s2, some (.bl o), some (.ref P), some (fr fl), some (fr sp), some (fr sta), some (.int kd), some x, some (fr q), s11, s12, s13, s14, s15, s16, s17, s18]) M1 ∧ cd 6 6 q ∧ Bx M1 b d (n + 2) ∧ Same M M1 b := by
    cases o with
    | true => exact ⟨fl, M, by simp [g_law_1, retF, sSeq, contK, sIf, sAsg, sRet, sRetN, sExpr, sPar, sNil, gN, gSb, gT, gsNil, gsCons, eVar, eLit, eOp, eUn, eArgs, aNil, aCons, eIf, eAnd, eOr, eNot, tTru, tOp', tOfE, eChain, chainK, tNot', tAnd', tOr', ordD, addD, subD, negD, gcdD, mkTup, truD, blV, gcT_self, gcD_self, gcF_self, sizeLine_eq], hf, h.mono (by omega), Same.refl⟩
    | false =>
      obtain ⟨q, M1, e, c, b1, s1⟩ := c_small h (by omega)
      exact ⟨q, M1, by simp [g_law_1, retF, sSeq, contK, sIf, sAsg, sRet, sRetN, sExpr, sPar, sNil, gN, gSb, gT, gsNil, gsCons, eVar, eLit, eOp, eUn, eArgs, aNil, aCons, eIf, eAnd, eOr, eNot, tTru, tOp', tOfE, eChain, chainK, tNot', tAnd', tOr', ordD, addD, subD, negD, gcdD, mkTup, truD, blV, gcT_self, gcD_self, gcF_self, sizeLine_eq, eCall, e], c, b1, s1⟩
  obtain ⟨q, M1, e1, hq, b1, s1⟩ := st1
  have c1 := hs.mul hq
  have c2 := (ht.scale (G := 6) (g := 3) (by omega) (by omega)).mono (m := 12) (by omega)
  have c3 := c2.add c1
  have t1 := l_times (m := M1) (hs.sz (d := 8) (j := 400) (by omega) (by omega) (by omega)) (hq.sz (d := 8) (j := 400) (by omega) (by omega) (by omega)) (by omega)
  have t2 := l_plus (m := M1) (ht.sz (d := 8) (j := 400) (by omega) (by omega) (by omega)) (c1.sz (d := 8) (j := 400) (by omega) (by omega) (by omega)) (by omega)
  have e2 : g_law_2 [s0, some (.ref b), s2, some (.bl o), some (.ref P), some (fr fl), some (fr sp), some (fr sta), some (.int kd), some x, some (fr q), s11, s12, s13, s14, s15, s16, s17, s18] M1 = .ok (.nx [s0, some (.ref b), s2, some (.bl o), some (.ref P), some (fr fl), some (fr sp), some (fr sta), some (.int kd), some x, some (fr q), some (fr (sta + sp * q)), s12, s13, s14, s15, s16, s17, s18]) M1 := by
    simp [g_law_2, retF, sSeq, contK, sIf, sAsg, sRet, sRetN, sExpr, sPar, sNil, gN, gSb, gT, gsNil, gsCons, eVar, eLit, eOp, eUn, eArgs, aNil, aCons, eIf, eAnd, eOr, eNot, tTru, tOp', tOfE, eChain, chainK, tNot', tAnd', tOr', ordD, addD, subD, negD, gcdD, mkTup, truD, blV, gcT_self, gcD_self, gcF_self, sizeLine_eq, eCall, t1, t2]
  have st3 : ∃ (y : Rat) (M2 : Mem), (eIf (tOp' eqD (eVar 8) (eLit (.int 0))) (eVar 11) (eCall 1 f__law_small (aCons (eVar 1) aNil))) [s0, some (.ref b), s2, some (.bl o), some (.ref P), some (fr fl), some (fr sp), some (fr sta), some (.int kd), some x, some (fr q), some (fr (sta + sp * q)), s12, s13, s14, s15, s16, s17, s18] M1 = .ok (fr y) M2 ∧ cd 36 13 y ∧ Bx M2 b d (n + 4) ∧ Same M1 M2 b := by
    by_cases hk : kd = 0
    · exact ⟨sta + sp * q, M1, by simp [retF, sSeq, contK, sIf, sAsg, sRet, sRetN, sExpr, sPar, sNil, gN, gSb, gT, gsNil, gsCons, eVar, eLit, eOp, eUn, eArgs, aNil, aCons, eIf, eAnd, eOr, eNot, tTru, tOp', tOfE, eChain, chainK, tNot', tAnd', tOr', ordD, addD, subD, negD, gcdD, mkTup, truD, blV, gcT_self, gcD_self, gcF_self, sizeLine_eq, eqD_int, hk], c3, b1.mono (by omega), Same.refl⟩
    · obtain ⟨y, M2, e, c, b2, s2'⟩ := c_small b1 (by omega)
      exact ⟨y, M2, by simp [retF, sSeq, contK, sIf, sAsg, sRet, sRetN, sExpr, sPar, sNil, gN, gSb, gT, gsNil, gsCons, eVar, eLit, eOp, eUn, eArgs, aNil, aCons, eIf, eAnd, eOr, eNot, tTru, tOp', tOfE, eChain, chainK, tNot', tAnd', tOr', ordD, addD, subD, negD, gcdD, mkTup, truD, blV, gcT_self, gcD_self, gcF_self, sizeLine_eq, eqD_int, hk, eCall, e], (c.scale (G := 6) (g := 3) (by omega) (by omega)).mono (m := 13) (by omega), b2, s2'⟩
  obtain ⟨y, M2, e3, hy, b2, s2'⟩ := st3
  have a1 : M1[P]? = some (.lst (pts.map dP)) := by rw [s1.at_ P hb]; exact hP.at_
  have a2 : M2[P]? = some (.lst (pts.map dP)) := by rw [s2'.at_ P hb]; exact a1
  have ty : tyD "list" (.ref P) M1 = true := by simp [tyD, a1]
  have hl2 : pts.length < 16777216 := by omega
  have ap : appD (.ref P) [.tup [fr q, fr y]] M2 = some (.non, M2.set P (.lst (pts.map dP ++ [.tup [fr q, fr y]]))) := by
    simp [appD, a2, sizeLine_eq, hl2]
  have e4 : g_law_3 [s0, some (.ref b), s2, some (.bl o), some (.ref P), some (fr fl), some (fr sp), some (fr sta), some (.int kd), some x, some (fr q), some (fr (sta + sp * q)), s12, s13, s14, s15, s16, s17, s18] M1 = .ok (.nx [s0, some (.ref b), s2, some (.bl o), some (.ref P), some (fr fl), some (fr sp), some (fr sta), some (.int kd), some x, some (fr q), some (fr (sta + sp * q)), s12, s13, s14, s15, s16, s17, s18]) (M2.set P (.lst (pts.map dP ++ [.tup [fr q, fr y]]))) := by
    unfold g_law_3
    generalize hG : eIf (tOp' eqD (eVar 8) (eLit (.int 0))) (eVar 11) (eCall 1 f__law_small (aCons (eVar 1) aNil)) = G at e3 ⊢
    simp [sExpr, eMeth, methK, eVar, ty, eArgs, aCons, aNil, e3, mkTup, sizeLine_eq, ap]
  have hlen : (M2.set P (.lst (pts.map dP ++ [.tup [fr q, fr y]]))).length = M.length := by rw [List.length_set, s2'.len, s1.len]
  refine ⟨(q, y), fr q, fr (sta + sp * q), _, ?_, b2.set hb hd, ⟨?_, ?_⟩, hlen⟩
  · rw [← gcF_len' (f := .nx [s0, some (.ref b), s2, some (.bl o), some (.ref P), some (fr fl), some (fr sp), some (fr sta), some (.int kd), some x, some (fr q), some (fr (sta + sp * q)), s12, s13, s14, s15, s16, s17, s18]) hlen]
    congr 1
    show ((R.ok ([s0, some (.ref b), s2, some (.bl o), some (.ref P), some (fr fl), some (fr sp), some (fr sta), some (.int kd), s9, s10, s11, s12, s13, s14, s15, s16, s17, s18].set 9 (some x)) M).bind fun ρ1 m1 => g_law_4 ρ1 m1) = _
    simp only [List.set, R.bind_ok, g_law_4, sSeq, e1, contK, e2, e4]
  · rw [List.getElem?_set_self (by rw [s2'.len, s1.len]; exact hPl), List.map_append]; rfl
  · intro p hp
    rcases List.mem_append.mp hp with hp | hp
    · exact hP.pt p hp
    · rw [List.mem_singleton.mp hp]; exact ⟨hq, hy⟩
theorem pt_loop : ∀ (l : List D) (M : Mem) (b d n P : Nat) (pts : List (Rat × Rat)) (o : Bool) (fl sp sta : Rat) (kd : Int) (s0 s2 s9 s10 s11 s12 s13 s14 s15 s16 s17 s18 : Option D), Bx M b d n → n + 4 * l.length < 1000000 → P ≠ b → P ≠ d → Pp M P pts → pts.length + l.length < 1000 → cd 6 6 fl → cd 6 6 sp → cd 6 6 sta →
    ∃ (pts' : List (Rat × Rat)) (t9 t10 t11 : Option D) (M' : Mem), forG [] (gN 9) g_law_4 l [s0, some (.ref b), s2, some (.bl o), some (.ref P), some (fr fl), some (fr sp), some (fr sta), some (.int kd), s9, s10, s11, s12, s13, s14, s15, s16, s17, s18] M = .ok (.nx [s0, some (.ref b), s2, some (.bl o), some (.ref P), some (fr fl), some (fr sp), some (fr sta), some (.int kd), t9, t10, t11, s12, s13, s14, s15, s16, s17, s18]) M' ∧ Bx M' b d (n + 4 * l.length) ∧ Pp M' P pts' ∧ pts'.length = pts.length + l.length ∧ M'.length = M.length := by
  intro l
  induction l with
  | nil => intro M b d n P pts o fl sp sta kd s0 s2 s9 s10 s11 s12 s13 s14 s15 s16 s17 s18 h _ _ _ hP _ _ _ _; exact ⟨pts, s9, s10, s11, M, forG_nil, h, hP, rfl, rfl⟩
  | cons x l ih =>
    intro M b d n P pts o fl sp sta kd s0 s2 s9 s10 s11 s12 s13 s14 s15 s16 s17 s18 h hn hb hd hP hl hf hs ht
    simp only [List.length_cons] at hn hl
    obtain ⟨p, h10, h11, M1, e1, b1, p1, l1⟩ := pt_turn (x := x) (o := o) (kd := kd) (s0 := s0) (s2 := s2) (s9 := s9) (s10 := s10) (s11 := s11) (s12 := s12) (s13 := s13) (s14 := s14) (s15 := s15) (s16 := s16) (s17 := s17) (s18 := s18) h (by omega) hb hd hP (by omega) hf hs ht
    obtain ⟨pts', t9, t10, t11, M2, e2, b2, p2, l2, l3⟩ := ih M1 b d (n + 4) P (pts ++ [p]) o fl sp sta kd s0 s2 (some x) (some h10) (some h11) s12 s13 s14 s15 s16 s17 s18 b1 (by omega) hb hd p1 (by rw [List.length_append, List.length_singleton]; omega) hf hs ht
    refine ⟨pts', t9, t10, t11, M2, ?_, ?_, p2, ?_, l3.trans l1⟩
    · rw [forG_cons, e1, R.bind_ok]; exact e2
    · simp only [List.length_cons]; rw [show n + 4 * (l.length + 1) = n + 4 + 4 * l.length by omega]; exact b2
    · rw [l2, List.length_append, List.length_singleton, List.length_cons]; omega
end K34
end Dw

namespace Dw
namespace K34
open PySem PySem.Spec PyProof.Rows L2
theorem compG_filter {lv : List (Nat × List D)} {tg : GG} {t : GT} {g : G} {ρ : Env} {m : Mem} {α : Type} {f : α → D} {c : α → Bool} (hlv : LiveOk m lv) : ∀ (L : List α) (acc : List D), (∀ x ∈ L, turnC tg t g (f x) ρ m = .ok (if c x then some (f x) else none) m) → compG lv tg t g ρ (L.map f) acc m = .ok (acc ++ (L.filter c).map f) m
  | [], acc, _ => by
    rw [List.map_nil, compG, if_pos hlv]; simp
  | x :: L, acc, hx => by
    rw [List.map_cons, compG, if_pos hlv, hx x List.mem_cons_self, gcO_self, R.bind_ok, compG_filter hlv L _ fun y hy => hx y (List.mem_cons_of_mem _ hy)]
    cases h : c x <;> simp [keepD, h]
def pyP (p : Rat × Rat) : PyData := .tuple [pyF p.1, pyF p.2]
theorem lay_pts : ∀ F : List (Rat × Rat), PyData.canLayAll0 (F.map pyP) = true
  | [] => rfl
  | p :: F => by
    show (PyData.canLay0 (pyP p) && PyData.canLayAll0 (F.map pyP)) = true
    rw [lay_pts F]; rfl
theorem depth_pts : ∀ F : List (Rat × Rat), PyData.depthAll (F.map pyP) ≤ 3
  | [] => by simp [PyData.depthAll]
  | p :: F => by
    have ih := depth_pts F
    simp only [List.map_cons, PyData.depthAll]
    have : PyData.depth (pyP p) ≤ 3 := by simp [pyP, pyF, PyData.depth, PyData.depthAll]
    omega
theorem mapM_pts (k : Nat) (m : Mem) : ∀ F : List (Rat × Rat), (F.map dP).mapM (toP (k + 3) m) = some (F.map pyP)
  | [] => rfl
  | p :: F => by
    rw [List.map_cons, List.mapM_cons, mapM_pts k m F]
    rfl
theorem eq_nil {m : Mem} {n k : Nat} {F : List (Rat × Rat)} (h : m[n]? = some (.lst (F.map dP))) (h' : m[k]? = some (.lst [])) : eqD (.ref n) (.ref k) m = some (.bl F.isEmpty, m) := by
  have e1 : toP 66 m (.ref n) = some (.list (F.map pyP)) := by
    unfold toP
    simp only [h]
    rw [mapM_pts 62]; rfl
  have e2 : toP 66 m (.ref k) = some (.list []) := by
    unfold toP
    simp [h']
  have s1 : SeqAt.shaped (.list (F.map pyP)) = true := by
    unfold SeqAt.shaped
    rw [Bool.and_eq_true]
    refine ⟨lay_pts F, decide_eq_true ?_⟩
    have := depth_pts F
    simp only [PyData.depth]
    omega
  unfold eqD eqvD
  simp only [e1, e2]
  rw [if_pos ⟨s1, rfl⟩]
  cases F <;> rfl
/-! row of two -/
theorem l_row2 {p q : Rat} {m : Mem} {n : Nat} (hp : sz n p) (hq : sz n q) (hn : 2 * n + 2 ≤ 4000) : callD 2 f__law_row [.tup [fr p, fr q], .int 2] m = .ok (.bl true) m := by
  refine callD_pure rfl ?_
  have r1 := fun a b c d => row_one (m := m) (o1 := a) (o2 := b) (o3 := c) (o4 := d) hp hn
  have r2 := fun a b c d => row_one (m := m) (o1 := a) (o2 := b) (o3 := c) (o4 := d) hq hn
  unfold f__law_row fnB g__law_row sFor
  generalize hB : (sSeq (sIf (tOr' (tNot' (tTru (eUn (isD1 .tuple) (eVar 2)))) _) _ _) _ : GS) = B at r1 r2 ⊢
  have t0 : (sIf (tOr' (tNot' (tTru (eUn (isD1 .tuple) (eVar 0)))) (tOp' neD (eArgs lenD (aCons (eVar 0) aNil)) (eVar 1))) (sRet (eLit (.bl false))) sNil) [some (.tup [fr p, fr q]), some (.int 2), none, none] m = .ok (.nx [some (.tup [fr p, fr q]), some (.int 2), none, none]) m := by
    simp [retF, sSeq, contK, sIf, sAsg, sRet, sRetN, sExpr, sPar, sNil, gN, gSb, gT, gsNil, gsCons, eVar, eLit, eOp, eUn, eArgs, aNil, aCons, eIf, eAnd, eOr, eNot, tTru, tOp', tOfE, eChain, chainK, tNot', tAnd', tOr', ordD, addD, subD, negD, gcdD, mkTup, truD, blV, gcT_self, gcD_self, gcF_self, sizeLine_eq, isD1, tyB, lenD, neD_int]
  have l0 : forG [] (gN 2) B [fr p, fr q] [some (.tup [fr p, fr q]), some (.int 2), none, none] m = .ok (.nx [some (.tup [fr p, fr q]), some (.int 2), some (fr q), none]) m := by
    rw [forG_cons, r1, R.bind_ok]
    dsimp only
    rw [forG_cons, r2, R.bind_ok]
    dsimp only
    rw [forG_nil]
  show ((sSeq _ _ [some (.tup [fr p, fr q]), some (.int 2), none, none] m).bind retF) = _
  unfold sSeq
  rw [t0]
  simp [retF, sSeq, contK, sIf, sAsg, sRet, sRetN, sExpr, sPar, sNil, gN, gSb, gT, gsNil, gsCons, eVar, eLit, eOp, eUn, eArgs, aNil, aCons, eIf, eAnd, eOr, eNot, tTru, tOp', tOfE, eChain, chainK, tNot', tAnd', tOr', ordD, addD, subD, negD, gcdD, mkTup, truD, blV, gcT_self, gcD_self, gcF_self, sizeLine_eq, iSeq, l0]
/-! the judge's steps. The frame: points in 4, slope and start in 6, 7, told in 12 -/
theorem ln_res {E : Nat} {sl st : Rat} {l : List (Rat × Rat)} (h : Ln E sl st l) {m : Mem} : ∀ p ∈ l, callD 2 f__law_times [fr sl, fr p.1] m = .ok (fr (sl * p.1)) m ∧ callD 2 f__law_plus [fr st, fr (sl * p.1)] m = .ok (fr (st + sl * p.1)) m ∧ callD 2 f__law_minus [fr p.2, fr (st + sl * p.1)] m = .ok (fr (res sl st p)) m := fun p hp => by
  obtain ⟨zx, zy, za, zb, cr⟩ := h.p p hp
  exact ⟨l_times h.zs zx (by omega), l_plus h.zt za (by omega), l_minus zy zb (by omega)⟩
theorem res_sz {E : Nat} {sl st : Rat} {l : List (Rat × Rat)} (h : Ln E sl st l) : ∀ p ∈ l, sz 400 (res sl st p) := fun p hp => (h.p p hp).r.sz h.e (by omega) (by omega)
/-- sum of the squares of what is left over, the list at Rn -/
theorem sum_sq {E : Nat} {sl st : Rat} {l : List (Rat × Rat)} {m : Mem} {Rn p : Nat} {s0 s1 s2 s3 s4 s5 s6 s7 s8 s9 s10 s11 s12 s14 s15 s16 s17 s18 : Option D} (h : Ln E sl st l) (hl : l.length ≤ 6) (hR : m[Rn]? = some (.lst (l.map fun p => fr (res sl st p)))) :
    (eCall 1 f__law_sum (aCons (eComp [18] (iSeq (eVar 13)) (gN 18) tYes' (eCall 2 f__law_times (aCons (eVar 18) (aCons (eVar 18) aNil)))) aNil)) [s0, s1, s2, s3, s4, s5, s6, s7, s8, s9, s10, s11, s12, some (.ref Rn), s14, s15, s16, s17, s18] m = .ok (fr (ssq sl st l)) (m ++ [.lst ((l.map fun p => res sl st p * res sl st p).map fr)]) := by
  have lv : LiveOk m [(Rn, l.map fun p => fr (res sl st p))] := fun z hz => by rw [List.mem_singleton.mp hz]; simp [lstOf, hR]
  have cm := compG_map (lv := [(Rn, l.map fun p => fr (res sl st p))]) (tg := gN 18) (t := tYes') (g := eCall 2 f__law_times (aCons (eVar 18) (aCons (eVar 18) aNil))) (ρ := [s0, s1, s2, s3, s4, s5, s6, s7, s8, s9, s10, s11, s12, some (.ref Rn), s14, s15, s16, s17, none]) (m := m) (f := fun p => fr (res sl st p)) (h := fun p => fr (res sl st p * res sl st p)) lv l [] (fun p hp => by
    have t := l_times (m := m) (res_sz h p hp) (res_sz h p hp) (by omega)
    simp [turnC, retF, sSeq, contK, sIf, sAsg, sRet, sRetN, sExpr, sPar, sNil, gN, gSb, gT, gsNil, gsCons, eVar, eLit, eOp, eUn, eArgs, aNil, aCons, eIf, eAnd, eOr, eNot, tTru, tOp', tOfE, eChain, chainK, tNot', tAnd', tOr', ordD, addD, subD, negD, gcdD, mkTup, truD, blV, gcT_self, gcD_self, gcF_self, sizeLine_eq, tYes', eCall, t])
  rw [List.nil_append] at cm
  have hl2 : l.length ≤ 16777216 := by omega
  have s := l_sum (E := E * E) (n := 400) (d := 400) (l := l.map fun p => res sl st p * res sl st p) (m := m ++ [.lst ((l.map fun p => res sl st p * res sl st p).map fr)]) (p := m.length) (by simp) (Nat.mul_pos h.e0 h.e0) (sq_lt h.e) (by omega) (by rw [List.length_map]; omega) (fun x hx => by
    obtain ⟨p, hp, rfl⟩ := List.mem_map.mp hx
    exact ((h.p p hp).r.mul (h.p p hp).r).mono (by omega))
  have e : ssq sl st l = sumR (l.map fun p => res sl st p * res sl st p) := rfl
  have mm : (l.map fun p => fr (res sl st p * res sl st p)) = (l.map fun p => res sl st p * res sl st p).map fr := by rw [List.map_map]; rfl
  rw [mm] at cm
  rw [e]
  simp [retF, sSeq, contK, sIf, sAsg, sRet, sRetN, sExpr, sPar, sNil, gN, gSb, gT, gsNil, gsCons, eVar, eLit, eOp, eUn, eArgs, aNil, aCons, eIf, eAnd, eOr, eNot, tTru, tOp', tOfE, eChain, chainK, tNot', tAnd', tOr', ordD, addD, subD, negD, gcdD, mkTup, truD, blV, gcT_self, gcD_self, gcF_self, sizeLine_eq, eCall, eComp, iSeq, lstOf, hR, hl2, wipeE, cm, R.noexc, -List.map_map, s]
theorem st19 {E : Nat} {sl st : Rat} {l : List (Rat × Rat)} {m : Mem} {s0 s1 s2 s3 s5 s8 s9 s10 s11 s12 s13 s14 s15 s16 s17 s18 : Option D} (h : Ln E sl st l) (hl : l.length ≤ 6) :
    g_law_19 [s0, s1, s2, s3, some (.tup (l.map dP)), s5, some (fr sl), some (fr st), s8, s9, s10, s11, s12, s13, s14, s15, s16, s17, s18] m = .ok (.nx [s0, s1, s2, s3, some (.tup (l.map dP)), s5, some (fr sl), some (fr st), s8, s9, s10, s11, s12, some (.ref m.length), s14, s15, s16, s17, s18]) (m ++ [.lst (l.map fun p => fr (res sl st p))]) := by
  have cm := compG_map (lv := []) (tg := gN 17) (t := tYes') (g := eCall 2 f__law_minus (aCons (eOp ixD (eVar 17) (eLit (.int 1))) (aCons (eCall 2 f__law_plus (aCons (eVar 7) (aCons (eCall 2 f__law_times (aCons (eVar 6) (aCons (eOp ixD (eVar 17) (eLit (.int 0))) aNil))) aNil))) aNil))) (ρ := [s0, s1, s2, s3, some (.tup (l.map dP)), s5, some (fr sl), some (fr st), s8, s9, s10, s11, s12, s13, s14, s15, s16, none, s18]) (m := m) (f := dP) (h := fun p => fr (res sl st p)) (fun p hp => nomatch hp) l [] (fun p hp => by
    obtain ⟨t1, t2, t3⟩ := ln_res h (m := m) p hp
    have x0 : ixD (.tup [fr p.1, fr p.2]) (.int 0) m = some (fr p.1, m) := rfl
    have x1 : ixD (.tup [fr p.1, fr p.2]) (.int 1) m = some (fr p.2, m) := rfl
    simp [turnC, retF, sSeq, contK, sIf, sAsg, sRet, sRetN, sExpr, sPar, sNil, gN, gSb, gT, gsNil, gsCons, eVar, eLit, eOp, eUn, eArgs, aNil, aCons, eIf, eAnd, eOr, eNot, tTru, tOp', tOfE, eChain, chainK, tNot', tAnd', tOr', ordD, addD, subD, negD, gcdD, mkTup, truD, blV, gcT_self, gcD_self, gcF_self, sizeLine_eq, tYes', eCall, x0, x1, t1, t2, t3])
  rw [List.nil_append] at cm
  have hl2 : l.length ≤ 16777216 := by omega
  simp [g_law_19, retF, sSeq, contK, sIf, sAsg, sRet, sRetN, sExpr, sPar, sNil, gN, gSb, gT, gsNil, gsCons, eVar, eLit, eOp, eUn, eArgs, aNil, aCons, eIf, eAnd, eOr, eNot, tTru, tOp', tOfE, eChain, chainK, tNot', tAnd', tOr', ordD, addD, subD, negD, gcdD, mkTup, truD, blV, gcT_self, gcD_self, gcF_self, sizeLine_eq, eComp, iSeq, hl2, wipeE, cm, R.noexc]
theorem st20 {E : Nat} {sl st : Rat} {l : List (Rat × Rat)} {m : Mem} {Rn : Nat} {s0 s1 s2 s3 s5 s8 s9 s10 s11 s12 s14 s15 s16 s17 s18 : Option D} (h : Ln E sl st l) (hl : l.length ≤ 6) (hR : m[Rn]? = some (.lst (l.map fun p => fr (res sl st p)))) :
    g_law_20 [s0, s1, s2, s3, some (.tup (l.map dP)), s5, some (fr sl), some (fr st), s8, s9, s10, s11, s12, some (.ref Rn), s14, s15, s16, s17, s18] m = .ok (.nx [s0, s1, s2, s3, some (.tup (l.map dP)), s5, some (fr sl), some (fr st), s8, s9, s10, s11, s12, some (.ref Rn), s14, s15, s16, s17, s18]) m := by
  have q1 := c_ssq (m := m) h hl
  have q2 := sum_sq (p := 0) (s0 := s0) (s1 := s1) (s2 := s2) (s3 := s3) (s4 := some (.tup (l.map dP))) (s5 := s5) (s6 := some (fr sl)) (s7 := some (fr st)) (s8 := s8) (s9 := s9) (s10 := s10) (s11 := s11) (s12 := s12) (s14 := s14) (s15 := s15) (s16 := s16) (s17 := s17) (s18 := s18) h hl hR
  have zq : sz 900 (ssq sl st l) := (cd.sum (E := E * E) (n := 400) (Nat.mul_pos h.e0 h.e0) (l := l.map fun p => res sl st p * res sl st p) fun x hx => by
    obtain ⟨p, hp, rfl⟩ := List.mem_map.mp hx
    exact ((h.p p hp).r.mul (h.p p hp).r).mono (by omega)).sz (sq_lt h.e) (by rw [List.length_map]; omega) (by omega)
  have sm := same_fr (m := m ++ [.lst ((l.map fun p => res sl st p * res sl st p).map fr)]) (p := ssq sl st l) rfl zq (by omega) (by omega)
  unfold g_law_20
  generalize hG : eCall 1 f__law_sum (aCons (eComp [18] (iSeq (eVar 13)) (gN 18) tYes' (eCall 2 f__law_times (aCons (eVar 18) (aCons (eVar 18) aNil)))) aNil) = G at q2 ⊢
  simp [retF, sSeq, contK, sIf, sAsg, sRet, sRetN, sExpr, sPar, sNil, gN, gSb, gT, gsNil, gsCons, eVar, eLit, eOp, eUn, eArgs, aNil, aCons, eIf, eAnd, eOr, eNot, tTru, tOp', tOfE, eChain, chainK, tNot', tAnd', tOr', ordD, addD, subD, negD, gcdD, mkTup, truD, blV, gcT_self, gcD_self, gcF_self, sizeLine_eq, eCall, q1, q2, sm, gcT_app, -List.map_map]
end K34
end Dw

namespace Dw
namespace K34
open PySem PySem.Spec PyProof.Rows L2
theorem iRg1_nat {a : G} {ρ : Env} {m : Mem} {n : Nat} (h : a ρ m = .ok (.int (n : Int)) m) (hn : n < 1000000) : iRg1 a ρ m = .ok ⟨rngD 0 n, []⟩ m := by
  have c1 : -(2 ^ 62 : Int) ≤ (n : Int) := by omega
  have c2 : (n : Int) < 2 ^ 62 := by omega
  unfold iRg1
  rw [h, R.bind_ok]
  dsimp only
  rw [if_pos ⟨c1, c2⟩, Int.toNat_natCast]
/-- the test: do all flows agree -/
theorem test18 {p0 : Rat × Rat} {l' : List (Rat × Rat)} {m : Mem} {s0 s1 s2 s3 s5 s6 s7 s8 s9 s10 s11 s12 s13 s14 s15 s16 s17 s18 : Option D} (hl : (p0 :: l').length ≤ 6) :
    (tOp' eqD (eComp [17] (iSeq (eVar 4)) (gN 17) (tOp' neD (eOp ixD (eVar 17) (eLit (.int 0))) (eOp ixD (eOp ixD (eVar 4) (eLit (.int 0))) (eLit (.int 0)))) (eVar 17)) (eArgs mkLst aNil)) [s0, s1, s2, s3, some (.tup ((p0 :: l').map dP)), s5, s6, s7, s8, s9, s10, s11, s12, s13, s14, s15, s16, s17, s18] m = .ok (((p0 :: l').filter fun p => !decide (p.1 = p0.1)).isEmpty) m := by
  have cm := compG_filter (lv := []) (tg := gN 17) (t := tOp' neD (eOp ixD (eVar 17) (eLit (.int 0))) (eOp ixD (eOp ixD (eVar 4) (eLit (.int 0))) (eLit (.int 0)))) (g := eVar 17) (ρ := [s0, s1, s2, s3, some (.tup ((p0 :: l').map dP)), s5, s6, s7, s8, s9, s10, s11, s12, s13, s14, s15, s16, none, s18]) (m := m) (f := dP) (c := fun p => !decide (p.1 = p0.1)) (fun p hp => nomatch hp) (p0 :: l') [] (fun p hp => by
    have x0 : ixD (.tup [fr p.1, fr p.2]) (.int 0) m = some (fr p.1, m) := rfl
    have x1 : ixD (.tup (dP p0 :: l'.map dP)) (.int 0) m = some (dP p0, m) := by
      have := atI_nat (xs := dP p0 :: l'.map dP) (i := 0)
      simp [ixD]
      simpa using this
    have x2 : ixD (.tup [fr p0.1, fr p0.2]) (.int 0) m = some (fr p0.1, m) := rfl
    by_cases h : p.1 = p0.1 <;> simp [turnC, retF, sSeq, contK, sIf, sAsg, sRet, sRetN, sExpr, sPar, sNil, gN, gSb, gT, gsNil, gsCons, eVar, eLit, eOp, eUn, eArgs, aNil, aCons, eIf, eAnd, eOr, eNot, tTru, tOp', tOfE, eChain, chainK, tNot', tAnd', tOr', ordD, addD, subD, negD, gcdD, mkTup, truD, blV, gcT_self, gcD_self, gcF_self, sizeLine_eq, x0, x1, x2, neD_fr, h])
  rw [List.nil_append] at cm
  obtain ⟨F, eF⟩ : ∃ F, F = (p0 :: l').filter fun p => !decide (p.1 = p0.1) := ⟨_, rfl⟩
  rw [← eF] at cm ⊢
  have en := eq_nil (m := m ++ [.lst (F.map dP), .lst []]) (n := m.length) (k := m.length + 1) (F := F) (by simp) (by simp)
  have hl2 : (p0 :: l').length ≤ 16777216 := by omega
  have hl3 : ((p0 :: l').map dP).length ≤ 16777216 := by rw [List.length_map]; exact hl2
  generalize (p0 :: l').map dP = W at cm hl3 ⊢
  simp [retF, sSeq, contK, sIf, sAsg, sRet, sRetN, sExpr, sPar, sNil, gN, gSb, gT, gsNil, gsCons, eVar, eLit, eOp, eUn, eArgs, aNil, aCons, eIf, eAnd, eOr, eNot, tTru, tOp', tOfE, eChain, chainK, tNot', tAnd', tOr', ordD, addD, subD, negD, gcdD, mkTup, truD, blV, gcT_self, gcD_self, gcF_self, sizeLine_eq, eComp, iSeq, hl3, wipeE, cm, R.noexc, mkLst, en, gcT_app]
theorem filt_empty {p0 : Rat × Rat} {l' : List (Rat × Rat)} : ((p0 :: l').filter fun p => !decide (p.1 = p0.1)).isEmpty = decide (vv (p0 :: l') = 0) := by
  by_cases h : vv (p0 :: l') = 0
  · rw [decide_eq_true h]
    have z := vv_zero.mp h
    have : ((p0 :: l').filter fun p => !decide (p.1 = p0.1)) = [] := List.filter_eq_nil_iff.mpr fun p hp => by simp [z p hp]
    rw [this]; rfl
  · rw [decide_eq_false h]
    have : ((p0 :: l').filter fun p => !decide (p.1 = p0.1)) ≠ [] := fun e => h (vv_zero.mpr fun q hq => by
      have := List.filter_eq_nil_iff.mp e q hq
      simpa using this)
    cases hF : ((p0 :: l').filter fun p => !decide (p.1 = p0.1)) with
    | nil => exact absurd hF this
    | cons a b => rfl
theorem st7 {E : Nat} {sl st : Rat} {l : List (Rat × Rat)} {m : Mem} {s0 s1 s2 s3 s5 s6 s7 s8 s9 s10 s11 s13 s14 s15 s16 s17 s18 : Option D} (h : Ln E sl st l) (hl : l.length ≤ 6) :
    g_law_7 [s0, s1, s2, s3, some (.tup (l.map dP)), s5, s6, s7, s8, s9, s10, s11, some (.tup [fr sl, fr st]), s13, s14, s15, s16, s17, s18] m = .ok (.nx [s0, s1, s2, s3, some (.tup (l.map dP)), s5, s6, s7, s8, s9, s10, s11, some (.tup [fr sl, fr st]), some (.ref m.length), s14, s15, s16, s17, s18]) (m ++ [.lst (l.map fun p => fr (res sl st p))]) := by
  have y0 : ixD (.tup [fr sl, fr st]) (.int 0) m = some (fr sl, m) := rfl
  have y1 : ixD (.tup [fr sl, fr st]) (.int 1) m = some (fr st, m) := rfl
  have cm := compG_map (lv := []) (tg := gN 17) (t := tYes') (g := eCall 2 f__law_minus (aCons (eOp ixD (eVar 17) (eLit (.int 1))) (aCons (eCall 2 f__law_plus (aCons (eOp ixD (eVar 12) (eLit (.int 1))) (aCons (eCall 2 f__law_times (aCons (eOp ixD (eVar 12) (eLit (.int 0))) (aCons (eOp ixD (eVar 17) (eLit (.int 0))) aNil))) aNil))) aNil))) (ρ := [s0, s1, s2, s3, some (.tup (l.map dP)), s5, s6, s7, s8, s9, s10, s11, some (.tup [fr sl, fr st]), s13, s14, s15, s16, none, s18]) (m := m) (f := dP) (h := fun p => fr (res sl st p)) (fun p hp => nomatch hp) l [] (fun p hp => by
    obtain ⟨t1, t2, t3⟩ := ln_res h (m := m) p hp
    have x0 : ixD (.tup [fr p.1, fr p.2]) (.int 0) m = some (fr p.1, m) := rfl
    have x1 : ixD (.tup [fr p.1, fr p.2]) (.int 1) m = some (fr p.2, m) := rfl
    simp [turnC, retF, sSeq, contK, sIf, sAsg, sRet, sRetN, sExpr, sPar, sNil, gN, gSb, gT, gsNil, gsCons, eVar, eLit, eOp, eUn, eArgs, aNil, aCons, eIf, eAnd, eOr, eNot, tTru, tOp', tOfE, eChain, chainK, tNot', tAnd', tOr', ordD, addD, subD, negD, gcdD, mkTup, truD, blV, gcT_self, gcD_self, gcF_self, sizeLine_eq, tYes', eCall, x0, x1, y0, y1, t1, t2, t3])
  rw [List.nil_append] at cm
  have hl2 : l.length ≤ 16777216 := by omega
  simp [g_law_7, retF, sSeq, contK, sIf, sAsg, sRet, sRetN, sExpr, sPar, sNil, gN, gSb, gT, gsNil, gsCons, eVar, eLit, eOp, eUn, eArgs, aNil, aCons, eIf, eAnd, eOr, eNot, tTru, tOp', tOfE, eChain, chainK, tNot', tAnd', tOr', ordD, addD, subD, negD, gcdD, mkTup, truD, blV, gcT_self, gcD_self, gcF_self, sizeLine_eq, eComp, iSeq, hl2, wipeE, cm, R.noexc]
theorem st8a {E : Nat} {sl st : Rat} {l : List (Rat × Rat)} {m : Mem} {Rn : Nat} {s0 s1 s2 s3 s5 s6 s7 s8 s10 s11 s12 s14 s15 s16 s17 s18 : Option D} (h : Ln E sl st l) (hR : m[Rn]? = some (.lst (l.map fun p => fr (res sl st p)))) :
    compG [] (gN 9) tYes' (eCall 2 f__law_times (aCons (eOp ixD (eVar 13) (eVar 9)) (aCons (eOp ixD (eOp ixD (eVar 4) (eVar 9)) (eLit (.int 0))) aNil))) [s0, s1, s2, s3, some (.tup (l.map dP)), s5, s6, s7, s8, none, s10, s11, s12, some (.ref Rn), s14, s15, s16, s17, s18] (rngD 0 l.length) [] m = .ok ((l.map fun p => res sl st p * p.1).map fr) m := by
  have cm := compG_map (lv := []) (tg := gN 9) (t := tYes') (g := eCall 2 f__law_times (aCons (eOp ixD (eVar 13) (eVar 9)) (aCons (eOp ixD (eOp ixD (eVar 4) (eVar 9)) (eLit (.int 0))) aNil))) (ρ := [s0, s1, s2, s3, some (.tup (l.map dP)), s5, s6, s7, s8, none, s10, s11, s12, some (.ref Rn), s14, s15, s16, s17, s18]) (m := m) (f := fun k : Nat => D.int (0 + (k : Int))) (h := fun k => fr ((l.map fun p => res sl st p * p.1).getD k 0)) (fun p hp => nomatch hp) (List.range l.length) [] (fun k hk => by
    have hk2 : k < l.length := List.mem_range.mp hk
    obtain ⟨p, ep⟩ : ∃ p, l[k]? = some p := ⟨l[k], List.getElem?_eq_getElem hk2⟩
    have hm : p ∈ l := List.mem_of_getElem? ep
    have t := l_times (m := m) (res_sz h p hm) (h.p p hm).x (by omega)
    have x0 : ixD (.tup [fr p.1, fr p.2]) (.int 0) m = some (fr p.1, m) := rfl
    have x1 : ixD (.tup (l.map dP)) (.int k) m = some (dP p, m) := by simp [ixD, atI_nat, ep]
    have x2 : ixD (.ref Rn) (.int k) m = some (fr (res sl st p), m) := by simp [ixD, lstOf, hR, atI_nat, ep]
    simp [turnC, retF, sSeq, contK, sIf, sAsg, sRet, sRetN, sExpr, sPar, sNil, gN, gSb, gT, gsNil, gsCons, eVar, eLit, eOp, eUn, eArgs, aNil, aCons, eIf, eAnd, eOr, eNot, tTru, tOp', tOfE, eChain, chainK, tNot', tAnd', tOr', ordD, addD, subD, negD, gcdD, mkTup, truD, blV, gcT_self, gcD_self, gcF_self, sizeLine_eq, tYes', eCall, x0, x1, x2, t, ep])
  rw [List.nil_append] at cm
  have mm : ((List.range l.length).map fun k => fr ((l.map fun p => res sl st p * p.1).getD k 0)) = (l.map fun p => res sl st p * p.1).map fr := by
    refine List.ext_getElem (by simp) fun i h1 h2 => ?_
    simp at h1
    simp [h1]
  rw [mm] at cm
  have rg : ((List.range l.length).map fun k : Nat => D.int (0 + (k : Int))) = rngD 0 l.length := rfl
  rw [rg] at cm
  exact cm
theorem st8b {E : Nat} {sl st : Rat} {l : List (Rat × Rat)} {m : Mem} (h : Ln E sl st l) (hx : ∀ p ∈ l, Pt p) (hl : l.length ≤ 6) : callD 1 f__law_sum [.ref m.length] (m ++ [.lst ((l.map fun p => res sl st p * p.1).map fr)]) = .ok (fr (sumR (l.map fun p => res sl st p * p.1))) (m ++ [.lst ((l.map fun p => res sl st p * p.1).map fr)]) := by
  have s := l_sum (E := E * 6) (n := 206) (d := 200 + 3) (l := l.map fun p => res sl st p * p.1) (m := m ++ [.lst ((l.map fun p => res sl st p * p.1).map fr)]) (p := m.length) (by simp) (Nat.mul_pos h.e0 (by omega)) (mul_lt_pow h.e (by omega)) (by omega) (by rw [List.length_map]; omega) (fun x hx' => by
    obtain ⟨p, hp, rfl⟩ := List.mem_map.mp hx'
    exact (h.p p hp).r.mul (hx p hp).1)
  exact s
theorem st8 {E : Nat} {sl st : Rat} {l : List (Rat × Rat)} {m : Mem} {Rn : Nat} {s0 s1 s2 s3 s5 s6 s7 s8 s9 s10 s11 s12 s14 s15 s16 s17 s18 : Option D} (h : Ln E sl st l) (hx : ∀ p ∈ l, Pt p) (hl : l.length ≤ 6) (hR : m[Rn]? = some (.lst (l.map fun p => fr (res sl st p)))) :
    g_law_8 [s0, s1, s2, s3, some (.tup (l.map dP)), s5, s6, s7, s8, s9, s10, s11, s12, some (.ref Rn), s14, s15, s16, s17, s18] m = .ok (.nx [s0, s1, s2, s3, some (.tup (l.map dP)), s5, s6, s7, s8, s9, s10, s11, s12, some (.ref Rn), some (fr (sumR (l.map fun p => res sl st p * p.1))), s15, s16, s17, s18]) (m ++ [.lst ((l.map fun p => res sl st p * p.1).map fr)]) := by
  have cm := st8a (s0 := s0) (s1 := s1) (s2 := s2) (s3 := s3) (s5 := s5) (s6 := s6) (s7 := s7) (s8 := s8) (s10 := s10) (s11 := s11) (s12 := s12) (s14 := s14) (s15 := s15) (s16 := s16) (s17 := s17) (s18 := s18) h hR
  have s := st8b (m := m) h hx hl
  have hl2 : (rngD 0 l.length).length ≤ sizeLine := by rw [rng_len]; exact le_line (by omega)
  have it := iRg1_nat (a := eArgs lenD (aCons (eVar 4) aNil)) (ρ := [s0, s1, s2, s3, some (.tup (l.map dP)), s5, s6, s7, s8, s9, s10, s11, s12, some (.ref Rn), s14, s15, s16, s17, s18]) (m := m) (n := l.length) (by simp [retF, sSeq, contK, sIf, sAsg, sRet, sRetN, sExpr, sPar, sNil, gN, gSb, gT, gsNil, gsCons, eVar, eLit, eOp, eUn, eArgs, aNil, aCons, eIf, eAnd, eOr, eNot, tTru, tOp', tOfE, eChain, chainK, tNot', tAnd', tOr', ordD, addD, subD, negD, gcdD, mkTup, truD, blV, gcT_self, gcD_self, gcF_self, sizeLine_eq, lenD]) (by omega)
  have cp : (eComp [9] (iRg1 (eArgs lenD (aCons (eVar 4) aNil))) (gN 9) tYes' (eCall 2 f__law_times (aCons (eOp ixD (eVar 13) (eVar 9)) (aCons (eOp ixD (eOp ixD (eVar 4) (eVar 9)) (eLit (.int 0))) aNil)))) [s0, s1, s2, s3, some (.tup (l.map dP)), s5, s6, s7, s8, s9, s10, s11, s12, some (.ref Rn), s14, s15, s16, s17, s18] m = .ok (.ref m.length) (m ++ [.lst ((l.map fun p => res sl st p * p.1).map fr)]) := by
    unfold eComp
    rw [it, R.bind_ok]
    dsimp only
    rw [if_pos hl2]
    simp only [wipeE, List.set]
    rw [cm]
    rfl
  unfold g_law_8
  generalize eComp [9] _ _ _ _ = G at cp ⊢
  simp only [sAsg, eCall, aCons, aNil, cp, R.bind_ok, s, gN, List.set]
end K34
end Dw

namespace Dw
namespace K34
open PySem PySem.Spec PyProof.Rows L2
theorem ssq_sz {E : Nat} {sl st : Rat} {l : List (Rat × Rat)} (h : Ln E sl st l) (hl : l.length ≤ 6) : sz 900 (ssq sl st l) := (cd.sum (E := E * E) (n := 400) (Nat.mul_pos h.e0 h.e0) (l := l.map fun p => res sl st p * res sl st p) fun x hx => by
    obtain ⟨p, hp, rfl⟩ := List.mem_map.mp hx
    exact ((h.p p hp).r.mul (h.p p hp).r).mono (by omega)).sz (sq_lt h.e) (by rw [List.length_map]; omega) (by omega)
theorem seq_ok {a b : GS} {ρ ρ' : Env} {m m' : Mem} {r : R Fl} (h : a ρ m = .ok (.nx ρ') m') (h2 : b ρ' m' = r) : sSeq a b ρ m = r := by
  unfold sSeq
  rw [h, R.bind_ok]
  exact h2
/-- the branch where the flows differ -/
theorem stB {M : Mem} {b d n : Nat} {l : List (Rat × Rat)} {s0 s2 s3 s5 s6 s7 s8 s9 s10 s11 s13 s14 s15 s16 s17 s18 : Option D} (hb : Bx M b d n) (hn : n + 2 < 1000000) (h1 : 0 < l.length) (hl : l.length ≤ 6) (hp : ∀ p ∈ l, Pt p) (hv : vv l ≠ 0) :
    ∃ (t13 t14 t15 : Option D) (M' : Mem), (sSeq g_law_6 (sSeq g_law_7 (sSeq g_law_8 (sSeq g_law_9 (sSeq g_law_10 (sSeq g_law_11 g_law_12)))))) [s0, some (.ref b), s2, s3, some (.tup (l.map dP)), s5, s6, s7, s8, s9, s10, s11, some (.tup [fr (slp l), fr (stt l)]), s13, s14, s15, s16, s17, s18] M = .ok (.nx [s0, some (.ref b), s2, s3, some (.tup (l.map dP)), s5, s6, s7, s8, s9, s10, s11, some (.tup [fr (slp l), fr (stt l)]), t13, t14, t15, s16, s17, s18]) M' ∧ Bx M' b d (n + 2) := by
  obtain ⟨E, hL, hD⟩ := ln_best h1 hl hp hv
  obtain ⟨z1, z2⟩ := best_zero h1 hv
  have r := l_row2 (m := M) hL.zs hL.zt (by omega)
  have e6 : g_law_6 [s0, some (.ref b), s2, s3, some (.tup (l.map dP)), s5, s6, s7, s8, s9, s10, s11, some (.tup [fr (slp l), fr (stt l)]), s13, s14, s15, s16, s17, s18] M = .ok (.nx [s0, some (.ref b), s2, s3, some (.tup (l.map dP)), s5, s6, s7, s8, s9, s10, s11, some (.tup [fr (slp l), fr (stt l)]), s13, s14, s15, s16, s17, s18]) M := by
    simp [g_law_6, retF, sSeq, contK, sIf, sAsg, sRet, sRetN, sExpr, sPar, sNil, gN, gSb, gT, gsNil, gsCons, eVar, eLit, eOp, eUn, eArgs, aNil, aCons, eIf, eAnd, eOr, eNot, tTru, tOp', tOfE, eChain, chainK, tNot', tAnd', tOr', ordD, addD, subD, negD, gcdD, mkTup, truD, blV, gcT_self, gcD_self, gcF_self, sizeLine_eq, eCall, r]
  have e7 := st7 (m := M) (s0 := s0) (s1 := some (.ref b)) (s2 := s2) (s3 := s3) (s5 := s5) (s6 := s6) (s7 := s7) (s8 := s8) (s9 := s9) (s10 := s10) (s11 := s11) (s13 := s13) (s14 := s14) (s15 := s15) (s16 := s16) (s17 := s17) (s18 := s18) hL hl
  obtain ⟨M1, eM1⟩ : ∃ M1, M1 = M ++ [.lst (l.map fun p => fr (res (slp l) (stt l) p))] := ⟨_, rfl⟩
  rw [← eM1] at e7
  have R1 : M1[M.length]? = some (.lst (l.map fun p => fr (res (slp l) (stt l) p))) := by rw [eM1]; simp
  have e8 := st8 (m := M1) (s0 := s0) (s1 := some (.ref b)) (s2 := s2) (s3 := s3) (s5 := s5) (s6 := s6) (s7 := s7) (s8 := s8) (s9 := s9) (s10 := s10) (s11 := s11) (s12 := some (.tup [fr (slp l), fr (stt l)])) (s14 := s14) (s15 := s15) (s16 := s16) (s17 := s17) (s18 := s18) hL hp hl R1
  rw [z2] at e8
  obtain ⟨M2, eM2⟩ : ∃ M2, M2 = M1 ++ [.lst ((l.map fun p => res (slp l) (stt l) p * p.1).map fr)] := ⟨_, rfl⟩
  rw [← eM2] at e8
  have R2 : M2[M.length]? = some (.lst (l.map fun p => fr (res (slp l) (stt l) p))) := by rw [eM2, List.getElem?_append_left (List.getElem?_eq_some_iff.mp R1).1]; exact R1
  have R2' : M2[M.length]? = some (.lst ((l.map (res (slp l) (stt l))).map fr)) := by rw [R2, List.map_map]; rfl
  have sm := l_sum (E := E) (n := 200) (d := 200) (l := l.map (res (slp l) (stt l))) (m := M2) R2' hL.e0 hL.e (by omega) (by rw [List.length_map]; omega) (fun x hx => by
    obtain ⟨p, hm, rfl⟩ := List.mem_map.mp hx
    exact (hL.p p hm).r)
  rw [z1] at sm
  have nz : neD (fr 0) (.tup [.int 0, .int 1]) M2 = some (.bl false, M2) := by rw [neD_z]; rfl
  have e9 : g_law_9 [s0, some (.ref b), s2, s3, some (.tup (l.map dP)), s5, s6, s7, s8, s9, s10, s11, some (.tup [fr (slp l), fr (stt l)]), some (.ref M.length), some (fr 0), s15, s16, s17, s18] M2 = .ok (.nx [s0, some (.ref b), s2, s3, some (.tup (l.map dP)), s5, s6, s7, s8, s9, s10, s11, some (.tup [fr (slp l), fr (stt l)]), some (.ref M.length), some (fr 0), s15, s16, s17, s18]) M2 := by
    simp [g_law_9, retF, sSeq, contK, sIf, sAsg, sRet, sRetN, sExpr, sPar, sNil, gN, gSb, gT, gsNil, gsCons, eVar, eLit, eOp, eUn, eArgs, aNil, aCons, eIf, eAnd, eOr, eNot, tTru, tOp', tOfE, eChain, chainK, tNot', tAnd', tOr', ordD, addD, subD, negD, gcdD, mkTup, truD, blV, gcT_self, gcD_self, gcF_self, sizeLine_eq, eCall, sm, nz]
  have q1 := c_ssq (m := M2) hL hl
  have x0 : ∀ m, ixD (.tup [fr (slp l), fr (stt l)]) (.int 0) m = some (fr (slp l), m) := fun _ => rfl
  have x1 : ∀ m, ixD (.tup [fr (slp l), fr (stt l)]) (.int 1) m = some (fr (stt l), m) := fun _ => rfl
  have e10 : g_law_10 [s0, some (.ref b), s2, s3, some (.tup (l.map dP)), s5, s6, s7, s8, s9, s10, s11, some (.tup [fr (slp l), fr (stt l)]), some (.ref M.length), some (fr 0), s15, s16, s17, s18] M2 = .ok (.nx [s0, some (.ref b), s2, s3, some (.tup (l.map dP)), s5, s6, s7, s8, s9, s10, s11, some (.tup [fr (slp l), fr (stt l)]), some (.ref M.length), some (fr 0), some (fr (ssq (slp l) (stt l) l)), s16, s17, s18]) M2 := by
    simp [g_law_10, retF, sSeq, contK, sIf, sAsg, sRet, sRetN, sExpr, sPar, sNil, gN, gSb, gT, gsNil, gsCons, eVar, eLit, eOp, eUn, eArgs, aNil, aCons, eIf, eAnd, eOr, eNot, tTru, tOp', tOfE, eChain, chainK, tNot', tAnd', tOr', ordD, addD, subD, negD, gcdD, mkTup, truD, blV, gcT_self, gcD_self, gcF_self, sizeLine_eq, eCall, x0, x1, q1]
  have q2 := sum_sq (m := M2) (p := 0) (s0 := s0) (s1 := some (.ref b)) (s2 := s2) (s3 := s3) (s4 := some (.tup (l.map dP))) (s5 := s5) (s6 := s6) (s7 := s7) (s8 := s8) (s9 := s9) (s10 := s10) (s11 := s11) (s12 := some (.tup [fr (slp l), fr (stt l)])) (s14 := some (fr 0)) (s15 := some (fr (ssq (slp l) (stt l) l))) (s16 := s16) (s17 := s17) (s18 := s18) hL hl R2
  have zq := ssq_sz hL hl
  have sf := same_fr (m := M2 ++ [.lst ((l.map fun p => res (slp l) (stt l) p * res (slp l) (stt l) p).map fr)]) (p := ssq (slp l) (stt l) l) rfl zq (by omega) (by omega)
  have e11 : g_law_11 [s0, some (.ref b), s2, s3, some (.tup (l.map dP)), s5, s6, s7, s8, s9, s10, s11, some (.tup [fr (slp l), fr (stt l)]), some (.ref M.length), some (fr 0), some (fr (ssq (slp l) (stt l) l)), s16, s17, s18] M2 = .ok (.nx [s0, some (.ref b), s2, s3, some (.tup (l.map dP)), s5, s6, s7, s8, s9, s10, s11, some (.tup [fr (slp l), fr (stt l)]), some (.ref M.length), some (fr 0), some (fr (ssq (slp l) (stt l) l)), s16, s17, s18]) M2 := by
    unfold g_law_11
    generalize hG : eCall 1 f__law_sum (aCons (eComp [18] (iSeq (eVar 13)) (gN 18) tYes' (eCall 2 f__law_times (aCons (eVar 18) (aCons (eVar 18) aNil)))) aNil) = G at q2 ⊢
    simp [retF, sSeq, contK, sIf, sAsg, sRet, sRetN, sExpr, sPar, sNil, gN, gSb, gT, gsNil, gsCons, eVar, eLit, eOp, eUn, eArgs, aNil, aCons, eIf, eAnd, eOr, eNot, tTru, tOp', tOfE, eChain, chainK, tNot', tAnd', tOr', ordD, addD, subD, negD, gcdD, mkTup, truD, blV, gcT_self, gcD_self, gcF_self, sizeLine_eq, eCall, q2, sf, gcT_app, -List.map_map]
  have bM2 : Bx M2 b d n := by rw [eM2, eM1]; exact hb.app.app
  obtain ⟨dl, M3, ed, cdl, b3, s3'⟩ := c_small bM2 (by omega)
  obtain ⟨hL2, zdl⟩ := hD dl cdl
  have tp := l_plus (m := M3) hL.zs zdl (by omega)
  have q3 := c_ssq (m := M3) hL2 hl
  have lt := l_less (m := M3) (ssq_sz hL2 hl) zq (by omega)
  rw [decide_eq_false (best_least h1 hv dl)] at lt
  have e12 : g_law_12 [s0, some (.ref b), s2, s3, some (.tup (l.map dP)), s5, s6, s7, s8, s9, s10, s11, some (.tup [fr (slp l), fr (stt l)]), some (.ref M.length), some (fr 0), some (fr (ssq (slp l) (stt l) l)), s16, s17, s18] M2 = .ok (.nx [s0, some (.ref b), s2, s3, some (.tup (l.map dP)), s5, s6, s7, s8, s9, s10, s11, some (.tup [fr (slp l), fr (stt l)]), some (.ref M.length), some (fr 0), some (fr (ssq (slp l) (stt l) l)), s16, s17, s18]) M3 := by
    simp [g_law_12, retF, sSeq, contK, sIf, sAsg, sRet, sRetN, sExpr, sPar, sNil, gN, gSb, gT, gsNil, gsCons, eVar, eLit, eOp, eUn, eArgs, aNil, aCons, eIf, eAnd, eOr, eNot, tTru, tOp', tOfE, eChain, chainK, tNot', tAnd', tOr', ordD, addD, subD, negD, gcdD, mkTup, truD, blV, gcT_self, gcD_self, gcF_self, sizeLine_eq, eCall, x0, x1, ed, tp, q3, lt, gcT_len s3'.len]
  refine ⟨some (.ref M.length), some (fr 0), some (fr (ssq (slp l) (stt l) l)), M3, ?_, b3⟩
  exact seq_ok e6 (seq_ok e7 (seq_ok e8 (seq_ok e9 (seq_ok e10 (seq_ok e11 e12)))))
theorem st18 {M : Mem} {b d n : Nat} {l : List (Rat × Rat)} {s0 s2 s3 s5 s6 s7 s8 s9 s10 s11 s13 s14 s15 s16 s17 s18 : Option D} (hb : Bx M b d n) (hn : n + 2 < 1000000) (h1 : 0 < l.length) (hl : l.length ≤ 6) (hp : ∀ p ∈ l, Pt p) :
    ∃ (t12 t13 t14 t15 : Option D) (M' : Mem), g_law_18 [s0, some (.ref b), s2, s3, some (.tup (l.map dP)), s5, s6, s7, s8, s9, s10, s11, some (if vv l = 0 then .non else .tup [fr (slp l), fr (stt l)]), s13, s14, s15, s16, s17, s18] M = .ok (.nx [s0, some (.ref b), s2, s3, some (.tup (l.map dP)), s5, s6, s7, s8, s9, s10, s11, t12, t13, t14, t15, s16, s17, s18]) M' ∧ Bx M' b d (n + 2) := by
  cases l with
  | nil => cases h1
  | cons p0 l' =>
    have t := fun s12 => test18 (p0 := p0) (l' := l') (m := M) (s0 := s0) (s1 := some (.ref b)) (s2 := s2) (s3 := s3) (s5 := s5) (s6 := s6) (s7 := s7) (s8 := s8) (s9 := s9) (s10 := s10) (s11 := s11) (s12 := s12) (s13 := s13) (s14 := s14) (s15 := s15) (s16 := s16) (s17 := s17) (s18 := s18) hl
    by_cases hv : vv (p0 :: l') = 0
    · have t' := t (some .non)
      rw [filt_empty, decide_eq_true hv] at t'
      refine ⟨some .non, s13, s14, s15, M, ?_, hb.mono (by omega)⟩
      rw [if_pos hv]
      unfold g_law_18 sIf
      rw [t', R.bind_ok, if_pos rfl]
      simp [g_law_5, retF, sSeq, contK, sIf, sAsg, sRet, sRetN, sExpr, sPar, sNil, gN, gSb, gT, gsNil, gsCons, eVar, eLit, eOp, eUn, eArgs, aNil, aCons, eIf, eAnd, eOr, eNot, tTru, tOp', tOfE, eChain, chainK, tNot', tAnd', tOr', ordD, addD, subD, negD, gcdD, mkTup, truD, blV, gcT_self, gcD_self, gcF_self, sizeLine_eq, isntVD, isD]
    · have t' := t (some (.tup [fr (slp (p0 :: l')), fr (stt (p0 :: l'))]))
      rw [filt_empty, decide_eq_false hv] at t'
      obtain ⟨t13, t14, t15, M', e, b'⟩ := stB (s0 := s0) (s2 := s2) (s3 := s3) (s5 := s5) (s6 := s6) (s7 := s7) (s8 := s8) (s9 := s9) (s10 := s10) (s11 := s11) (s13 := s13) (s14 := s14) (s15 := s15) (s16 := s16) (s17 := s17) (s18 := s18) hb hn h1 hl hp hv
      refine ⟨some (.tup [fr (slp (p0 :: l')), fr (stt (p0 :: l'))]), t13, t14, t15, M', ?_, b'⟩
      rw [if_neg hv]
      unfold g_law_18 sIf
      rw [t', R.bind_ok, if_neg Bool.false_ne_true]
      exact e
/-- one turn -/
theorem law_turn {M : Mem} {b d n : Nat} {x : D} {s0 s2 s3 s4 s5 s6 s7 s8 s9 s10 s11 s12 s13 s14 s15 s16 s17 s18 : Option D} (h : Bx M b d n) (hn : n + 40 < 1000000) :
    ∃ (pts : List (Rat × Rat)) (t2 t3 t5 t6 t7 t8 t9 t10 t11 t12 t13 t14 t15 t16 t17 t18 : Option D) (M' : Mem), gcF M ((gN 2 x [s0, some (.ref b), s2, s3, s4, s5, s6, s7, s8, s9, s10, s11, s12, s13, s14, s15, s16, s17, s18] M).bind fun ρ1 m1 => g_law_21 ρ1 m1) = .ok (.nx [s0, some (.ref b), t2, t3, some (.tup (pts.map dP)), t5, t6, t7, t8, t9, t10, t11, t12, t13, t14, t15, t16, t17, t18]) M' ∧ Bx M' b d (n + 40) ∧ pts.length ≤ 6 := by
  obtain ⟨r, M1, e1, _, _, b1, s1⟩ := c_draw (many := 4) h (by omega) (by omega)
  have e13 : g_law_13 [s0, some (.ref b), some x, s3, s4, s5, s6, s7, s8, s9, s10, s11, s12, s13, s14, s15, s16, s17, s18] M = .ok (.nx [s0, some (.ref b), some x, some (.bl (decide (r = 0))), some (.ref M1.length), s5, s6, s7, s8, s9, s10, s11, s12, s13, s14, s15, s16, s17, s18]) (M1 ++ [.lst []]) := by
    simp [g_law_13, retF, sSeq, contK, sIf, sAsg, sRet, sRetN, sExpr, sPar, sNil, gN, gSb, gT, gsNil, gsCons, eVar, eLit, eOp, eUn, eArgs, aNil, aCons, eIf, eAnd, eOr, eNot, tTru, tOp', tOfE, eChain, chainK, tNot', tAnd', tOr', ordD, addD, subD, negD, gcdD, mkTup, truD, blV, gcT_self, gcD_self, gcF_self, sizeLine_eq, eCall, e1, eqD_int, mkLst]
  have b1' : Bx (M1 ++ [.lst []]) b d (n + 1) := b1.app
  have nb : M1.length ≠ b := by have := b1.lt.1; omega
  have nd : M1.length ≠ d := by have := b1.lt.2; omega
  obtain ⟨fl, M2, e2, cf, b2, s2'⟩ := c_small b1' (by omega)
  obtain ⟨sp, M3, e3, cs, b3, s3'⟩ := c_small b2 (by omega)
  obtain ⟨sta, M4, e4, ct, b4, s4'⟩ := c_small b3 (by omega)
  have e14 : g_law_14 [s0, some (.ref b), some x, some (.bl (decide (r = 0))), some (.ref M1.length), s5, s6, s7, s8, s9, s10, s11, s12, s13, s14, s15, s16, s17, s18] (M1 ++ [.lst []]) = .ok (.nx [s0, some (.ref b), some x, some (.bl (decide (r = 0))), some (.ref M1.length), some (fr fl), some (fr sp), some (fr sta), s8, s9, s10, s11, s12, s13, s14, s15, s16, s17, s18]) M4 := by
    simp [g_law_14, retF, sSeq, contK, sIf, sAsg, sRet, sRetN, sExpr, sPar, sNil, gN, gSb, gT, gsNil, gsCons, eVar, eLit, eOp, eUn, eArgs, aNil, aCons, eIf, eAnd, eOr, eNot, tTru, tOp', tOfE, eChain, chainK, tNot', tAnd', tOr', ordD, addD, subD, negD, gcdD, mkTup, truD, blV, gcT_self, gcD_self, gcF_self, sizeLine_eq, eCall, e2, e3, e4]
  obtain ⟨kd, M5, e5, _, _, b5, s5'⟩ := c_draw (many := 3) b4 (by omega) (by omega)
  have e15 : g_law_15 [s0, some (.ref b), some x, some (.bl (decide (r = 0))), some (.ref M1.length), some (fr fl), some (fr sp), some (fr sta), s8, s9, s10, s11, s12, s13, s14, s15, s16, s17, s18] M4 = .ok (.nx [s0, some (.ref b), some x, some (.bl (decide (r = 0))), some (.ref M1.length), some (fr fl), some (fr sp), some (fr sta), some (.int kd), s9, s10, s11, s12, s13, s14, s15, s16, s17, s18]) M5 := by
    simp [g_law_15, retF, sSeq, contK, sIf, sAsg, sRet, sRetN, sExpr, sPar, sNil, gN, gSb, gT, gsNil, gsCons, eVar, eLit, eOp, eUn, eArgs, aNil, aCons, eIf, eAnd, eOr, eNot, tTru, tOp', tOfE, eChain, chainK, tNot', tAnd', tOr', ordD, addD, subD, negD, gcdD, mkTup, truD, blV, gcT_self, gcD_self, gcF_self, sizeLine_eq, eCall, e5]
  obtain ⟨c, M6, e6, c0, c1, b6, s6'⟩ := c_draw (many := 6) b5 (by omega) (by omega)
  obtain ⟨k, rfl⟩ : ∃ k : Nat, c = (k : Int) := ⟨c.toNat, by omega⟩
  have P6 : Pp M6 M1.length [] := ⟨by rw [s6'.at_ _ nb, s5'.at_ _ nb, s4'.at_ _ nb, s3'.at_ _ nb, s2'.at_ _ nb]; simp, fun p hp => nomatch hp⟩
  obtain ⟨pts, t9, t10, t11, M7, e7, b7, P7, l7, ll7⟩ := pt_loop (rngD 0 (1 + k)) M6 b d (n + 1 + 2 + 2 + 2 + 1 + 1) M1.length [] (decide (r = 0)) fl sp sta kd s0 (some x) s9 s10 s11 s12 s13 s14 s15 s16 s17 s18 b6 (by rw [rng_len]; omega) nb nd P6 (by rw [rng_len]; simp; omega) cf cs ct
  rw [rng_len] at b7 l7
  simp only [List.length_nil] at l7
  have it : iRg1 (eOp addD (eLit (.int 1)) (eCall 2 f__law_draw (aCons (eVar 1) (aCons (eLit (.int 6)) aNil)))) [s0, some (.ref b), some x, some (.bl (decide (r = 0))), some (.ref M1.length), some (fr fl), some (fr sp), some (fr sta), some (.int kd), s9, s10, s11, s12, s13, s14, s15, s16, s17, s18] M5 = .ok ⟨rngD 0 (1 + k), []⟩ M6 := by
    have ha : eOp addD (eLit (.int 1)) (eCall 2 f__law_draw (aCons (eVar 1) (aCons (eLit (.int 6)) aNil))) [s0, some (.ref b), some x, some (.bl (decide (r = 0))), some (.ref M1.length), some (fr fl), some (fr sp), some (fr sta), some (.int kd), s9, s10, s11, s12, s13, s14, s15, s16, s17, s18] M5 = .ok (.int ((1 + k : Nat) : Int)) M6 := by
      simp [retF, sSeq, contK, sIf, sAsg, sRet, sRetN, sExpr, sPar, sNil, gN, gSb, gT, gsNil, gsCons, eVar, eLit, eOp, eUn, eArgs, aNil, aCons, eIf, eAnd, eOr, eNot, tTru, tOp', tOfE, eChain, chainK, tNot', tAnd', tOr', ordD, addD, subD, negD, gcdD, mkTup, truD, blV, gcT_self, gcD_self, gcF_self, sizeLine_eq, eCall, e6]
    have c1 : -(2 ^ 62 : Int) ≤ ((1 + k : Nat) : Int) := by omega
    have c2 : ((1 + k : Nat) : Int) < 2 ^ 62 := by omega
    unfold iRg1
    rw [ha, R.bind_ok]
    dsimp only
    rw [if_pos ⟨c1, c2⟩, Int.toNat_natCast]
  have e16 : g_law_16 [s0, some (.ref b), some x, some (.bl (decide (r = 0))), some (.ref M1.length), some (fr fl), some (fr sp), some (fr sta), some (.int kd), s9, s10, s11, s12, s13, s14, s15, s16, s17, s18] M5 = .ok (.nx [s0, some (.ref b), some x, some (.bl (decide (r = 0))), some (.ref M1.length), some (fr fl), some (fr sp), some (fr sta), some (.int kd), t9, t10, t11, s12, s13, s14, s15, s16, s17, s18]) M7 := by
    unfold g_law_16 sFor
    rw [it, R.bind_ok]
    exact e7
  have hl6 : pts.length ≤ 6 := by omega
  have hl1 : 0 < pts.length := by omega
  have e16b : (sAsg (eArgs tupleD (aCons (eVar 4) aNil)) (gN 4)) [s0, some (.ref b), some x, some (.bl (decide (r = 0))), some (.ref M1.length), some (fr fl), some (fr sp), some (fr sta), some (.int kd), t9, t10, t11, s12, s13, s14, s15, s16, s17, s18] M7 = .ok (.nx [s0, some (.ref b), some x, some (.bl (decide (r = 0))), some (.tup (pts.map dP)), some (fr fl), some (fr sp), some (fr sta), some (.int kd), t9, t10, t11, s12, s13, s14, s15, s16, s17, s18]) M7 := by
    simp [retF, sSeq, contK, sIf, sAsg, sRet, sRetN, sExpr, sPar, sNil, gN, gSb, gT, gsNil, gsCons, eVar, eLit, eOp, eUn, eArgs, aNil, aCons, eIf, eAnd, eOr, eNot, tTru, tOp', tOfE, eChain, chainK, tNot', tAnd', tOr', ordD, addD, subD, negD, gcdD, mkTup, truD, blV, gcT_self, gcD_self, gcF_self, sizeLine_eq, tupleD, lstOf, P7.at_]
  have cb := c_best (m := M7) hl1 hl6 P7.pt
  have e17 : g_law_17 [s0, some (.ref b), some x, some (.bl (decide (r = 0))), some (.tup (pts.map dP)), some (fr fl), some (fr sp), some (fr sta), some (.int kd), t9, t10, t11, s12, s13, s14, s15, s16, s17, s18] M7 = .ok (.nx [s0, some (.ref b), some x, some (.bl (decide (r = 0))), some (.tup (pts.map dP)), some (fr fl), some (fr sp), some (fr sta), some (.int kd), t9, t10, t11, some (if vv pts = 0 then .non else .tup [fr (slp pts), fr (stt pts)]), s13, s14, s15, s16, s17, s18]) M7 := by
    simp [g_law_17, retF, sSeq, contK, sIf, sAsg, sRet, sRetN, sExpr, sPar, sNil, gN, gSb, gT, gsNil, gsCons, eVar, eLit, eOp, eUn, eArgs, aNil, aCons, eIf, eAnd, eOr, eNot, tTru, tOp', tOfE, eChain, chainK, tNot', tAnd', tOr', ordD, addD, subD, negD, gcdD, mkTup, truD, blV, gcT_self, gcD_self, gcF_self, sizeLine_eq, eCall, cb]
  obtain ⟨t12, t13, t14, t15, M8, e18, b8⟩ := st18 (s0 := s0) (s2 := some x) (s3 := some (.bl (decide (r = 0)))) (s5 := some (fr fl)) (s6 := some (fr sp)) (s7 := some (fr sta)) (s8 := some (.int kd)) (s9 := t9) (s10 := t10) (s11 := t11) (s13 := s13) (s14 := s14) (s15 := s15) (s16 := s16) (s17 := s17) (s18 := s18) b7 (by omega) hl1 hl6 P7.pt
  have hL := ln_small cs ct P7.pt
  have e19 := st19 (m := M8) (s0 := s0) (s1 := some (.ref b)) (s2 := some x) (s3 := some (.bl (decide (r = 0)))) (s5 := some (fr fl)) (s8 := some (.int kd)) (s9 := t9) (s10 := t10) (s11 := t11) (s12 := t12) (s13 := t13) (s14 := t14) (s15 := t15) (s16 := s16) (s17 := s17) (s18 := s18) hL hl6
  have e20 := st20 (m := M8 ++ [.lst (pts.map fun p => fr (res sp sta p))]) (Rn := M8.length) (s0 := s0) (s1 := some (.ref b)) (s2 := some x) (s3 := some (.bl (decide (r = 0)))) (s5 := some (fr fl)) (s8 := some (.int kd)) (s9 := t9) (s10 := t10) (s11 := t11) (s12 := t12) (s14 := t14) (s15 := t15) (s16 := s16) (s17 := s17) (s18 := s18) hL hl6 (by simp)
  have b9 : Bx (M8 ++ [.lst (pts.map fun p => fr (res sp sta p))]) b d (n + 40) := (b8.app).mono (by omega)
  show ∃ (pts : List (Rat × Rat)) (t2 t3 t5 t6 t7 t8 t9 t10 t11 t12 t13 t14 t15 t16 t17 t18 : Option D) (M' : Mem), gcF M ((R.ok ([s0, some (.ref b), s2, s3, s4, s5, s6, s7, s8, s9, s10, s11, s12, s13, s14, s15, s16, s17, s18].set 2 (some x)) M).bind fun ρ1 m1 => g_law_21 ρ1 m1) = _ ∧ _
  simp only [List.set, R.bind_ok, g_law_21, sSeq, e13, contK, e14, e15, e16, e16b, e17, e18, e19, e20]
  unfold gcF gcR
  dsimp only
  split
  · exact ⟨pts, _, _, _, _, _, _, _, _, _, _, _, _, _, _, _, _, _, rfl, b9.take h.lt.1 h.lt.2, hl6⟩
  · exact ⟨pts, _, _, _, _, _, _, _, _, _, _, _, _, _, _, _, _, _, rfl, b9, hl6⟩
end K34
end Dw

namespace Dw
namespace K34
open PySem PySem.Spec PyProof.Rows L2
theorem law_loop : ∀ (l : List D) (M : Mem) (b d n : Nat) (s0 s2 s3 s4 s5 s6 s7 s8 s9 s10 s11 s12 s13 s14 s15 s16 s17 s18 : Option D), Bx M b d n → n + 40 * l.length < 1000000 → (l ≠ [] ∨ ∃ pts : List (Rat × Rat), s4 = some (.tup (pts.map dP)) ∧ pts.length ≤ 6) →
    ∃ (pts : List (Rat × Rat)) (t2 t3 t5 t6 t7 t8 t9 t10 t11 t12 t13 t14 t15 t16 t17 t18 : Option D) (M' : Mem), forG [] (gN 2) g_law_21 l [s0, some (.ref b), s2, s3, s4, s5, s6, s7, s8, s9, s10, s11, s12, s13, s14, s15, s16, s17, s18] M = .ok (.nx [s0, some (.ref b), t2, t3, some (.tup (pts.map dP)), t5, t6, t7, t8, t9, t10, t11, t12, t13, t14, t15, t16, t17, t18]) M' ∧ pts.length ≤ 6 := by
  intro l
  induction l with
  | nil =>
    intro M b d n s0 s2 s3 s4 s5 s6 s7 s8 s9 s10 s11 s12 s13 s14 s15 s16 s17 s18 _ _ h
    rcases h with h | ⟨pts, rfl, hl⟩
    · exact absurd rfl h
    · exact ⟨pts, _, _, _, _, _, _, _, _, _, _, _, _, _, _, _, _, _, forG_nil, hl⟩
  | cons x l ih =>
    intro M b d n s0 s2 s3 s4 s5 s6 s7 s8 s9 s10 s11 s12 s13 s14 s15 s16 s17 s18 h hn _
    simp only [List.length_cons] at hn
    obtain ⟨pts, t2, t3, t5, t6, t7, t8, t9, t10, t11, t12, t13, t14, t15, t16, t17, t18, M1, e1, b1, hl1⟩ := law_turn (x := x) (s0 := s0) (s2 := s2) (s3 := s3) (s4 := s4) (s5 := s5) (s6 := s6) (s7 := s7) (s8 := s8) (s9 := s9) (s10 := s10) (s11 := s11) (s12 := s12) (s13 := s13) (s14 := s14) (s15 := s15) (s16 := s16) (s17 := s17) (s18 := s18) h (by omega)
    obtain ⟨pts', u2, u3, u5, u6, u7, u8, u9, u10, u11, u12, u13, u14, u15, u16, u17, u18, M2, e2, hl2⟩ := ih M1 b d (n + 40) s0 t2 t3 (some (.tup (pts.map dP))) t5 t6 t7 t8 t9 t10 t11 t12 t13 t14 t15 t16 t17 t18 b1 (by omega) (.inr ⟨pts, rfl, hl1⟩)
    refine ⟨pts', u2, u3, u5, u6, u7, u8, u9, u10, u11, u12, u13, u14, u15, u16, u17, u18, M2, ?_, hl2⟩
    rw [forG_cons, e1, R.bind_ok]
    exact e2
/-! what is refused -/
abbrev badD (z : Str) (m : Mem) : R D := .exc "BadValue" [("reason", .str z)] m
abbrev zP : Str := PySem.Str.ofString "points"
abbrev zL : Str := PySem.Str.ofString "line"
abbrev zB : Str := PySem.Str.ofString "bad value"
theorem ck_bad {d : D} {m : Mem} (h : f_check_points [d] m = badD zP m) : callD 1 f_check_points [d] m = badD zP m := callD_exc (g := []) rfl (by rw [List.append_nil]; exact h)
theorem ck_non {m : Mem} : callD 1 f_check_points [.non] m = badD zP m := ck_bad (by simp [f_check_points, fnB, g_check_points, retF, sSeq, contK, sIf, sAsg, sRet, sRetN, sExpr, sPar, sNil, gN, gSb, gT, gsNil, gsCons, eVar, eLit, eOp, eUn, eArgs, aNil, aCons, eIf, eAnd, eOr, eNot, tTru, tOp', tOfE, eChain, chainK, tNot', tAnd', tOr', ordD, addD, subD, negD, gcdD, mkTup, truD, blV, gcT_self, gcD_self, gcF_self, sizeLine_eq, isD1, tyB, sRaise])
theorem ck_ref {n : Nat} {xs : List D} {m : Mem} (h : m[n]? = some (.lst xs)) : callD 1 f_check_points [.ref n] m = badD zP m := ck_bad (by simp [f_check_points, fnB, g_check_points, retF, sSeq, contK, sIf, sAsg, sRet, sRetN, sExpr, sPar, sNil, gN, gSb, gT, gsNil, gsCons, eVar, eLit, eOp, eUn, eArgs, aNil, aCons, eIf, eAnd, eOr, eNot, tTru, tOp', tOfE, eChain, chainK, tNot', tAnd', tOr', ordD, addD, subD, negD, gcdD, mkTup, truD, blV, gcT_self, gcD_self, gcF_self, sizeLine_eq, isD1, tyB, sRaise, h])
theorem ck_one {x : D} {m : Mem} (h : callD 1 f_is_point [x] m = .ok (.bl false) m) : callD 1 f_check_points [.tup [x]] m = badD zP m := ck_bad (by
  have al : allD [.ref m.length] (m ++ [.lst [.bl false]]) = some (.bl false, m ++ [.lst [.bl false]]) := by simp [allD, lstOf, blV]
  simp [f_check_points, fnB, g_check_points, retF, sSeq, contK, sIf, sAsg, sRet, sRetN, sExpr, sPar, sNil, gN, gSb, gT, gsNil, gsCons, eVar, eLit, eOp, eUn, eArgs, aNil, aCons, eIf, eAnd, eOr, eNot, tTru, tOp', tOfE, eChain, chainK, tNot', tAnd', tOr', ordD, addD, subD, negD, gcdD, mkTup, truD, blV, gcT_self, gcD_self, gcF_self, sizeLine_eq, isD1, tyB, eComp, iSeq, compG_nil, compG_cons, turnC, wipeE, gcO_self, keepD, R.noexc, tYes', eCall, h, al, gcT_app, sRaise])
theorem ck_two {x y : D} {a : Bool} {m : Mem} (h : callD 1 f_is_point [x] m = .ok (.bl false) m) (h2 : callD 1 f_is_point [y] m = .ok (.bl a) m) : callD 1 f_check_points [.tup [x, y]] m = badD zP m := ck_bad (by
  have al : allD [.ref m.length] (m ++ [.lst [.bl false, .bl a]]) = some (.bl false, m ++ [.lst [.bl false, .bl a]]) := by simp [allD, lstOf, blV]
  simp [f_check_points, fnB, g_check_points, retF, sSeq, contK, sIf, sAsg, sRet, sRetN, sExpr, sPar, sNil, gN, gSb, gT, gsNil, gsCons, eVar, eLit, eOp, eUn, eArgs, aNil, aCons, eIf, eAnd, eOr, eNot, tTru, tOp', tOfE, eChain, chainK, tNot', tAnd', tOr', ordD, addD, subD, negD, gcdD, mkTup, truD, blV, gcT_self, gcD_self, gcF_self, sizeLine_eq, isD1, tyB, eComp, iSeq, compG_nil, compG_cons, turnC, wipeE, gcO_self, keepD, R.noexc, tYes', eCall, h, h2, al, gcT_app, sRaise])
def odd1 (L : Nat) : List D := [.non, .ref L, .tup [.non], .tup [.tup [.int 0, .int 1], .tup [.int 1, .int 2]], .tup [.tup [.tup [.int 0, .int 2], .tup [.int 1, .int 2]]], .tup [.tup [.tup [.int 0, .int 1], .int 1]]]
theorem odd1_bad {M : Mem} {L : Nat} (hL : M[L]? = some (.lst [])) : ∀ o ∈ odd1 L, callD 1 f_check_points [o] M = badD zP M := by
  intro o ho
  simp only [odd1, List.mem_cons, List.not_mem_nil, or_false] at ho
  rcases ho with rfl | rfl | rfl | rfl | rfl | rfl
  · exact ck_non
  · exact ck_ref hL
  · exact ck_one p_non
  · exact ck_two (a := false) (p_two (a := false) (b := false) (fun _ => f_int) (fun _ => f_int)) (p_two (a := false) (b := false) (fun _ => f_int) (fun _ => f_int))
  · exact ck_one (p_two (a := false) (b := true) (fun _ => f_two) (fun _ => f_two))
  · exact ck_one (p_two (a := true) (b := false) (fun _ => f_two) (fun _ => f_int))
theorem best_bad {d : D} {m : Mem} (h : callD 1 f_check_points [d] m = badD zP m) : callD 1 f_best_straight [d] m = badD zP m := callD_exc (g := []) rfl (by simp [f_best_straight, fnB, g_best_straight, retF, sSeq, contK, sIf, sAsg, sRet, sRetN, sExpr, sPar, sNil, gN, gSb, gT, gsNil, gsCons, eVar, eLit, eOp, eUn, eArgs, aNil, aCons, eIf, eAnd, eOr, eNot, tTru, tOp', tOfE, eChain, chainK, tNot', tAnd', tOr', ordD, addD, subD, negD, gcdD, mkTup, truD, blV, gcT_self, gcD_self, gcF_self, sizeLine_eq, eCall, h])
theorem ssq_bad {d x y : D} {m : Mem} (h : callD 1 f_check_points [d] m = badD zP m) : callD 3 f_squares_sum [d, x, y] m = badD zP m := callD_exc (g := []) rfl (by simp [f_squares_sum, fnB, g_squares_sum, retF, sSeq, contK, sIf, sAsg, sRet, sRetN, sExpr, sPar, sNil, gN, gSb, gT, gsNil, gsCons, eVar, eLit, eOp, eUn, eArgs, aNil, aCons, eIf, eAnd, eOr, eNot, tTru, tOp', tOfE, eChain, chainK, tNot', tAnd', tOr', ordD, addD, subD, negD, gcdD, mkTup, truD, blV, gcT_self, gcD_self, gcF_self, sizeLine_eq, eCall, h])
theorem ssq_line1 {pts : List (Rat × Rat)} {x y : D} {m : Mem} (hl : pts.length ≤ 6) (h : callD 1 f_is_fraction [x] m = .ok (.bl false) m) : callD 3 f_squares_sum [.tup (pts.map dP), x, y] m = badD zL m := callD_exc (g := []) rfl (by
  have ck := ck_pts (pts := pts) (m := m) (by omega)
  simp [f_squares_sum, fnB, g_squares_sum, retF, sSeq, contK, sIf, sAsg, sRet, sRetN, sExpr, sPar, sNil, gN, gSb, gT, gsNil, gsCons, eVar, eLit, eOp, eUn, eArgs, aNil, aCons, eIf, eAnd, eOr, eNot, tTru, tOp', tOfE, eChain, chainK, tNot', tAnd', tOr', ordD, addD, subD, negD, gcdD, mkTup, truD, blV, gcT_self, gcD_self, gcF_self, sizeLine_eq, eCall, ck, h, sRaise])
theorem ssq_line2 {pts : List (Rat × Rat)} {x y : D} {m : Mem} (hl : pts.length ≤ 6) (h0 : callD 1 f_is_fraction [x] m = .ok (.bl true) m) (h : callD 1 f_is_fraction [y] m = .ok (.bl false) m) : callD 3 f_squares_sum [.tup (pts.map dP), x, y] m = badD zL m := callD_exc (g := []) rfl (by
  have ck := ck_pts (pts := pts) (m := m) (by omega)
  simp [f_squares_sum, fnB, g_squares_sum, retF, sSeq, contK, sIf, sAsg, sRet, sRetN, sExpr, sPar, sNil, gN, gSb, gT, gsNil, gsCons, eVar, eLit, eOp, eUn, eArgs, aNil, aCons, eIf, eAnd, eOr, eNot, tTru, tOp', tOfE, eChain, chainK, tNot', tAnd', tOr', ordD, addD, subD, negD, gcdD, mkTup, truD, blV, gcT_self, gcD_self, gcF_self, sizeLine_eq, eCall, ck, h0, h, sRaise])
/-- told twice, and looked at -/
abbrev msg1 (z : Str) : List D := [.str zB, .str z]
theorem told_bad {g : G} {ρ : Env} {M : Mem} {z : Str} (h : g ρ M = badD z M) : eTold told_l g ρ M = .ok (.ref M.length) (M ++ [.lst (msg1 z)]) := by
  unfold eTold
  rw [h]
  rfl
def pMsg (z : Str) : PyData := .list [.list [.str zB, .str z], .list [.str zB, .str z]]
theorem toP_two {z : Str} {m : Mem} {n a b : Nat} (h : m[n]? = some (.lst [.ref a, .ref b])) (ha : m[a]? = some (.lst (msg1 z))) (hb : m[b]? = some (.lst (msg1 z))) : toP 66 m (.ref n) = some (pMsg z) := by
  have one : ∀ a, m[a]? = some (.lst (msg1 z)) → toP 65 m (.ref a) = some (.list [.str zB, .str z]) := fun a h => by
    unfold toP
    simp [h, toP]
  unfold toP
  simp [h, one a ha, one b hb, pMsg]
theorem neD_msg {z : Str} {m : Mem} {n k a b c d : Nat} (hz : SeqAt.shaped (pMsg z) = true ∧ PyData.eqv (pMsg z) (pMsg z) = true) (h : m[n]? = some (.lst [.ref a, .ref b])) (ha : m[a]? = some (.lst (msg1 z))) (hb : m[b]? = some (.lst (msg1 z))) (h' : m[k]? = some (.lst [.ref c, .ref d])) (hc : m[c]? = some (.lst (msg1 z))) (hd : m[d]? = some (.lst (msg1 z))) : neD (.ref n) (.ref k) m = some (.bl false, m) := by
  unfold neD eqvD
  simp only [toP_two h ha hb, toP_two h' hc hd]
  rw [if_pos ⟨hz.1, hz.1⟩, hz.2]
  rfl
noncomputable def tA (G1 : G) : GS := sAsg (eArgs mkLst (aCons (eTold told_l G1) aNil)) (gN 12)
noncomputable def tB (G2 : G) : GS := sExpr (eMeth "list" appD (eVar 12) (aCons (eTold told_l G2) aNil))
noncomputable def tC (z : Str) : GS := sIf (tOp' neD (eVar 12) (eOp mulD (eArgs mkLst (aCons (eArgs mkLst (aCons (eLit (.str zB)) (aCons (eLit (.str z)) aNil))) aNil)) (eLit (.int 2)))) (sRet (eLit (.bl false))) sNil
theorem told_turn {G1 G2 : G} {z : Str} {M : Mem} {s0 s1 s2 s3 s4 s5 s6 s7 s8 s9 s10 s11 s12 s13 s14 s15 s16 s17 s18 : Option D} (hz : SeqAt.shaped (pMsg z) = true ∧ PyData.eqv (pMsg z) (pMsg z) = true) (h1 : G1 [s0, s1, s2, s3, s4, s5, s6, s7, s8, s9, s10, s11, s12, s13, s14, s15, s16, s17, s18] M = badD z M)
    (h2 : ∀ v g, G2 [s0, s1, s2, s3, s4, s5, s6, s7, s8, s9, s10, s11, v, s13, s14, s15, s16, s17, s18] (M ++ g) = badD z (M ++ g)) :
    ∃ g, sSeq (tA G1) (sSeq (tB G2) (tC z)) [s0, s1, s2, s3, s4, s5, s6, s7, s8, s9, s10, s11, s12, s13, s14, s15, s16, s17, s18] M = .ok (.nx [s0, s1, s2, s3, s4, s5, s6, s7, s8, s9, s10, s11, some (.ref (M.length + 1)), s13, s14, s15, s16, s17, s18]) (M ++ g) := by
  have t1 := told_bad h1
  have e6 : tA G1 [s0, s1, s2, s3, s4, s5, s6, s7, s8, s9, s10, s11, s12, s13, s14, s15, s16, s17, s18] M = .ok (.nx [s0, s1, s2, s3, s4, s5, s6, s7, s8, s9, s10, s11, some (.ref (M.length + 1)), s13, s14, s15, s16, s17, s18]) (M ++ [.lst (msg1 z), .lst [.ref M.length]]) := by
    simp [tA, retF, sSeq, contK, sIf, sAsg, sRet, sRetN, sExpr, sPar, sNil, gN, gSb, gT, gsNil, gsCons, eVar, eLit, eOp, eUn, eArgs, aNil, aCons, eIf, eAnd, eOr, eNot, tTru, tOp', tOfE, eChain, chainK, tNot', tAnd', tOr', ordD, addD, subD, negD, gcdD, mkTup, truD, blV, gcT_self, gcD_self, gcF_self, sizeLine_eq, t1, mkLst]
  have t2 : eTold told_l G2 [s0, s1, s2, s3, s4, s5, s6, s7, s8, s9, s10, s11, some (.ref (M.length + 1)), s13, s14, s15, s16, s17, s18] (M ++ [.lst (msg1 z), .lst [.ref M.length]]) = .ok (.ref (M.length + 2)) (M ++ [.lst (msg1 z), .lst [.ref M.length], .lst (msg1 z)]) := by
    rw [told_bad (h2 (some (.ref (M.length + 1))) [.lst (msg1 z), .lst [.ref M.length]])]
    simp
  have ap : appD (.ref (M.length + 1)) [.ref (M.length + 2)] (M ++ [.lst (msg1 z), .lst [.ref M.length], .lst (msg1 z)]) = some (.non, M ++ [.lst (msg1 z), .lst [.ref M.length, .ref (M.length + 2)], .lst (msg1 z)]) := by
    simp [appD, sizeLine_eq, List.set_append]
  have ty : tyD "list" (.ref (M.length + 1)) (M ++ [.lst (msg1 z), .lst [.ref M.length]]) = true := by simp [tyD]
  have e7 : tB G2 [s0, s1, s2, s3, s4, s5, s6, s7, s8, s9, s10, s11, some (.ref (M.length + 1)), s13, s14, s15, s16, s17, s18] (M ++ [.lst (msg1 z), .lst [.ref M.length]]) = .ok (.nx [s0, s1, s2, s3, s4, s5, s6, s7, s8, s9, s10, s11, some (.ref (M.length + 1)), s13, s14, s15, s16, s17, s18]) (M ++ [.lst (msg1 z), .lst [.ref M.length, .ref (M.length + 2)], .lst (msg1 z)]) := by
    simp [tB, retF, sSeq, contK, sIf, sAsg, sRet, sRetN, sExpr, sPar, sNil, gN, gSb, gT, gsNil, gsCons, eVar, eLit, eOp, eUn, eArgs, aNil, aCons, eIf, eAnd, eOr, eNot, tTru, tOp', tOfE, eChain, chainK, tNot', tAnd', tOr', ordD, addD, subD, negD, gcdD, mkTup, truD, blV, gcT_self, gcD_self, gcF_self, sizeLine_eq, eMeth, methK, ty, t2, ap]
  obtain ⟨N, eN⟩ : ∃ N, N = M ++ [.lst (msg1 z), .lst [.ref M.length, .ref (M.length + 2)], .lst (msg1 z)] := ⟨_, rfl⟩
  have k1 : N[M.length + 1]? = some (.lst [.ref M.length, .ref (M.length + 2)]) := by rw [eN]; simp
  have k2 : N[M.length]? = some (.lst (msg1 z)) := by rw [eN]; simp
  have k3 : N[M.length + 2]? = some (.lst (msg1 z)) := by rw [eN]; simp
  have up : ∀ i c g, N[i]? = some c → (N ++ g)[i]? = some c := fun i c g h => by rw [List.getElem?_append_left (List.getElem?_eq_some_iff.mp h).1]; exact h
  obtain ⟨tail, et⟩ : ∃ t : Mem, t = [.lst (msg1 z), .lst [.ref N.length], .lst [.ref N.length, .ref N.length]] := ⟨_, rfl⟩
  have n1 : (N ++ tail)[N.length + 2]? = some (.lst [.ref N.length, .ref N.length]) := by rw [et]; simp
  have n2 : (N ++ tail)[N.length]? = some (.lst (msg1 z)) := by rw [et]; simp
  have ne : neD (.ref (M.length + 1)) (.ref (N.length + 2)) (N ++ tail) = some (.bl false, N ++ tail) := neD_msg hz (up _ _ _ k1) (up _ _ _ k2) (up _ _ _ k3) n1 n2 n2
  have ml : mulD (.ref (N.length + 1)) (.int 2) (N ++ [.lst (msg1 z), .lst [.ref N.length]]) = some (.ref (N.length + 2), N ++ tail) := by
    simp [mulD, et, sizeLine_eq]
  have e8 : tC z [s0, s1, s2, s3, s4, s5, s6, s7, s8, s9, s10, s11, some (.ref (M.length + 1)), s13, s14, s15, s16, s17, s18] N = .ok (.nx [s0, s1, s2, s3, s4, s5, s6, s7, s8, s9, s10, s11, some (.ref (M.length + 1)), s13, s14, s15, s16, s17, s18]) N := by
    simp [tC, retF, sSeq, contK, sIf, sAsg, sRet, sRetN, sExpr, sPar, sNil, gN, gSb, gT, gsNil, gsCons, eVar, eLit, eOp, eUn, eArgs, aNil, aCons, eIf, eAnd, eOr, eNot, tTru, tOp', tOfE, eChain, chainK, tNot', tAnd', tOr', ordD, addD, subD, negD, gcdD, mkTup, truD, blV, gcT_self, gcD_self, gcF_self, sizeLine_eq, mkLst, ml, ne, gcT_app]
  rw [← eN] at e7
  refine ⟨[.lst (msg1 z), .lst [.ref M.length, .ref (M.length + 2)], .lst (msg1 z)], ?_⟩
  rw [← eN]
  exact seq_ok e6 (seq_ok e7 e8)
theorem gcF_or {M g : Mem} {f : Fl} : ∃ g', gcF M (.ok f (M ++ g)) = .ok f (M ++ g') := by
  unfold gcF gcR
  dsimp only
  split
  · exact ⟨[], by rw [List.take_left]; simp⟩
  · exact ⟨g, rfl⟩
/-- such a loop -/
theorem odd_loop {G1 G2 : G} {z : Str} {M : Mem} {s0 s1 s2 s3 s4 s5 s6 s7 s8 s9 s10 s11 s13 s14 s15 s17 s18 : Option D} (hz : SeqAt.shaped (pMsg z) = true ∧ PyData.eqv (pMsg z) (pMsg z) = true) : ∀ (l : List D) (g : Mem) (s12 s16 : Option D),
    (∀ o ∈ l, ∀ v g, G1 [s0, s1, s2, s3, s4, s5, s6, s7, s8, s9, s10, s11, v, s13, s14, s15, some o, s17, s18] (M ++ g) = badD z (M ++ g) ∧ G2 [s0, s1, s2, s3, s4, s5, s6, s7, s8, s9, s10, s11, v, s13, s14, s15, some o, s17, s18] (M ++ g) = badD z (M ++ g)) →
    ∃ (t12 t16 : Option D) (g' : Mem), forG [] (gN 16) (sSeq (tA G1) (sSeq (tB G2) (tC z))) l [s0, s1, s2, s3, s4, s5, s6, s7, s8, s9, s10, s11, s12, s13, s14, s15, s16, s17, s18] (M ++ g) = .ok (.nx [s0, s1, s2, s3, s4, s5, s6, s7, s8, s9, s10, s11, t12, s13, s14, s15, t16, s17, s18]) (M ++ g') := by
  intro l
  induction l with
  | nil => intro g s12 s16 _; exact ⟨s12, s16, g, forG_nil⟩
  | cons o l ih =>
    intro g s12 s16 h
    have ho := h o List.mem_cons_self
    obtain ⟨g1, e1⟩ := told_turn (G1 := G1) (G2 := G2) (M := M ++ g) (s12 := s12) hz (ho s12 g).1 (fun v g2 => by rw [List.append_assoc]; exact (ho v _).2)
    obtain ⟨g2, e2⟩ := gcF_or (M := M ++ g) (g := g1) (f := .nx [s0, s1, s2, s3, s4, s5, s6, s7, s8, s9, s10, s11, some (.ref ((M ++ g).length + 1)), s13, s14, s15, some o, s17, s18])
    obtain ⟨t12, t16, g3, e3⟩ := ih (g ++ g2) (some (.ref ((M ++ g).length + 1))) (some o) fun y hy => h y (List.mem_cons_of_mem _ hy)
    refine ⟨t12, t16, g3, ?_⟩
    have e0 : ((gN 16 o [s0, s1, s2, s3, s4, s5, s6, s7, s8, s9, s10, s11, s12, s13, s14, s15, s16, s17, s18] (M ++ g)).bind fun ρ1 m1 => (sSeq (tA G1) (sSeq (tB G2) (tC z))) ρ1 m1) = .ok (.nx [s0, s1, s2, s3, s4, s5, s6, s7, s8, s9, s10, s11, some (.ref ((M ++ g).length + 1)), s13, s14, s15, some o, s17, s18]) ((M ++ g) ++ g1) := e1
    rw [forG_cons, e0, e2, R.bind_ok]
    dsimp only
    rw [List.append_assoc]
    exact e3
theorem hzP : SeqAt.shaped (pMsg zP) = true ∧ PyData.eqv (pMsg zP) (pMsg zP) = true := ⟨by decide +kernel, by decide +kernel⟩
theorem hzL : SeqAt.shaped (pMsg zL) = true ∧ PyData.eqv (pMsg zL) (pMsg zL) = true := ⟨by decide +kernel, by decide +kernel⟩
end K34
end Dw

namespace Dw
namespace K34
open PySem PySem.Spec PyProof.Rows L2
theorem st31 {M : Mem} {s0 s1 s2 s3 s4 s5 s6 s7 s8 s9 s10 s11 s12 s13 s14 s15 s16 s17 s18 : Option D} : ∃ (t12 t16 : Option D) (M' : Mem), g_law_31 [s0, s1, s2, s3, s4, s5, s6, s7, s8, s9, s10, s11, s12, s13, s14, s15, s16, s17, s18] M = .ok (.nx [s0, s1, s2, s3, s4, s5, s6, s7, s8, s9, s10, s11, t12, s13, s14, s15, t16, s17, s18]) M' := by
  have bd : g_law_25 = sSeq (tA (eCall 1 f_best_straight (aCons (eVar 16) aNil))) (sSeq (tB (eCall 3 f_squares_sum (aCons (eVar 16) (aCons (eLit .non) (aCons (eLit .non) aNil))))) (tC zP)) := rfl
  have L : ∀ g : Mem, (M ++ [.lst []] ++ g)[M.length]? = some (.lst []) := fun g => by rw [List.append_assoc]; simp
  obtain ⟨t12, t16, g', e⟩ := odd_loop (G1 := eCall 1 f_best_straight (aCons (eVar 16) aNil)) (G2 := eCall 3 f_squares_sum (aCons (eVar 16) (aCons (eLit .non) (aCons (eLit .non) aNil)))) (z := zP) (M := M ++ [.lst []]) (s0 := s0) (s1 := s1) (s2 := s2) (s3 := s3) (s4 := s4) (s5 := s5) (s6 := s6) (s7 := s7) (s8 := s8) (s9 := s9) (s10 := s10) (s11 := s11) (s13 := s13) (s14 := s14) (s15 := s15) (s17 := s17) (s18 := s18) hzP (odd1 M.length) [] s12 s16 (fun o ho v g => by
    have c := odd1_bad (L g) o ho
    have b1 := best_bad c
    have b2 := ssq_bad (x := .non) (y := .non) c
    constructor
    · simp only [eCall, aCons, aNil, eVar, List.getElem?_cons_succ, List.getElem?_cons_zero, R.bind_ok]
      exact b1
    · simp only [eCall, aCons, aNil, eVar, eLit, List.getElem?_cons_succ, List.getElem?_cons_zero, R.bind_ok]
      exact b2)
  rw [List.append_nil, ← bd] at e
  refine ⟨t12, t16, M ++ [.lst []] ++ g', ?_⟩
  unfold g_law_31 sFor
  have it : (iSeq (eArgs mkTup (aCons (eLit .non) (aCons (eArgs mkLst aNil) (aCons (eArgs mkTup (aCons (eLit .non) aNil)) (aCons (eArgs mkTup (aCons (eArgs mkTup (aCons (eLit (.int 0)) (aCons (eLit (.int 1)) aNil))) (aCons (eArgs mkTup (aCons (eLit (.int 1)) (aCons (eLit (.int 2)) aNil))) aNil))) (aCons (eArgs mkTup (aCons (eArgs mkTup (aCons (eArgs mkTup (aCons (eLit (.int 0)) (aCons (eLit (.int 2)) aNil))) (aCons (eArgs mkTup (aCons (eLit (.int 1)) (aCons (eLit (.int 2)) aNil))) aNil))) aNil)) (aCons (eArgs mkTup (aCons (eArgs mkTup (aCons (eArgs mkTup (aCons (eLit (.int 0)) (aCons (eLit (.int 1)) aNil))) (aCons (eLit (.int 1)) aNil))) aNil)) aNil)))))))) [s0, s1, s2, s3, s4, s5, s6, s7, s8, s9, s10, s11, s12, s13, s14, s15, s16, s17, s18] M = .ok ⟨odd1 M.length, []⟩ (M ++ [.lst []]) := by
    simp [iSeq, retF, sSeq, contK, sIf, sAsg, sRet, sRetN, sExpr, sPar, sNil, gN, gSb, gT, gsNil, gsCons, eVar, eLit, eOp, eUn, eArgs, aNil, aCons, eIf, eAnd, eOr, eNot, tTru, tOp', tOfE, eChain, chainK, tNot', tAnd', tOr', ordD, addD, subD, negD, gcdD, mkTup, truD, blV, gcT_self, gcD_self, gcF_self, sizeLine_eq, mkLst, odd1]
  rw [it, R.bind_ok]
  exact e
theorem st32 {M : Mem} {pts : List (Rat × Rat)} {s0 s1 s2 s3 s5 s6 s7 s8 s9 s10 s11 s12 s13 s14 s15 s16 s17 s18 : Option D} (hl : pts.length ≤ 6) : ∃ (t12 t16 : Option D) (M' : Mem), g_law_32 [s0, s1, s2, s3, some (.tup (pts.map dP)), s5, s6, s7, s8, s9, s10, s11, s12, s13, s14, s15, s16, s17, s18] M = .ok (.nx [s0, s1, s2, s3, some (.tup (pts.map dP)), s5, s6, s7, s8, s9, s10, s11, t12, s13, s14, s15, t16, s17, s18]) M' := by
  have bd : g_law_29 = sSeq (tA (eCall 3 f_squares_sum (aCons (eVar 4) (aCons (eVar 16) (aCons (eArgs mkTup (aCons (eLit (.int 0)) (aCons (eLit (.int 1)) aNil))) aNil))))) (sSeq (tB (eCall 3 f_squares_sum (aCons (eVar 4) (aCons (eArgs mkTup (aCons (eLit (.int 0)) (aCons (eLit (.int 1)) aNil))) (aCons (eVar 16) aNil))))) (tC zL)) := rfl
  have f01 : ∀ m, callD 1 f_is_fraction [.tup [.int 0, .int 1]] m = .ok (.bl true) m := fun m => f_two
  obtain ⟨t12, t16, g', e⟩ := odd_loop (G1 := eCall 3 f_squares_sum (aCons (eVar 4) (aCons (eVar 16) (aCons (eArgs mkTup (aCons (eLit (.int 0)) (aCons (eLit (.int 1)) aNil))) aNil)))) (G2 := eCall 3 f_squares_sum (aCons (eVar 4) (aCons (eArgs mkTup (aCons (eLit (.int 0)) (aCons (eLit (.int 1)) aNil))) (aCons (eVar 16) aNil)))) (z := zL) (M := M) (s0 := s0) (s1 := s1) (s2 := s2) (s3 := s3) (s4 := some (.tup (pts.map dP))) (s5 := s5) (s6 := s6) (s7 := s7) (s8 := s8) (s9 := s9) (s10 := s10) (s11 := s11) (s13 := s13) (s14 := s14) (s15 := s15) (s17 := s17) (s18 := s18) hzL [.non, .int 1, .tup [.int 2, .int 4], .tup [.int 1, .int 0]] [] s12 s16 (fun o ho v g => by
    have c : callD 1 f_is_fraction [o] (M ++ g) = .ok (.bl false) (M ++ g) := by
      simp only [List.mem_cons, List.not_mem_nil, or_false] at ho
      rcases ho with rfl | rfl | rfl | rfl
      · exact f_non
      · exact f_int
      · exact f_two
      · exact f_two
    have b1 := ssq_line1 (pts := pts) (x := o) (y := .tup [.int 0, .int 1]) hl c
    have b2 := ssq_line2 (pts := pts) (x := .tup [.int 0, .int 1]) (y := o) hl (f01 (M ++ g)) c
    have k : (2 : Nat) ≤ sizeLine := by rw [sizeLine_eq]; omega
    constructor
    · simp only [eCall, eArgs, aCons, aNil, eVar, eLit, mkTup, List.length_cons, List.length_nil, List.getElem?_cons_succ, List.getElem?_cons_zero, R.bind_ok, R.of_some, Nat.zero_add, Nat.reduceAdd, k, if_true]
      exact b1
    · simp only [eCall, eArgs, aCons, aNil, eVar, eLit, mkTup, List.length_cons, List.length_nil, List.getElem?_cons_succ, List.getElem?_cons_zero, R.bind_ok, R.of_some, Nat.zero_add, Nat.reduceAdd, k, if_true]
      exact b2)
  rw [List.append_nil, ← bd] at e
  refine ⟨t12, t16, M ++ g', ?_⟩
  unfold g_law_32 sFor
  have it : (iSeq (eArgs mkTup (aCons (eLit .non) (aCons (eLit (.int 1)) (aCons (eArgs mkTup (aCons (eLit (.int 2)) (aCons (eLit (.int 4)) aNil))) (aCons (eArgs mkTup (aCons (eLit (.int 1)) (aCons (eLit (.int 0)) aNil))) aNil)))))) [s0, s1, s2, s3, some (.tup (pts.map dP)), s5, s6, s7, s8, s9, s10, s11, s12, s13, s14, s15, s16, s17, s18] M = .ok ⟨[.non, .int 1, .tup [.int 2, .int 4], .tup [.int 1, .int 0]], []⟩ M := by
    simp [iSeq, retF, sSeq, contK, sIf, sAsg, sRet, sRetN, sExpr, sPar, sNil, gN, gSb, gT, gsNil, gsCons, eVar, eLit, eOp, eUn, eArgs, aNil, aCons, eIf, eAnd, eOr, eNot, tTru, tOp', tOfE, eChain, chainK, tNot', tAnd', tOr', ordD, addD, subD, negD, gcdD, mkTup, truD, blV, gcT_self, gcD_self, gcF_self, sizeLine_eq]
  rw [it, R.bind_ok]
  exact e
theorem best_none {m : Mem} : callD 1 f_best_straight [.tup []] m = badD zP m := callD_exc (g := []) rfl (by
  have ck := ck_pts (pts := []) (m := m) (by simp)
  rw [List.map_nil] at ck
  simp [f_best_straight, fnB, g_best_straight, retF, sSeq, contK, sIf, sAsg, sRet, sRetN, sExpr, sPar, sNil, gN, gSb, gT, gsNil, gsCons, eVar, eLit, eOp, eUn, eArgs, aNil, aCons, eIf, eAnd, eOr, eNot, tTru, tOp', tOfE, eChain, chainK, tNot', tAnd', tOr', ordD, addD, subD, negD, gcdD, mkTup, truD, blV, gcT_self, gcD_self, gcF_self, sizeLine_eq, eCall, ck, sRaise])
theorem eqD_one {m : Mem} {n k : Nat} (h : m[n]? = some (.lst (msg1 zP))) (h' : m[k]? = some (.lst (msg1 zP))) : eqD (.ref n) (.ref k) m = some (.bl true, m) := by
  have one : ∀ a, m[a]? = some (.lst (msg1 zP)) → toP 66 m (.ref a) = some (.list [.str zB, .str zP]) := fun a h => by
    unfold toP
    simp [h, toP]
  unfold eqD eqvD
  simp only [one n h, one k h']
  rw [if_pos ⟨by decide +kernel, by decide +kernel⟩, show PyData.eqv (.list [.str zB, .str zP]) (.list [.str zB, .str zP]) = true by decide +kernel]
  rfl
theorem st33 {M : Mem} {ρ : Env} : ∃ M', g_law_33 ρ M = .ok (.ret (.bl true)) M' := by
  have t1 := told_bad (g := eCall 1 f_best_straight (aCons (eArgs mkTup aNil) aNil)) (ρ := ρ) (M := M) (z := zP) (by
    simp [retF, sSeq, contK, sIf, sAsg, sRet, sRetN, sExpr, sPar, sNil, gN, gSb, gT, gsNil, gsCons, eVar, eLit, eOp, eUn, eArgs, aNil, aCons, eIf, eAnd, eOr, eNot, tTru, tOp', tOfE, eChain, chainK, tNot', tAnd', tOr', ordD, addD, subD, negD, gcdD, mkTup, truD, blV, gcT_self, gcD_self, gcF_self, sizeLine_eq, eCall, best_none])
  have e1 := eqD_one (m := M ++ [.lst (msg1 zP), .lst (msg1 zP)]) (n := M.length) (k := M.length + 1) (by simp) (by simp)
  have l1 : Ln 1 1 1 [] := ⟨by omega, by decide, sz_one 400 (by omega), sz_one 400 (by omega), fun p hp => nomatch hp⟩
  have q := fun m => c_ssq (m := m) l1 (by simp)
  have sm := fun m => same_fr (m := m) (p := ssq 1 1 []) rfl (ssq_sz l1 (by simp)) (by omega) (by omega)
  have z0 : fr (ssq 1 1 []) = .tup [.int 0, .int 1] := rfl
  have z1 : fr 1 = .tup [.int 1, .int 1] := rfl
  simp only [z0, z1, List.map_nil] at q sm
  refine ⟨M ++ [.lst (msg1 zP), .lst (msg1 zP)], ?_⟩
  unfold g_law_33
  generalize eTold told_l (eCall 1 f_best_straight (aCons (eArgs mkTup aNil) aNil)) = G at t1 ⊢
  simp [retF, sSeq, contK, sIf, sAsg, sRet, sRetN, sExpr, sPar, sNil, gN, gSb, gT, gsNil, gsCons, eVar, eLit, eOp, eUn, eArgs, aNil, aCons, eIf, eAnd, eOr, eNot, tTru, tOp', tOfE, eChain, chainK, tNot', tAnd', tOr', ordD, addD, subD, negD, gcdD, mkTup, truD, blV, gcT_self, gcD_self, gcF_self, sizeLine_eq, eCall, t1, mkLst, e1, q, sm]
theorem law_ok (ns : List Int) : ∃ m, f_law [.fl (ns.map D.int)] [] = .ok (.bl true) m := by
  obtain ⟨M, e, xs, eM, hx, hl⟩ := s_digits ns
  have cd : callD 3 f__law_digits [.fl (ns.map D.int), .int 0, .int 63] [] = .ok (.ref 0) M := by
    unfold callD
    rw [if_pos (show ([D.fl (ns.map D.int), .int 0, .int 63] : List D).length = 3 from rfl), e]
    unfold gcD gcR
    dsimp only
    rw [if_neg (fun z => by simp [D.fits] at z)]
  have lM : M.length = 1 := by rw [eM]; rfl
  have bx : Bx (M ++ [.lst [.ref 0, .int 0]]) 1 0 0 := by
    refine ⟨⟨0, ?_, Nat.le_refl _⟩, ⟨xs, ?_, hx⟩, by omega⟩
    · rw [eM]; rfl
    · rw [eM]; rfl
  have e30 : g_law_30 [some (.fl (ns.map D.int)), none, none, none, none, none, none, none, none, none, none, none, none, none, none, none, none, none, none] [] = .ok (.nx [some (.fl (ns.map D.int)), some (.ref 1), none, none, none, none, none, none, none, none, none, none, none, none, none, none, none, none, none]) (M ++ [.lst [.ref 0, .int 0]]) := by
    simp [g_law_30, retF, sSeq, contK, sIf, sAsg, sRet, sRetN, sExpr, sPar, sNil, gN, gSb, gT, gsNil, gsCons, eVar, eLit, eOp, eUn, eArgs, aNil, aCons, eIf, eAnd, eOr, eNot, tTru, tOp', tOfE, eChain, chainK, tNot', tAnd', tOr', ordD, addD, subD, negD, gcdD, mkTup, truD, blV, gcT_self, gcD_self, gcF_self, sizeLine_eq, eCall, cd, mkLst, lM]
  obtain ⟨pts, t2, t3, t5, t6, t7, t8, t9, t10, t11, t12, t13, t14, t15, t16, t17, t18, M2, e2, hl6⟩ := law_loop (rngD 0 4) (M ++ [.lst [.ref 0, .int 0]]) 1 0 0 (some (.fl (ns.map D.int))) none none none none none none none none none none none none none none none none none bx (by rw [rng_len]; omega) (.inl (by intro z; have := rng_len 0 4; rw [z] at this; simp at this))
  have elp : (sFor (iRg1 (eLit (.int 4))) (gN 2) g_law_21) [some (.fl (ns.map D.int)), some (.ref 1), none, none, none, none, none, none, none, none, none, none, none, none, none, none, none, none, none] (M ++ [.lst [.ref 0, .int 0]]) = .ok (.nx [some (.fl (ns.map D.int)), some (.ref 1), t2, t3, some (.tup (pts.map dP)), t5, t6, t7, t8, t9, t10, t11, t12, t13, t14, t15, t16, t17, t18]) M2 := by
    unfold sFor
    rw [iRg1_nat (n := 4) rfl (by omega), R.bind_ok]
    exact e2
  obtain ⟨u12, u16, M3, e31⟩ := st31 (M := M2) (s0 := some (.fl (ns.map D.int))) (s1 := some (.ref 1)) (s2 := t2) (s3 := t3) (s4 := some (.tup (pts.map dP))) (s5 := t5) (s6 := t6) (s7 := t7) (s8 := t8) (s9 := t9) (s10 := t10) (s11 := t11) (s12 := t12) (s13 := t13) (s14 := t14) (s15 := t15) (s16 := t16) (s17 := t17) (s18 := t18)
  obtain ⟨v12, v16, M4, e32⟩ := st32 (M := M3) (pts := pts) (s0 := some (.fl (ns.map D.int))) (s1 := some (.ref 1)) (s2 := t2) (s3 := t3) (s5 := t5) (s6 := t6) (s7 := t7) (s8 := t8) (s9 := t9) (s10 := t10) (s11 := t11) (s12 := u12) (s13 := t13) (s14 := t14) (s15 := t15) (s16 := u16) (s17 := t17) (s18 := t18) hl6
  obtain ⟨M5, e33⟩ := st33 (M := M4) (ρ := [some (.fl (ns.map D.int)), some (.ref 1), t2, t3, some (.tup (pts.map dP)), t5, t6, t7, t8, t9, t10, t11, v12, t13, t14, t15, v16, t17, t18])
  refine ⟨M5, ?_⟩
  have main : g_law [some (.fl (ns.map D.int)), none, none, none, none, none, none, none, none, none, none, none, none, none, none, none, none, none, none] [] = .ok (.ret (.bl true)) M5 := seq_ok e30 (seq_ok elp (seq_ok e31 (seq_ok e32 e33)))
  show (g_law [some (.fl (ns.map D.int)), none, none, none, none, none, none, none, none, none, none, none, none, none, none, none, none, none, none] []).bind retF = _
  rw [main]
  rfl
end K34
end Dw

open PySem PySem.W PyProof.Rows
theorem PySem.Challenge.cw_ductwise_k34_best_lines_holds : PySem.Challenge.rw_ductwise_k34_best_lines.Holds := by
  w_on; o_law; k_head; (case hw => w_witness2)
  k_fill
  refine Dw.walk_G (k := 8) (n := 63) (x := "script") (cf := Dw.K34.f_law) rfl (by decide) rfl ⟨rfl, by decide, by decide⟩ ?F ?S
  case S => exact fun ns _ _ => Dw.K34.law_ok ns
  case F =>
    intro w mg fa h Y G hmg
    have X := km_in_of Y
    have TT := km_tabs_of Y
    refine' Dw.K34.w_all X G hmg ?a ?lk ?hcd ?kp ?x_BadValue ?x_TooMany ?x_Refused ?b_all ?b_bool ?b_int ?b_isinstance ?b_len ?b_range ?b_repr ?b_tuple ?b_gcd ?t_ZERO ?f__law_digits ?f__law_draw ?f_is_integer ?f_is_fraction ?f_is_point ?f_check_points ?f_lowest ?f_plus ?f_minus ?f_over ?f_times ?f_best_straight ?f__law_same ?f__law_gcd ?f__law_frac ?f__law_pick ?f__law_small ?f__law_plus ?f__law_sum ?f_squares_sum ?f__law_less ?f__law_minus ?f__law_told ?f__law_times ?f__law_row ?e_0_0 ?e_0_1 ?e_0_2 ?e_1_0 ?e_1_1 ?e_1_2 ?e_2_0 ?e_2_1 ?e_2_2 ?xf_0 ?xf_1 ?xf_2 ?hhd ?hPt ?hTT
    (case a => k_is); (case lk => k_is); (case hcd => k_is); (case kp => k_is)
    case x_BadValue =>
      refine' Dw.one_at X G ?aC ?xL ?iC ?l1 ?c1 ?lc ?lx ?sa ?nb ?tI ?kC ?eC ?vC ?tC ?any ?nos ?sup ?slf ?hbm ?top ?hvs ?hfile ?s1 ?s2 ?s3 ?s4 ?s5 ?s6 ?s7 ?s8 ?bd ?en
      (case aC => k_is); (case xL => k_is); (case iC => k_is); (case l1 => k_is); (case c1 => k_is); (case lc => k_is); (case lx => k_is); (case sa => k_is); (case nb => k_is); (case tI => k_is); (case kC => k_is); (case eC => k_is); (case vC => k_is); (case tC => k_is); (case any => k_is); (case nos => k_is); (case sup => kernel_rfl); (case slf => k_is)
      (case hbm => decide +kernel); (case top => decide +kernel); (case hvs => rfl); (case hfile => decide +kernel); (case s1 => rfl); (case s2 => rfl); (case s3 => rfl); (case s4 => rfl); (case s5 => decide); (case s6 => rfl); (case s7 => rfl); (case s8 => rfl); (case bd => intro u v; rfl); (case en => intro L; exact ⟨⟨_, rfl⟩, rfl, rfl, rfl⟩)
    case x_TooMany =>
      refine' Dw.one_at X G ?aC ?xL ?iC ?l1 ?c1 ?lc ?lx ?sa ?nb ?tI ?kC ?eC ?vC ?tC ?any ?nos ?sup ?slf ?hbm ?top ?hvs ?hfile ?s1 ?s2 ?s3 ?s4 ?s5 ?s6 ?s7 ?s8 ?bd ?en
      (case aC => k_is); (case xL => k_is); (case iC => k_is); (case l1 => k_is); (case c1 => k_is); (case lc => k_is); (case lx => k_is); (case sa => k_is); (case nb => k_is); (case tI => k_is); (case kC => k_is); (case eC => k_is); (case vC => k_is); (case tC => k_is); (case any => k_is); (case nos => k_is); (case sup => kernel_rfl); (case slf => k_is)
      (case hbm => decide +kernel); (case top => decide +kernel); (case hvs => rfl); (case hfile => decide +kernel); (case s1 => rfl); (case s2 => rfl); (case s3 => rfl); (case s4 => rfl); (case s5 => decide); (case s6 => rfl); (case s7 => rfl); (case s8 => rfl); (case bd => intro u v; rfl); (case en => intro L; exact ⟨⟨_, rfl⟩, rfl, rfl, rfl⟩)
    case x_Refused =>
      refine' Dw.one_at X G ?aC ?xL ?iC ?l1 ?c1 ?lc ?lx ?sa ?nb ?tI ?kC ?eC ?vC ?tC ?any ?nos ?sup ?slf ?hbm ?top ?hvs ?hfile ?s1 ?s2 ?s3 ?s4 ?s5 ?s6 ?s7 ?s8 ?bd ?en
      (case aC => k_is); (case xL => k_is); (case iC => k_is); (case l1 => k_is); (case c1 => k_is); (case lc => k_is); (case lx => k_is); (case sa => k_is); (case nb => k_is); (case tI => k_is); (case kC => k_is); (case eC => k_is); (case vC => k_is); (case tC => k_is); (case any => k_is); (case nos => k_is); (case sup => kernel_rfl); (case slf => k_is)
      (case hbm => decide +kernel); (case top => decide +kernel); (case hvs => rfl); (case hfile => decide +kernel); (case s1 => rfl); (case s2 => rfl); (case s3 => rfl); (case s4 => rfl); (case s5 => decide); (case s6 => rfl); (case s7 => rfl); (case s8 => rfl); (case bd => intro u v; rfl); (case en => intro L; exact ⟨⟨_, rfl⟩, rfl, rfl, rfl⟩)
    (case b_all => k_is)
    (case b_bool => k_is)
    (case b_int => k_is)
    (case b_isinstance => k_is)
    (case b_len => k_is)
    (case b_range => k_is)
    (case b_repr => k_is)
    (case b_tuple => k_is)
    (case b_gcd => k_is)
    case t_ZERO =>
      refine' Dw.tup_at X G ?te ?tl ?tv ?ts
      (case te => k_is); (case tl => k_is); (case tv => exact (.cons ⟨_, rfl⟩ (.cons ⟨_, rfl⟩ .nil))); (case ts => decide +kernel)
    case f__law_digits =>
      refine' Dw.fun_at X G ?hb ?a ?l ?c ?k
      (case a => k_is); (case l => k_is); (case c => k_is); (case k => k_is); (case hb => exact fun _ _ _ _ _ _ us hl => match us, hl with | [_, _, _], _ => rfl)
    case f__law_draw =>
      refine' Dw.fun_at X G ?hb ?a ?l ?c ?k
      (case a => k_is); (case l => k_is); (case c => k_is); (case k => k_is); (case hb => exact fun _ _ _ _ _ _ us hl => match us, hl with | [_, _], _ => rfl)
    case f_is_integer =>
      refine' Dw.fun_at X G ?hb ?a ?l ?c ?k
      (case a => k_is); (case l => k_is); (case c => k_is); (case k => k_is); (case hb => exact fun _ _ _ _ _ _ us hl => match us, hl with | [_], _ => rfl)
    case f_is_fraction =>
      refine' Dw.fun_at X G ?hb ?a ?l ?c ?k
      (case a => k_is); (case l => k_is); (case c => k_is); (case k => k_is); (case hb => exact fun _ _ _ _ _ _ us hl => match us, hl with | [_], _ => rfl)
    case f_is_point =>
      refine' Dw.fun_at X G ?hb ?a ?l ?c ?k
      (case a => k_is); (case l => k_is); (case c => k_is); (case k => k_is); (case hb => exact fun _ _ _ _ _ _ us hl => match us, hl with | [_], _ => rfl)
    case f_check_points =>
      refine' Dw.fun_at X G ?hb ?a ?l ?c ?k
      (case a => k_is); (case l => k_is); (case c => k_is); (case k => k_is); (case hb => exact fun _ _ _ _ _ _ us hl => match us, hl with | [_], _ => rfl)
    case f_lowest =>
      refine' Dw.fun_at X G ?hb ?a ?l ?c ?k
      (case a => k_is); (case l => k_is); (case c => k_is); (case k => k_is); (case hb => exact fun _ _ _ _ _ _ us hl => match us, hl with | [_, _], _ => rfl)
    case f_plus =>
      refine' Dw.fun_at X G ?hb ?a ?l ?c ?k
      (case a => k_is); (case l => k_is); (case c => k_is); (case k => k_is); (case hb => exact fun _ _ _ _ _ _ us hl => match us, hl with | [_, _], _ => rfl)
    case f_minus =>
      refine' Dw.fun_at X G ?hb ?a ?l ?c ?k
      (case a => k_is); (case l => k_is); (case c => k_is); (case k => k_is); (case hb => exact fun _ _ _ _ _ _ us hl => match us, hl with | [_, _], _ => rfl)
    case f_over =>
      refine' Dw.fun_at X G ?hb ?a ?l ?c ?k
      (case a => k_is); (case l => k_is); (case c => k_is); (case k => k_is); (case hb => exact fun _ _ _ _ _ _ us hl => match us, hl with | [_, _], _ => rfl)
    case f_times =>
      refine' Dw.fun_at X G ?hb ?a ?l ?c ?k
      (case a => k_is); (case l => k_is); (case c => k_is); (case k => k_is); (case hb => exact fun _ _ _ _ _ _ us hl => match us, hl with | [_, _], _ => rfl)
    case f_best_straight =>
      refine' Dw.fun_at X G ?hb ?a ?l ?c ?k
      (case a => k_is); (case l => k_is); (case c => k_is); (case k => k_is); (case hb => exact fun _ _ _ _ _ _ us hl => match us, hl with | [_], _ => rfl)
    case f__law_same =>
      refine' Dw.fun_at X G ?hb ?a ?l ?c ?k
      (case a => k_is); (case l => k_is); (case c => k_is); (case k => k_is); (case hb => exact fun _ _ _ _ _ _ us hl => match us, hl with | [_, _], _ => rfl)
    case f__law_gcd =>
      refine' Dw.fun_at X G ?hb ?a ?l ?c ?k
      (case a => k_is); (case l => k_is); (case c => k_is); (case k => k_is); (case hb => exact fun _ _ _ _ _ _ us hl => match us, hl with | [_, _], _ => rfl)
    case f__law_frac =>
      refine' Dw.fun_at X G ?hb ?a ?l ?c ?k
      (case a => k_is); (case l => k_is); (case c => k_is); (case k => k_is); (case hb => exact fun _ _ _ _ _ _ us hl => match us, hl with | [_, _], _ => rfl)
    case f__law_pick =>
      refine' Dw.fun_at X G ?hb ?a ?l ?c ?k
      (case a => k_is); (case l => k_is); (case c => k_is); (case k => k_is); (case hb => exact fun _ _ _ _ _ _ us hl => match us, hl with | [_, _], _ => rfl)
    case f__law_small =>
      refine' Dw.fun_at X G ?hb ?a ?l ?c ?k
      (case a => k_is); (case l => k_is); (case c => k_is); (case k => k_is); (case hb => exact fun _ _ _ _ _ _ us hl => match us, hl with | [_], _ => rfl)
    case f__law_plus =>
      refine' Dw.fun_at X G ?hb ?a ?l ?c ?k
      (case a => k_is); (case l => k_is); (case c => k_is); (case k => k_is); (case hb => exact fun _ _ _ _ _ _ us hl => match us, hl with | [_, _], _ => rfl)
    case f__law_sum =>
      refine' Dw.fun_at X G ?hb ?a ?l ?c ?k
      (case a => k_is); (case l => k_is); (case c => k_is); (case k => k_is); (case hb => exact fun _ _ _ _ _ _ us hl => match us, hl with | [_], _ => rfl)
    case f_squares_sum =>
      refine' Dw.fun_at X G ?hb ?a ?l ?c ?k
      (case a => k_is); (case l => k_is); (case c => k_is); (case k => k_is); (case hb => exact fun _ _ _ _ _ _ us hl => match us, hl with | [_, _, _], _ => rfl)
    case f__law_less =>
      refine' Dw.fun_at X G ?hb ?a ?l ?c ?k
      (case a => k_is); (case l => k_is); (case c => k_is); (case k => k_is); (case hb => exact fun _ _ _ _ _ _ us hl => match us, hl with | [_, _], _ => rfl)
    case f__law_minus =>
      refine' Dw.fun_at X G ?hb ?a ?l ?c ?k
      (case a => k_is); (case l => k_is); (case c => k_is); (case k => k_is); (case hb => exact fun _ _ _ _ _ _ us hl => match us, hl with | [_, _], _ => rfl)
    case f__law_told =>
      refine' Dw.fun_at X G ?hb ?a ?l ?c ?k
      (case a => k_is); (case l => k_is); (case c => k_is); (case k => k_is); (case hb => exact fun _ _ _ _ _ _ us hl => match us, hl with | [_], _ => rfl)
    case f__law_times =>
      refine' Dw.fun_at X G ?hb ?a ?l ?c ?k
      (case a => k_is); (case l => k_is); (case c => k_is); (case k => k_is); (case hb => exact fun _ _ _ _ _ _ us hl => match us, hl with | [_, _], _ => rfl)
    case f__law_row =>
      refine' Dw.fun_at X G ?hb ?a ?l ?c ?k
      (case a => k_is); (case l => k_is); (case c => k_is); (case k => k_is); (case hb => exact fun _ _ _ _ _ _ us hl => match us, hl with | [_, _], _ => rfl)
    (case e_0_0 => first | k_is | kernel_rfl)
    (case e_0_1 => first | k_is | kernel_rfl)
    (case e_0_2 => first | k_is | kernel_rfl)
    (case e_1_0 => first | k_is | kernel_rfl)
    (case e_1_1 => first | k_is | kernel_rfl)
    (case e_1_2 => first | k_is | kernel_rfl)
    (case e_2_0 => first | k_is | kernel_rfl)
    (case e_2_1 => first | k_is | kernel_rfl)
    (case e_2_2 => first | k_is | kernel_rfl)
    (case xf_0 => kernel_rfl)
    (case xf_1 => kernel_rfl)
    (case xf_2 => kernel_rfl)
    (case hTT => exact TT _ (List.mem_singleton.mpr rfl)); (case hhd => kernel_rfl); (case hPt => first | k_is | kernel_rfl)
